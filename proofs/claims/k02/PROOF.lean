import PyProof.Rows.All
import Wide.All
import OpenK.AllK
import Wide.FinOn
import HandS.ForMost
import HandS.Exc
import HandS.ExcOwn
import HandS.WordsExc
import HandS.TryOnly
import HandS.Deep
import HandS.Head2
import HandS.HeadHook4
import HandS.HeadWalk
import HandS.Nested
import HandS.AnyAll
import HandS.GenList
import HandS.GenOver
import HandS.Comp
import HandS.TupSets
import KE.KDictKeyed
import HandS.SetKeys
import HandS.Dict
import HandS.Small
import KE.KDictDisplayH
import PyProof.Rows.TupTab
import HandS.Zip
import KE.GoesEnum
import HandS.DictComp
import HandS.SetBool
import HandS.TupAny
import HandS.Style
import HandS.IsInst
import HandS.SortInts
import HandS.NoneIn
import PyProof.Rows.CountFlat
import HandS.ExcIs
import HandS.Conv
import PyProof.NeKinds
import KE.LtData
import KE.SortCalls
import KE.SortData
import HandS.Iter
import HandS.DeepEq
import KE.KEqNest
import KE.KDictWalk
import KE.DataAny
import HandS.TupLe
import PySem.Challenge.RW_caseslive_k02_whole_verdicts_hold
set_option Elab.async false
set_option linter.all false
set_option maxRecDepth 100000
set_option maxHeartbeats 4000000
/-! Fx00: what is looked at in the head, ahead of all else. -/
namespace Fx
open PySem PySem.Spec PyProof.Rows L2
def tabAll (tf : List He.Defn) (K : PySem.W.Frag) : Bool := K.all fun q => match q.2.data with
  | .fields vs => (match (vs[11]? : Option Value) with
    | some (.ref P) => (K.lookup P).isSome || (tf.map (He.cT K)).contains (q.1, P)
    | _ => true)
  | _ => true
def excCB (K : PySem.W.Frag) (D : Addr) : Bool :=
  decide (PySem.W.findIn K (.ref D) "__getattribute__" = some (some (.builtin "BaseException.__getattribute__"))) &&
  (decide (PySem.W.findIn K (.ref D) "__getattr__" = some none) &&
  (decide (PySem.W.subIn K (.ref D) (.type "BaseException") = some true) &&
  (PySem.W.hasDictIn K D &&
  (decide (PySem.W.findIn K (.ref D) "__class__" = some (some (.builtin "object.__class__"))) &&
  (decide (PySem.W.specialIn K (.builtin "object.__class__") "__get__" = some (some (.builtin "getset_descriptor.__get__"))) &&
  (decide (PySem.W.takesIn K (.builtin "object.__class__") = some true) &&
  decide (PySem.W.mroIn K D (.type "object") = some true)))))))
def chkX (tf : List He.Defn) (es : List Str) (ks : List (Str × Str × Bool)) (K : PySem.W.Frag) : Bool :=
  tabAll tf K && (es.all (fun c => excCB K (He.ga K c)) && ks.all fun k => decide (PySem.W.kitOne K (.ref (He.ga K k.1)) (.ref (He.ga K k.2.1)) = some k.2.2))
end Fx

set_option Elab.async false
set_option linter.all false
set_option maxRecDepth 100000
set_option maxHeartbeats 4000000
namespace Lw
open PySem PySem.Spec PyProof.Rows L2 Fx
def topS (i : Nat) : Stmt := PySem.Challenge.pw_caseslive_k02_whole_verdicts_hold.main.body.getD i (.Pass ⟨0, 0, 0, 0⟩)
abbrev s_Rule___init__ : Stmt := inClass (topS 1) 0
abbrev s_state_after : Stmt := topS 2
abbrev s_accepts : Stmt := topS 3
abbrev s_states_from : Stmt := topS 4
abbrev s_verdict : Stmt := topS 5
abbrev s__law_cell : Stmt := topS 7
abbrev s__law_row : Stmt := topS 8
abbrev s__law_word : Stmt := topS 9
abbrev s__law_names : Stmt := topS 10
abbrev s__law_rule : Stmt := topS 11
abbrev s__law_rules : Stmt := topS 12
abbrev s__law_state : Stmt := topS 13
abbrev s__law_trace : Stmt := topS 14
abbrev s__law_traces : Stmt := topS 15
abbrev s__law_all : Stmt := topS 16
abbrev s__law_holds : Stmt := topS 17
abbrev s__law_differs : Stmt := topS 18
abbrev s_law : Stmt := topS 19
def d_Rule___init__ : He.DefD := ⟨("Rule", some "__init__"), "__init__", "Rule.__init__", defArgs s_Rule___init__, defBody s_Rule___init__, defScope s_Rule___init__, [], []⟩
def d_state_after : He.DefD := ⟨("state_after", none), "state_after", "state_after", defArgs s_state_after, defBody s_state_after, defScope s_state_after, [], []⟩
def d_accepts : He.DefD := ⟨("accepts", none), "accepts", "accepts", defArgs s_accepts, defBody s_accepts, defScope s_accepts, [], []⟩
def d_states_from : He.DefD := ⟨("states_from", none), "states_from", "states_from", defArgs s_states_from, defBody s_states_from, defScope s_states_from, [], []⟩
def d_verdict : He.DefD := ⟨("verdict", none), "verdict", "verdict", defArgs s_verdict, defBody s_verdict, defScope s_verdict, [], []⟩
def d__law_cell : He.DefD := ⟨("_law_cell", none), "_law_cell", "_law_cell", defArgs s__law_cell, defBody s__law_cell, defScope s__law_cell, [], []⟩
def d__law_row : He.DefD := ⟨("_law_row", none), "_law_row", "_law_row", defArgs s__law_row, defBody s__law_row, defScope s__law_row, [], []⟩
def d__law_word : He.DefD := ⟨("_law_word", none), "_law_word", "_law_word", defArgs s__law_word, defBody s__law_word, defScope s__law_word, [], []⟩
def d__law_names : He.DefD := ⟨("_law_names", none), "_law_names", "_law_names", defArgs s__law_names, defBody s__law_names, defScope s__law_names, [], []⟩
def d__law_rule : He.DefD := ⟨("_law_rule", none), "_law_rule", "_law_rule", defArgs s__law_rule, defBody s__law_rule, defScope s__law_rule, [], []⟩
def d__law_rules : He.DefD := ⟨("_law_rules", none), "_law_rules", "_law_rules", defArgs s__law_rules, defBody s__law_rules, defScope s__law_rules, [], []⟩
def d__law_trace : He.DefD := ⟨("_law_trace", none), "_law_trace", "_law_trace", defArgs s__law_trace, defBody s__law_trace, defScope s__law_trace, [], []⟩
def d__law_all : He.DefD := ⟨("_law_all", none), "_law_all", "_law_all", defArgs s__law_all, defBody s__law_all, defScope s__law_all, [], []⟩
def d__law_holds : He.DefD := ⟨("_law_holds", none), "_law_holds", "_law_holds", defArgs s__law_holds, defBody s__law_holds, defScope s__law_holds, [], []⟩
def d__law_differs : He.DefD := ⟨("_law_differs", none), "_law_differs", "_law_differs", defArgs s__law_differs, defBody s__law_differs, defScope s__law_differs, [], []⟩
def d_law : He.DefD := ⟨("law", none), "law", "law", defArgs s_law, defBody s_law, defScope s_law, [], []⟩
def fa0 : List He.Fa := [.free "all", .free "any", .free "int", .free "len", .free "list", .free "range", .free "tuple", .glo "Rule", .cls "Rule", .noat "Rule" "accepting", .noat "Rule" "moves", .mkr "Rule", .glo "state_after", .glo "accepts", .glo "states_from", .glo "verdict", .glo "_law_cell", .glo "_law_row", .glo "_law_word", .glo "_law_names", .glo "_law_rule", .glo "_law_rules", .glo "_law_trace", .glo "_law_all", .glo "_law_holds", .glo "_law_differs", .glo "law"]
abbrev fa : List He.Fa := fa0
def fn0 : List He.DefD := [d_Rule___init__, d_state_after, d_accepts, d_states_from, d_verdict, d__law_cell, d__law_row, d__law_word, d__law_names, d__law_rule, d__law_rules, d__law_trace, d__law_all, d__law_holds, d__law_differs, d_law]
abbrev fn : List He.DefD := fn0
def tf0 : List He.Defn := [("Rule", some "__init__"), ("state_after", none), ("accepts", none), ("states_from", none), ("verdict", none), ("_law_cell", none), ("_law_row", none), ("_law_word", none), ("_law_names", none), ("_law_rule", none), ("_law_rules", none), ("_law_state", none), ("_law_trace", none), ("_law_traces", none), ("_law_all", none), ("_law_holds", none), ("_law_differs", none), ("law", none)]
abbrev tf : List He.Defn := tf0
abbrev exl : List Str := []
abbrev ktl : List (Str × Str × Bool) := []
def nms0 : List Str := ["Rule", "state_after", "accepts", "states_from", "verdict", "_law_cell", "_law_row", "_law_word", "_law_names", "_law_rule", "_law_rules", "_law_state", "_law_trace", "_law_traces", "_law_all", "_law_holds", "_law_differs"]
abbrev nms : List Str := nms0
abbrev R : PySem.W.OpenRow := PySem.W.OpenLaw.row PySem.Challenge.rw_caseslive_k02_whole_verdicts_hold
abbrev hk : PySem.W.Hook := He.hookX 6 fa fn [] tf (chkX tf exl ktl)
def ob (s : PySem.W.SharedT) : He.AlX := He.obsX 6 fa fn [] tf (chkX tf exl ktl) (HandSHeadRun.getT s)
theorem ob_eq (s : PySem.W.SharedT) : ob s = hk.obs s.abs := He.obsX_eq (HandSHeadRun.getT_eq s)
section
open PySem.W PySem.Calls
theorem run1 (w : World) (os : OsState) : (HandSHeadRun.endF (HandSHeadRun.stepQ (HandSHeadRun.denQ HandSHeadRun.tabQ) R.prog w) 6000 R.prog w os).map (fun s => HandSHeadRun.looksF R.prog (boot_heap w.params) s.abs) = some true := by
  kernel_rfl
theorem run2 (w : World) (os : OsState) : (HandSHeadRun.endF (HandSHeadRun.stepQ (HandSHeadRun.denQ HandSHeadRun.tabQ) R.prog w) 6000 R.prog w os).map (fun s => HandSHeadRun.seenQ (PySem.W.view R.prog [19]) nms (importedModules R.prog.main.body) (fun s => xlAt (PySem.W.view R.prog [19]) [] s && recOk R.toRowW.records s) s.abs) = some (openGood (PySem.W.view R.prog [19]) nms) := by
  kernel_rfl
theorem run3 (w : World) (os : OsState) : (HandSHeadRun.endF (HandSHeadRun.stepQ (HandSHeadRun.denQ HandSHeadRun.tabQ) R.prog w) 6000 R.prog w os).map (fun s => (ob s).1) = some (hk.val w).1 := by
  kernel_rfl
theorem run4 (w : World) (os : OsState) : (HandSHeadRun.endF (HandSHeadRun.stepQ (HandSHeadRun.denQ HandSHeadRun.tabQ) R.prog w) 6000 R.prog w os).map (fun s => (ob s).2) = some (hk.val w).2 := by
  kernel_rfl
end
theorem opt4 {α β γ δ ε : Type} {o : Option α} {f : α → β} {g : α → γ} {h : α → δ × ε} {a : β} {b : γ} {c : δ × ε} (h1 : o.map f = some a) (h2 : o.map g = some b) (h3 : o.map (fun s => (h s).1) = some c.1) (h4 : o.map (fun s => (h s).2) = some c.2) : o.map (fun s => (f s, g s, h s)) = some (a, b, c) := by
  cases o with
  | none => cases h1
  | some s =>
    rw [Option.map_some, Option.some.injEq] at h1 h2 h3 h4 ⊢
    rw [h1, h2, show h s = c from Prod.ext h3 h4]
theorem run (w : World) : HandSHeadRun.RunEq R (PySem.W.view R.prog [19]) hk ob 6000 nms w := fun os => opt4 (run1 w os) (run2 w os) (run3 w os) (run4 w os)
end Lw

set_option Elab.async false
set_option linter.all false
namespace Gx
open PySem
def nstPos (l c : Nat) : Option Str := none
end Gx

set_option Elab.async false
set_option linter.all false
set_option maxRecDepth 100000
set_option maxHeartbeats 4000000
/-! Gx1: a generator expression whose element is any expression of the layer: its own context, its loop. -/
namespace Gx
open PySem PySem.Spec PyProof.Rows L2
abbrev gen (X : Cx) (A : Around) (s : Shared) (H : Hp) (cenv : Env) (fp : List Addr) (pn : List (Addr × Obj)) : Cx :=
  { X with A := A, s_0 := s, H_0 := H, env := cenv, outer := X.stack, stack := cenv :: X.stack, ex := fp, fn := fun y => cenv.scope.names.lookup y == some .cell, pn := pn, xe := fun _ _ => False }
abbrev gEnv (X : Cx) (scope : Scope) (C : Addr) (code : Value) : Env := genEnv scope (cloFrom X.env.cells scope.names []) C code builtinsNs X.env
section
variable {X : Cx} {pins : List (Addr × Obj)} {σ : L2.St} {H : Hp} {s : Shared}
theorem gen_start {scope : Scope} {own : List (Str × Nat)} {fp : List Addr} {A : Around} {code : Value} {s5 : Shared} {m5 : Str → Option Value} (I : Inv X pins σ H s) (ok : BlkOk X.N X.env.scope scope own) (hN : X.N.Nodup) (hfp : ∀ b ∈ fp, FpOk X pins H b ∧ b < s.heap.objs.size)
    (nc : ∀ y ∈ scope.names, y.2 ≠ .cell) (hA : A.handled = none) (hfr : A.frames = some (gEnv X scope s.heap.objs.size code :: X.stack)) (hn : s5.heap.Ns s.heap.objs.size m5) (hk : ∀ b o, s.heap.get? b = some o → s5.heap.get? b = some o) (ho : s5.os = s.os) (hb : AllBare s5.gens) :
    Inv (gen X A s H (gEnv X scope s.heap.objs.size code) fp []) [] (wipe σ (own.map (·.2))) H s5 := by
  have fre : ∀ y ∈ scope.names, y.2 = .free → ∃ c, X.env.cells.lookup y.1 = some c := fun y hy e => by
    exact I.ok.has _ (ok.free y hy e)
  have sub : ∀ {y c}, (cloFrom X.env.cells scope.names []).lookup y = some c → X.env.cells.lookup y = some c ∧ c < s.heap.objs.size := fun {y c} e => by
    rcases cloFrom_mem (PySem.mem_of_lookup e) with h | ⟨h1, h2⟩
    · cases h
    · obtain ⟨c', hc⟩ := fre _ h1 rfl
      have hc : X.env.cells.lookup y = some c' := hc
      rw [hc] at h2
      have h2 : c = c' := h2
      subst h2
      obtain ⟨v, z⟩ := I.cell _ _ hc
      exact ⟨hc, z.lt⟩
  have fr : ∀ {y}, scope.names.lookup y = some .free → ∃ c, (cloFrom X.env.cells scope.names []).lookup y = some c := fun {y} h =>
    mem_lookup (cloFrom_has (cells := X.env.cells) (acc := []) (PySem.mem_of_lookup h))
  have nocell : ∀ {y}, scope.names.lookup y ≠ some .cell := fun {y} h => nc _ (PySem.mem_of_lookup h) rfl
  have okG : (gen X A s H (gEnv X scope s.heap.objs.size code) fp []).Ok := by
    refine ⟨I.ok.mod, ok.kind, I.ok.glob, rfl, Nat.le_refl _, fun y z c e1 e2 => I.ok.inj y z c (sub e1).1 (sub e2).1, fun y hy => ?_, fun y c z e => ?_, fun _ => hA, hfr, .inr ⟨rfl, rfl⟩,
      fun b hb => ⟨?_, fun y c e z => (hfp b hb).1.2.2.2.2.1 y c (sub e).1 z⟩, I.bs, Nat.le_trans I.ok.bsz I.sz, fun b o e hb => ?_, fun b hb z => ?_, I.stack, I.stkFree⟩
    · rcases hy with hy | hy
      · exact absurd hy nocell
      · exact fr hy
    · exact absurd (beq_iff_eq.mp (show (scope.names.lookup y == some NameKind.cell) = true from z)) nocell
    · show b ≠ s.heap.objs.size
      exact Nat.ne_of_lt (hfp b hb).2
    · rcases (hfp b hb).1.2.2.2.1 with z | z
      · exact I.ok.noex b o e z
      · exact absurd (Heap.lt_size e) (Nat.not_lt.mpr (Nat.le_trans I.ok.bsz z))
    · rcases List.mem_cons.mp (I.stkSub b z) with z | z
      · exact (hfp b hb).1.2.1 z
      · exact (hfp b hb).1.2.2.1 z
  refine ⟨okG, ho, hb, Un.kept hk, ⟨m5, hn, fun i y av e1 e2 e3 => ?_⟩, fun y c e => ?_, I.hok.fresh (Nat.le_refl _), fun y c e => I.freeC y c (sub e).1, fun p hp => absurd (show p ∈ ([] : List (Addr × Obj)) ++ [] from hp) (by simp), I.hok.kept hk, by rw [wipe_length]; exact I.len⟩
  · obtain ⟨e2, hne⟩ := wipe_some e2
    have hfree : scope.names.lookup y = some .free := by
      have no : ¬ (scope.names.lookup y = some .local ∨ scope.names.lookup y = some .cell) := fun h => by
        have hm : ∃ k, (y, k) ∈ scope.names ∧ (k = .local ∨ k = .cell) := h.elim (fun h => ⟨_, PySem.mem_of_lookup h, .inl rfl⟩) fun h => ⟨_, PySem.mem_of_lookup h, .inr rfl⟩
        obtain ⟨k, hm, hk⟩ := hm
        rcases ok.own _ hm hk with q | q
        · obtain ⟨p, hp, hpy⟩ := List.mem_map.mp q
          have e3 := ok.ix p hp
          have hpy : p.1 = y := hpy
          rw [hpy] at e3
          have same := nodup_ix hN e3 e1
          exact hne (same ▸ List.mem_map_of_mem hp)
        · exact q (List.mem_of_getElem? e1)
      rcases e3 with h | h | h
      · exact absurd (.inl h) no
      · exact absurd (.inr h) no
      · exact h
    obtain ⟨m, _, hl⟩ := I.loc
    have hvis : Vis X.env.scope y := (ok.free _ (PySem.mem_of_lookup hfree) rfl).elim (fun k => .inr (.inl k)) (fun k => .inr (.inr k))
    obtain ⟨w, r, q⟩ := hl i y av e1 e2 hvis
    refine ⟨w, r, .inr ⟨.inr hfree, ?_⟩⟩
    obtain ⟨c, h1⟩ := fr hfree
    rcases q with ⟨k, _⟩ | ⟨_, c', e', z⟩
    · have loc : X.env.scope.names.lookup y = some .local := k
      have notLoc : X.env.scope.names.lookup y ≠ some .local := (ok.free _ (PySem.mem_of_lookup hfree) rfl).elim (fun k z => nomatch k.symm.trans z) fun k z => nomatch k.symm.trans z
      exact absurd loc notLoc
    · have h2 := (sub h1).1
      rw [h2] at e'
      cases e'
      exact ⟨c, h1, z.keeps hk⟩
  · obtain ⟨h1, _⟩ := sub e
    obtain ⟨v, z⟩ := I.cell y c h1
    exact ⟨v, z.keeps hk⟩
theorem pinned {A : Around} {cenv : Env} {fp : List Addr} {pn ps : List (Addr × Obj)} {s1 : Shared} {H' : Hp} (I : Inv (gen X A s H cenv fp []) ps σ H' s1)
    (h : ∀ p ∈ pn ++ ps, s1.heap.get? p.1 = some p.2 ∧ H' p.1 = none ∧ p.1 ≠ cenv.locals ∧ p.1 ∉ frs X.stack ∧ ∀ v, p.2.data ≠ .cell v) : Inv (gen X A s H cenv fp pn) ps σ H' s1 :=
  ⟨⟨I.ok.mod, I.ok.kind, I.ok.glob, I.ok.blt, I.ok.above, I.ok.inj, I.ok.has, I.ok.cab, I.ok.hd, I.ok.frames, I.ok.stk, I.ok.exf, I.ok.bs, I.ok.bsz, I.ok.noex, I.ok.exfs, I.ok.funs, I.ok.frf⟩, I.os, I.bare, I.base, I.loc, I.cell, I.free, I.freeC, h, I.hok, I.len⟩
end
theorem over_gen {A : Around} {elt tg iter : Expr} {scope : Scope} {pos : Pos} {d : Nat} {it acc : Value} {env : Env} (hf : env.frame ≠ none) : A.over (.compLoop (.GeneratorExp elt [⟨tg, iter, [], d⟩] scope pos) 0 it acc env) [] = A.deeper env := by
  first
    | rfl
    | (obtain ⟨hd, dp, fs, gs, u⟩ := A; simp [Around.over, Around.deeper, marksOver, frameCount, unitsOf, envsOf, guardsOf, pushEnvs, pushGuards, Code.envs, Code.env?, Code.isFrame, Code.guards, Code.isGuard, Code.weight, Code.frames, Code.isCreation, Code.isCaller, Code.cUnits])
end Gx

set_option Elab.async false
set_option linter.all false
set_option maxRecDepth 100000
set_option maxHeartbeats 4000000
/-! Gx2: the generator's loop. -/
namespace Gx
open PySem PySem.Spec PyProof.Rows L2
def Walk (J : It) (g : TG) (te : TE) (vs : List Nat) (neg : Bool) (σ : L2.St) (Q : VK) (W : Nat → Nat → Hp → Prop) : Prop := ∀ i m H, W i m H → (J.stop i H ∧ Q (.bl (!neg)) H) ∨
  (J.go i H ∧ ∀ x H', J.yld i H x H' → g x (wipe σ vs) H' fun σ2 H3 => wipe σ2 vs = wipe σ vs ∧ te σ2 H3 fun y H4 => ∃ b, y = .bl b ∧ (if b = neg then Q (.bl neg) H4 else ∃ m', m' < m ∧ W (i + 1) m' H4))
def REnd (Y : Cx) (σ : L2.St) (vs : List Nat) (neg : Bool) (Q : VK) : GenEnd := fun _ _ r s1 => r = .ok .next ∧ ∃ H', Inv Y [] (wipe σ vs) H' s1 ∧ Q (.bl (!neg)) H'
def YBool (Y : Cx) (σ : L2.St) (vs : List Nat) (neg : Bool) (Q : VK) : Protocol := fun _ _ v s1 kap =>
  ∃ b H', v = .bool b ∧ Inv Y [] (wipe σ vs) H' s1 ∧ (if b = neg then Q (.bl neg) H' else ∀ s' : Shared, s'.heap = s1.heap → s'.os = s1.os → AllBare s'.gens → kap (.send .none) s')
theorem Inv.sameHeap {X : Cx} {pins : List (Addr × Obj)} {σ : L2.St} {H : Hp} {s s' : Shared} (I : Inv X pins σ H s) (h : s'.heap = s.heap) (ho : s'.os = s.os) (hb : AllBare s'.gens) : Inv X pins σ H s' :=
  I.call' (ch := []) ho (Un.kept fun b o e => by rw [h]; exact e) (by rw [h]; exact I.hok) hb fun b z => by simp at z
section
variable {X : Cx} {σ : L2.St} {H3 : Hp} {s3 : Shared} {B : Around} {ce : Env} {fp : List Addr} {pn : List (Addr × Obj)} {elt tg iter : Expr} {scope : Scope} {pos : Pos} {it : Addr} {tn : Nat → Heap → Prop} {J : It} {g : TG} {te : TE} {vs : List Nat} {neg : Bool} {Q : VK} {W : Nat → Nat → Hp → Prop}
theorem seg_gen (hc : X.calm = true) (hco : ce.scope.isCoroutine = false) (hf : ce.frame ≠ none) (T : Turn X.prog X.w X.K tg J fp it tn)
    (pg : PG (gen X (B.deeper ce) s3 H3 ce fp pn) tg g) (pe : PE (gen X (B.deeper ce) s3 H3 ce fp pn) elt te) (hfp : ∀ b ∈ fp, ∀ p ∈ pn, p.1 ≠ b) (wk : Walk J g te vs neg σ Q W) :
    ∀ (m i n : Nat) (s₀ s5 : Shared) (H5 : Hp), m < n → W i m H5 → Inv (gen X (B.deeper ce) s3 H3 ce fp pn) [] (wipe σ vs) H5 s5 → tn i s5.heap → (∀ b ∈ fp, H5 b = none) →
      Seg (model X.prog X.w) B (REnd (gen X (B.deeper ce) s3 H3 ce fp pn) σ vs neg Q) (YBool (gen X (B.deeper ce) s3 H3 ce fp pn) σ vs neg Q) n s₀ (.compLoop (.GeneratorExp elt [⟨tg, iter, [], 0⟩] scope pos) 0 (.ref it) .none ce)
        ((model X.prog X.w).den (.compLoop (.GeneratorExp elt [⟨tg, iter, [], 0⟩] scope pos) 0 (.ref it) .none ce)) [] s5 := by
  have stat : ∀ {σ' : L2.St} {H' : Hp} {s' : Shared}, Inv (gen X (B.deeper ce) s3 H3 ce fp pn) [] σ' H' s' → (∀ b ∈ fp, H' b = none) → ∀ b ∈ fp, FpOk (gen X (B.deeper ce) s3 H3 ce fp pn) [] H' b := fun {σ' H' s'} I' hn b hb =>
    ⟨hn b hb, (I'.ok.exf b hb).1, I'.ok.exfs b hb, .inl hb, fun x c e => (I'.ok.exf b hb).2 x c e, fun p hp => by rw [List.append_nil] at hp; exact hfp b hb p hp⟩
  have ov : B.over (.compLoop (.GeneratorExp elt [⟨tg, iter, [], 0⟩] scope pos) 0 (.ref it) .none ce) [] = B.deeper ce := over_gen hf
  intro m
  induction m using Nat.strongRecOn with
  | ind m ih =>
    intro i n s₀ s5 H5 hmn w5 I5 st5 n5
    show Seg _ B _ _ n s₀ _ ((compTurn (.GeneratorExp elt [⟨tg, iter, [], 0⟩] scope pos) 0 (.ref it) .none ce).onRaise (leaving ce)) [] s5
    rw [compTurn_gen, Sem.onRaise_eq_wrap]
    refine seg_bind_wrap (wpAny_standAt ?_)
    rcases wk i m H5 w5 with ⟨stop, q⟩ | ⟨go, step⟩
    · refine seg_bind_wrap ?_
      rw [ov]
      refine thnF (T.done (gen X (B.deeper ce) s3 H3 ce fp pn) rfl rfl rfl hc i [] s5 _ H5 (fun _ _ => False) I5 (stat I5 n5) st5 stop) fun r s6 ⟨hr, I6⟩ => ?_
      subst hr
      exact seg_end (.ok .next) ⟨rfl, H5, I6, q⟩
    · refine seg_bind_wrap ?_
      rw [ov]
      refine thnF (T.item (gen X (B.deeper ce) s3 H3 ce fp pn) rfl rfl rfl hc i [] s5 _ H5 (fun _ _ => False) I5 (stat I5 n5) st5 go) fun r s6 ⟨u, hr, h6⟩ => ?_
      subst hr
      refine seg_bind_wrap ?_
      rw [ov]
      refine thnF h6 fun _ s7 ⟨x, H7, I7, r7, y7, st7, n7⟩ => ?_
      have I7' := I7.pinned (stat I7 n7) (T.obj _ _ st7)
      refine seg_bind_wrap ?_
      rw [ov]
      refine thnF (pg.run _ s7 _ H7 x u _ I7' r7 (step x H7 y7)) fun _ s8 ⟨σ8, H8, I8, hw8, q8⟩ => ?_
      simp only [List.forIn_nil]
      refine seg_bind_wrap (wpAny_pure ?_)
      simp only [if_true]
      have hy : ∀ v, yieldOut ce v = yieldValue v := fun v => by simp only [yieldOut, hco, Bool.false_eq_true, if_false]
      simp only [hy]
      rw [Sem.bind_eq_wrap', Sem.bind_eq_wrap', Sem.wrap_wrap, Sem.wrap_wrap]
      refine seg_wrap ?_
      rw [ov]
      refine thnF (pe.run _ s8 σ8 H8 _ I8 q8) fun y s9 ⟨yv, H9, I9, r9, b, hb, q9⟩ => ?_
      subst hb
      obtain rfl : y = Value.bool b := r9
      have pin9 : ∀ c ∈ fp, ∀ o, s7.heap.get? c = some o → s9.heap.get? c = some o ∧ H9 c = none := fun c hc2 o e =>
        let z := I9.pin (c, o) (List.mem_append_right _ (List.mem_append_right _ (mem_pinsAt hc2 e)))
        ⟨z.1, z.2.1⟩
      have hl : (wipe σ vs).length = σ8.length := by rw [← hw8, wipe_length]
      have J9 : Inv (gen X (B.deeper ce) s3 H3 ce fp pn) [] (wipe σ vs) H9 s9 := (I9.unpinned (pins := [])).weak hl (fun j v e => by
        rw [← hw8] at e
        exact (wipe_some e).1)
      have st9 : tn (i + 1) s9.heap := T.keep _ _ _ st7 fun c hc2 o e => (pin9 c hc2 o e).1
      have n9 : ∀ c ∈ fp, H9 c = none := fun c hc2 => by
        obtain ⟨o, e, _⟩ := T.obj _ _ st7 c hc2
        exact (pin9 c hc2 o e).2
      by_cases hbn : b = neg
      · rw [if_pos hbn] at q9
        obtain ⟨n, rfl⟩ : ∃ k, n = k + 1 := ⟨n - 1, by omega⟩
        refine seg_at (seg_yield rfl rfl rfl ⟨b, H9, rfl, J9, ?_⟩)
        rw [if_pos hbn]
        exact q9
      · rw [if_neg hbn] at q9
        obtain ⟨m', hm', w9⟩ := q9
        obtain ⟨n, rfl⟩ : ∃ k, n = k + 1 := ⟨n - 1, by omega⟩
        refine seg_at (seg_yield rfl rfl rfl ⟨b, H9, rfl, J9, ?_⟩)
        rw [if_neg hbn]
        intro s' h1 h2 h3
        exact seg_again rfl (ih m' hm' (i + 1) n s' s' H9 (by omega) w9 (Inv.sameHeap J9 h1 h2 h3) (by rw [h1]; exact st9) n9)
end
end Gx

set_option Elab.async false
set_option linter.all false
set_option maxRecDepth 100000
set_option maxHeartbeats 4000000
/-! Gx3: the generator is made; all and any walk it. -/
namespace Gx
open PySem PySem.Spec PyProof.Rows L2
section
variable {X : Cx} {σ : L2.St} {H3 : Hp} {s3 : Shared} {B : Around} {ce : Env} {fp : List Addr} {pn : List (Addr × Obj)} {elt tg iter : Expr} {scope : Scope} {pos : Pos} {it : Addr} {tn : Nat → Heap → Prop} {J : It} {g : TG} {te : TE} {vs : List Nat} {neg : Bool} {Q : VK} {W : Nat → Nat → Hp → Prop}
theorem seg_first (hc : X.calm = true) (hco : ce.scope.isCoroutine = false) (hf : ce.frame ≠ none) (T : Turn X.prog X.w X.K tg J fp it tn)
    (pg : PG (gen X (B.deeper ce) s3 H3 ce fp pn) tg g) (pe : PE (gen X (B.deeper ce) s3 H3 ce fp pn) elt te) (hfp : ∀ b ∈ fp, ∀ p ∈ pn, p.1 ≠ b) (wk : Walk J g te vs neg σ Q W)
    (m n : Nat) (s₀ s5 : Shared) (H5 : Hp) (hm : m < n) (w5 : W 0 m H5) (I5 : Inv (gen X (B.deeper ce) s3 H3 ce fp pn) [] (wipe σ vs) H5 s5) (st5 : tn 0 s5.heap) (n5 : ∀ b ∈ fp, H5 b = none) :
    Seg (model X.prog X.w) B (REnd (gen X (B.deeper ce) s3 H3 ce fp pn) σ vs neg Q) (YBool (gen X (B.deeper ce) s3 H3 ce fp pn) σ vs neg Q) n s₀ (.compStart (.GeneratorExp elt [⟨tg, iter, [], 0⟩] scope pos) 0 (.ref it) .none ce)
      ((model X.prog X.w).den (.compStart (.GeneratorExp elt [⟨tg, iter, [], 0⟩] scope pos) 0 (.ref it) .none ce)) [] s5 := by
  have loop := seg_gen (iter := iter) (scope := scope) (pos := pos) hc hco hf T pg pe hfp wk m 0 n s₀ s5 H5 hm w5 I5 st5 n5
  show Seg _ B _ _ _ s₀ _ ((compStart (.GeneratorExp elt [⟨tg, iter, [], 0⟩] scope pos) 0 (.ref it) .none ce).onRaise (leaving ce)) [] s5
  unfold compStart
  rw [Sem.onRaise_eq_wrap]
  show Seg _ B _ _ _ s₀ _ ((ask >>= _).wrap _ _ _ _) [] s5
  refine seg_bind_wrap (wpAny_askSetting ?_)
  split
  · exact seg_again rfl loop
  · first
      | exact seg_bind_wrap (wpAny_rule (seg_bind_wrap (wpAny_standAt (seg_bind_wrap (T.self _ 0 s5 _ _ st5 (seg_again rfl loop))))))
      | (refine seg_bind_wrap (wpAny_rule ?_); show Seg _ B _ _ _ s₀ _ ((standAt iter.pos >>= _).wrap _ _ _ _) [] s5; exact seg_bind_wrap (wpAny_standAt (seg_bind_wrap (T.self _ 0 s5 _ _ st5 (seg_again rfl loop)))))
end
def Ready (X : Cx) (pins : List (Addr × Obj)) (σ : L2.St) (vs : List Nat) (neg : Bool) (Q : VK) (u : Value) (s5 : Shared) : Prop :=
  ∃ (a : Addr) (gn n : Nat) (Y : Cx), u = .ref a ∧ s5.heap.IsGen a gn ∧ s5.heap.NoLimit ∧ AllBare s5.gens ∧
    (∃ gs, s5.gens[gn]? = some gs ∧ gs.bare = true ∧ ∀ s' : Shared, s'.heap = s5.heap → s'.os = s5.os → AllBare s'.gens → gs.Goes (model X.prog X.w) X.A.in1.in1 (REnd Y σ vs neg Q) (YBool Y σ vs neg Q) n (.send .none) s') ∧
    ∀ s' H', Inv Y [] (wipe σ vs) H' s' → s'.heap.IsGen a gn ∧ s'.heap.NoLimit ∧ AllBare s'.gens ∧ Inv X pins σ H' s'
def TabX (H : Hp) (P : Addr) : Prop := ∃ ps : Array Value, H P = some (.tbl ps) ∧ TriplesOk ps.toList ∧ ∀ (pos : Pos) (cv : Value) (q : Str), nstPos pos.line pos.col = some q → codeAmong pos ps.toList = some cv → ∃ c, cv = .ref c ∧ H c = some (LamX.CodeO c q)
theorem TabX.ext {H H' : Hp} {P : Addr} (t : TabX H P) (hp : ∀ ps, H P = some (.tbl ps) → H' P = some (.tbl ps)) (hc : ∀ c q, H c = some (LamX.CodeO c q) → H' c = some (LamX.CodeO c q)) : TabX H' P := by
  obtain ⟨ps, h1, h2, h3⟩ := t
  refine ⟨ps, hp _ h1, h2, fun pos cv q e1 e2 => ?_⟩
  obtain ⟨c, f1, f2⟩ := h3 pos cv q e1 e2
  exact ⟨c, f1, hc _ _ f2⟩
def TabbedX (gp : Pos) (P : Addr) (H H' : Hp) : Prop := (∃ ps ps' : Array Value, H P = some (.tbl ps) ∧ H' P = some (.tbl ps') ∧ TriplesOk ps'.toList ∧ ∀ (pos : Pos) (cv : Value), codeAmong pos ps'.toList = some cv → codeAmong pos ps.toList = some cv ∨ (gp.line = pos.line ∧ gp.col = pos.col)) ∧ ∀ b, b ≠ P → H' b = H b
theorem TabX.grown {gp : Pos} {P : Addr} {H H' : Hp} (t : TabX H P) (n : nstPos gp.line gp.col = none) (b : TabbedX gp P H H') : TabX H' P := by
  obtain ⟨ps, h1, h2, h3⟩ := t
  obtain ⟨⟨ps1, ps', e1, e2, e3, e4⟩, e5⟩ := b
  rw [h1] at e1
  cases e1
  refine ⟨ps', e2, e3, fun pos cv q f1 f2 => ?_⟩
  rcases e4 pos cv f2 with z | ⟨z1, z2⟩
  · obtain ⟨c, g1, g2⟩ := h3 pos cv q f1 z
    refine ⟨c, g1, ?_⟩
    rw [e5 c fun z => by rw [z, h1] at g2; cases g2]
    exact g2
  · rw [← z1, ← z2, n] at f1
    cases f1
def tAA (neg : Bool) (gp : Pos) (P : Addr) (wi : TI) (g : TG) (te : TE) (vs : List Nat) : TE := fun σ H Q => wi σ H fun J H1 => TabX H1 P ∧ ∀ H2, TabbedX gp P H1 H2 → ∃ W : Nat → Nat → Hp → Prop, (∃ m, W 0 m H2) ∧ Walk J g te vs neg σ Q W
section
variable {X : Cx} {pins : List (Addr × Obj)} {σ : L2.St} {H : Hp} {s : Shared}
theorem gen_make {c P : Addr} {elt tg iter : Expr} {gpos : Pos} {scope : Scope} {own : List (Str × Nat)} {wi : TI} {g : TG} {te : TE} {k : Nat} {neg : Bool} {Q : VK} {Q' : Value → Shared → Prop}
    (hr : Room k X.A) (hc : X.calm = true) (hN : X.N.Nodup) (TB : GxR.TabB X.base X.mg c P) (hcode : X.env.code = .ref c) (ok : BlkOk X.N X.env.scope scope own) (nc : ∀ y ∈ scope.names, y.2 ≠ .cell) (dot : scope.names.lookup (".0" : Str) = some NameKind.local) (co : scope.isCoroutine = false)
    (hi : PI X tg iter wi) (pg : ∀ (s : Shared) (H : Hp) (C : Addr) (code : Value) (fp : List Addr) (pn : List (Addr × Obj)), PG (gen X (X.A.in1.in1.deeper (gEnv X scope C code)) s H (gEnv X scope C code) fp pn) tg g) (pe : ∀ (s : Shared) (H : Hp) (C : Addr) (code : Value) (fp : List Addr) (pn : List (Addr × Obj)), PE (gen X (X.A.in1.in1.deeper (gEnv X scope C code)) s H (gEnv X scope C code) fp pn) elt te)
    (hs : ∀ v, genFold iter X.env v = pure v) (I : Inv X pins σ H s) (h : tAA neg gpos P wi g te (own.map (·.2)) σ H Q) (hQ : ∀ u s5, Ready X pins σ (own.map (·.2)) neg Q u s5 → Q' u s5) :
    wpAny (model X.prog X.w) X.A (eval (.GeneratorExp elt [⟨tg, iter, [], 0⟩] scope gpos) X.env) Q' X.xe s := by
  have fre : ∀ y ∈ scope.names, y.2 = .free → ∃ c, X.env.cells.lookup y.1 = some c := fun y hy e => by
    rcases ok.free y hy e with k | k
    · exact I.ok.has _ (.inl k)
    · exact I.ok.has _ (.inr k)
  refine wpAny_GeneratorExp_make co (closure_ok fre) nc dot ok.kind (by have := hr.dp; omega) ?_ hs
  refine thn (hi.run pins s σ H _ I h) fun xv s1 hx => thn hx fun itv s2 h2 => ?_
  obtain ⟨it, fp, tn, J, H2, e, I2, T, st2, f2, ⟨ps, hP, ht, htx⟩, q⟩ := h2
  subst e
  refine ⟨I2.nolimit, ?_⟩
  have hPs : s2.heap.get? P = some { cls := .none, data := .fields ps } := I2.hok P _ hP
  have sz : ∀ b ∈ fp, b < s2.heap.objs.size := fun b hb => by
    obtain ⟨o, e, _⟩ := T.obj _ _ st2 b hb
    exact Heap.lt_size e
  have nPf : ∀ b ∈ fp, b ≠ P := fun b hb z => by
    have := (f2 b hb).1
    rw [z, hP] at this
    cases this
  have cont : ∀ (code : Value) (h3 : Heap) (tk : Nat) (ps' : Array Value), Heap.ExtBut P s2.heap h3 → s2.heap.objs.size ≤ h3.objs.size → h3.get? P = some { cls := .none, data := .fields ps' } → (∃ more, ps' = ps ++ more) → TriplesOk ps'.toList → (∀ (pos : Pos) (cv : Value), codeAmong pos ps'.toList = some cv → codeAmong pos ps.toList = some cv ∨ (gpos.line = pos.line ∧ gpos.col = pos.col)) →
      wpAny (model X.prog X.w) X.A (builtinsFor X.env.globals X.env.builtins) (fun bi s₄ =>
        ∀ h', h'.Ns s₄.heap.objs.size (fun y => if y = ".0" then some (.ref it) else none) → Heap.SameBut s₄.heap.objs.size (s₄.heap.push { cls := .type "frame", data := .dict #[] }) h' →
          Q' (.ref h'.objs.size) { s₄ with
            gens := s₄.gens.push (.fresh (.compStart (.GeneratorExp elt [⟨tg, iter, [], 0⟩] scope gpos) 0 (.ref it) .none (genEnv scope (cloFrom X.env.cells scope.names []) s₄.heap.objs.size code bi X.env))),
            toks := s₄.toks + 1 + 1 + 1,
            heap := h'.push { cls := .type "generator", data := .fields #[.int s₄.gens.size 0, .str "<genexpr>" (s₄.toks + 1), .str (X.env.qual ++ "<genexpr>") (s₄.toks + 1 + 1)] } }) X.xe { s2 with heap := h3, toks := tk } := by
    intro code h3 tk ps' hx hsz hP3 ⟨more, em⟩ ht3 hgr
    subst em
    obtain ⟨bm, ob, e1, e2, e3, e4, e5, e6, e7, e8⟩ := TB.bm
    have keep3 : ∀ b u, b ≠ P → s2.heap.get? b = some u → h3.get? b = some u := fun b u hb e => hx b u hb e
    have I3 : Inv X pins σ (upd H2 P (.tbl (ps ++ more))) { s2 with heap := h3, toks := tk } := GxR.inv_tab (g' := s2.gens) (d' := s2.drawn) I2 hP (fun b u hb e => keep3 b u hb e) hP3 I2.bare
    refine wpAny_builtinsFor (m := X.mg) (by rw [I2.ok.glob]; exact (I2.mod.glob.keeps I2.bk).extBut hx TB.gP) e1 e2 (keep3 _ _ e4 (I2.bk _ _ e5)) e6 e7 e8 ?_
    intro h' hn' hs'
    obtain ⟨W, ⟨m, w0⟩, wk⟩ := q (upd H2 P (.tbl (ps ++ more))) ⟨⟨ps, ps ++ more, hP, upd_same, ht3, hgr⟩, fun b hb => upd_ne hb⟩
    generalize hs4 : ({ s2 with heap := h3, toks := tk } : Shared) = s4 at I3 hn' hs' ⊢
    have eh4 : s4.heap = h3 := by rw [← hs4]
    have hf4 : ∀ b ∈ fp, FpOk X pins (upd H2 P (.tbl (ps ++ more))) b ∧ b < s4.heap.objs.size := fun b hb => by
      refine ⟨⟨by rw [upd_ne (nPf b hb)]; exact (f2 b hb).1, (f2 b hb).2⟩, ?_⟩
      rw [eh4]
      exact Nat.lt_of_lt_of_le (sz b hb) hsz
    have sz' : h'.objs.size = s4.heap.objs.size + 1 := by rw [hs'.1, Heap.size_push]
    have keep' : ∀ b o, s4.heap.get? b = some o → h'.get? b = some o := fun b o e => hs'.extBut b o (Nat.ne_of_lt (Heap.lt_size e)) (Heap.get?_push_of_some _ e)
    generalize hgo : ({ cls := .type "generator", data := .fields #[.int s4.gens.size 0, .str "<genexpr>" (s4.toks + 1), .str (X.env.qual ++ "<genexpr>") (s4.toks + 1 + 1)] } : Obj) = go
    have keep5 : ∀ b o, s4.heap.get? b = some o → (h'.push go).get? b = some o := fun b o e => Heap.get?_push_of_some _ (keep' b o e)
    have gat : (h'.push go).get? h'.objs.size = some go := Heap.get?_push_size _ (by rw [← hgo]; rfl)
    have isg : ∀ h : Heap, h.get? h'.objs.size = some go → h.IsGen h'.objs.size s4.gens.size := fun h e => ⟨go, _, _, e, by rw [← hgo], by rw [← hgo], by rw [← hgo]⟩
    have fr1 : (X.A.in1.in1).frames = some X.stack := I3.ok.frames
    have key : ∀ s5 : Shared, s5.heap = h'.push go → s5.os = s4.os → AllBare s5.gens → Inv (gen X (X.A.in1.in1.deeper (gEnv X scope s4.heap.objs.size code)) s4 (upd H2 P (.tbl (ps ++ more))) (gEnv X scope s4.heap.objs.size code) fp [(h'.objs.size, go)]) [] (wipe σ (own.map (·.2))) (upd H2 P (.tbl (ps ++ more))) s5 := fun s5 h5 ho hb => by
      have J := gen_start (A := X.A.in1.in1.deeper (gEnv X scope s4.heap.objs.size code)) (code := code) I3 ok hN hf4 nc hr.hd (Around.frames_deeper fr1) (s5 := s5) (by rw [h5]; exact hn'.push _) (fun b o e => by rw [h5]; exact keep5 b o e) ho hb
      refine pinned J fun p hp => ?_
      have hp : p = (h'.objs.size, go) := by simpa using hp
      subst hp
      have hle : s4.heap.objs.size ≤ h'.objs.size := by rw [sz']; exact Nat.le_succ _
      refine ⟨by rw [h5]; exact gat, I3.hok.fresh hle, ?_, fun z => ?_, fun v z => ?_⟩
      · show h'.objs.size ≠ s4.heap.objs.size
        rw [sz']
        exact Nat.succ_ne_self _
      · rcases List.mem_cons.mp (I3.stkSub _ z) with z | z
        · have := I3.lt
          rw [← z] at this
          exact absurd (Nat.lt_of_lt_of_le this hle) (Nat.lt_irrefl _)
        · exact I3.nofs hle z
      · have z : go.data = .cell v := z
        rw [← hgo] at z
        cases z
    have hfpn : ∀ b ∈ fp, ∀ p ∈ [(h'.objs.size, go)], p.1 ≠ b := fun b hb p hp z => by
      have hp : p = (h'.objs.size, go) := by simpa using hp
      subst hp
      have := (hf4 b hb).2
      rw [← z, sz'] at this
      exact absurd this (Nat.not_lt.mpr (Nat.le_succ _))
    have bar : AllBare (s4.gens.push (.fresh (.compStart (.GeneratorExp elt [⟨tg, iter, [], 0⟩] scope gpos) 0 (.ref it) .none (gEnv X scope s4.heap.objs.size code)))) := AllBare.push I3.bare rfl
    refine hQ _ _ ⟨h'.objs.size, s4.gens.size, m + 1, gen X (X.A.in1.in1.deeper (gEnv X scope s4.heap.objs.size code)) s4 (upd H2 P (.tbl (ps ++ more))) (gEnv X scope s4.heap.objs.size code) fp [(h'.objs.size, go)], rfl, isg _ gat, I3.nolimit.keeps keep5, bar, ⟨_, Array.getElem?_push_size .., rfl, fun s' e1 e2 e3 => ⟨rfl, ?_⟩⟩, fun s' H' I' => ?_⟩
    · exact seg_first (B := X.A.in1.in1) hc co (by simp [genEnv]) T (pg _ _ _ _ _ _) (pe _ _ _ _ _ _) hfpn wk m (m + 1) _ s' _ (Nat.lt_succ_self _) w0 (key s' e1 e2 e3)
        (T.keep _ _ _ st2 fun b hb o e => by rw [e1]; exact keep5 b o (by rw [eh4]; exact keep3 b o (nPf b hb) e)) fun b hb => (hf4 b hb).1.1
    · refine ⟨isg _ (I'.pin (h'.objs.size, go) (List.mem_append_left _ (List.mem_singleton.mpr rfl))).1, I'.nolimit, I'.bare, ?_⟩
      exact I3.call' (ch := fp) I'.os I'.base I'.hok I'.bare fun b hb => ⟨(hf4 b hb).1.2.2.2.1, (hf4 b hb).1.2.1, (hf4 b hb).1.2.2.2.2.1, (hf4 b hb).1.2.2.2.2.2⟩
  have cd : PySem.W.CodeHd s2.heap c P := TB.code.keeps fun b u e => I2.bk b u e
  cases hf : codeAmong gpos ps.toList with
  | none =>
    refine wpAny_genexprCodeX hcode (cd.code hPs ht) (cd.tab hPs) hf fun c' h' tk hx hge hlt hco' _ htab' _ => ?_
    obtain ⟨o1, us, f1, tf, fl, tg', inF, tx, tt, op, _, _, _, _, _, _, _, _, _, htr, _⟩ := hco'
    exact cont _ h' tk _ hx (Nat.le_trans hge (Nat.le_of_lt hlt)) htab'.2 ⟨_, rfl⟩ htr fun p' cv hcv => by
      have eL : (ps ++ #[rawInt gpos.line, rawInt gpos.col, .ref c']).toList = ps.toList ++ [rawInt gpos.line, rawInt gpos.col, .ref c'] := by simp
      rw [eL] at hcv
      exact (NdefX.among_app2 _ ht hcv).imp id fun z => z.2
  | some cv =>
    refine wpAny_genexprCode_hit hcode (cd.code hPs ht) hf ?_
    exact cont cv s2.heap s2.toks ps (Heap.ExtBut.refl _ _) (Nat.le_refl _) hPs ⟨#[], by simp⟩ ht fun p' cv hcv => .inl hcv
end
end Gx

set_option Elab.async false
set_option linter.all false
set_option maxRecDepth 100000
set_option maxHeartbeats 4000000
/-! Gx4: all, any. -/
namespace Gx
open PySem PySem.Spec PyProof.Rows L2
section
variable {X : Cx} {pins : List (Addr × Obj)} {σ : L2.St} {H : Hp} {s : Shared}
theorem _root_.L2.Room.depth' {k : Nat} {A : Around} (r : Room k A) : A.depth < recursionLimit := by have := r.dp; omega

theorem all_turns {vs : List Nat} {Q : VK} {a : Addr} {gn : Nat} {Y : Cx} {R : Result → Shared → Prop} (hh : X.A.handled = none) (hd : X.A.depth < recursionLimit)
    (back : ∀ s' H', Inv Y [] (wipe σ vs) H' s' → s'.heap.IsGen a gn ∧ s'.heap.NoLimit ∧ AllBare s'.gens ∧ Inv X pins σ H' s') (hR : ∀ b s' H', Inv X pins σ H' s' → Q (.bl b) H' → R (.ok (.ret (.bool b))) s') :
    ∀ (n : Nat) (s : Shared), s.heap.IsGen a gn → s.heap.NoLimit → (∃ gs, s.gens[gn]? = some gs ∧ gs.Goes (model X.prog X.w) X.A.in1.in1 (REnd Y σ vs false Q) (YBool Y σ vs false Q) n (.send .none) (s.setGen gn .running)) →
      codeAny (model X.prog X.w) X.A (.builtin "all.loop" ⟨[.ref a], []⟩) R s := by
  intro n
  induction n using Nat.strongRecOn with
  | ind n ih =>
    rintro s isGen noLim ⟨gs, at_, goes⟩
    have low : gn < s.gens.size := (Array.getElem?_eq_some_iff.mp at_).1
    apply codeAny_builtin F.entry_all_loop
    rw [Around.under_plainId F.plain_all_loop _]
    show wpAny _ X.A.in1 (pyNext (.ref a) >>= _) _ _ s
    refine wpAny_bind (GenW.wpAny_gsz (n := gn + 1) low (wpAny_pyNext_genexpQ (A := X.A.in1) (P := fun _ _ s1 => ∃ H', Inv Y [] (wipe σ vs) H' s1 ∧ Q (.bl (!false)) H') hh noLim hd isGen at_ goes ?_ ?_))
    · rintro v t gs' bare ⟨b, H', rfl, J0, next⟩ size
      obtain ⟨g1, l1, b1, J⟩ := back _ _ J0
      refine wpAny_bind (wpAny_holding (wpAny_truthy_bool (wpAny_bind (wpAny_letGo ?_))))
      cases b with
      | false =>
        simp only [Bool.false_eq_true, if_false]
        exact wpAny_bind (wpAny_rule (wpAny_pure (hR false _ H' (Inv.sameHeap J rfl rfl (allBare_setGen b1 bare)) next)))
      | true =>
        rw [if_neg (by decide)] at next
        simp only [if_true]
        cases n with
        | zero => exact (next t rfl rfl b1).elim
        | succ n =>
          have low' : gn < t.gens.size := by
            rw [← GenW.setGen_size t gn gs']
            exact size
          refine wpAny_pure ⟨plainId_quiet F.plain_all_loop _, ih n (Nat.lt_succ_self n) (t.setGen gn gs') g1 l1 ⟨gs', setGen_at low', next _ rfl rfl (allBare_setGen (allBare_setGen b1 bare) rfl)⟩⟩
    · rintro t ⟨H', J0, last⟩ h' same _
      obtain ⟨g1, l1, b1, J⟩ := back _ _ J0
      have K := Inv.sameHeap (s' := t.setGen gn .finished) J rfl rfl (allBare_setGen b1 rfl)
      exact wpAny_bind (wpAny_rule (wpAny_pure (hR _ _ H' (K.kept (t' := t.toks) same) last)))
theorem pe_all {c P : Addr} {elt tg iter : Expr} {p cpos gpos : Pos} {scope : Scope} {own : List (Str × Nat)} {wi : TI} {g : TG} {te : TE} {k : Nat}
    (hr : Room k X.A) (hc : X.calm = true) (hN : X.N.Nodup) (hg : Gl X "all") (hm : X.mg "all" = none) (hb : bootBuiltins "all" = some (.builtin "all")) (TB : GxR.TabB X.base X.mg c P) (hcode : X.env.code = .ref c) (ok : BlkOk X.N X.env.scope scope own) (nc : ∀ y ∈ scope.names, y.2 ≠ .cell) (dot : scope.names.lookup (".0" : Str) = some NameKind.local) (co : scope.isCoroutine = false)
    (hi : PI X tg iter wi) (pg : ∀ (s : Shared) (H : Hp) (C : Addr) (code : Value) (fp : List Addr) (pn : List (Addr × Obj)), PG (gen X (X.A.in1.in1.deeper (gEnv X scope C code)) s H (gEnv X scope C code) fp pn) tg g) (pe : ∀ (s : Shared) (H : Hp) (C : Addr) (code : Value) (fp : List Addr) (pn : List (Addr × Obj)), PE (gen X (X.A.in1.in1.deeper (gEnv X scope C code)) s H (gEnv X scope C code) fp pn) elt te)
    (hs : ∀ v, genFold iter X.env v = pure v) (he : starEach [.GeneratorExp elt [⟨tg, iter, [], 0⟩] scope gpos] X.env = (false, eval (.GeneratorExp elt [⟨tg, iter, [], 0⟩] scope gpos) X.env) :: starEach [] X.env := by rfl) :
    PE X (.Call (.Name "all" p) [.GeneratorExp elt [⟨tg, iter, [], 0⟩] scope gpos] [] cpos) (tAA false gpos P wi g te (own.map (·.2))) := by
  refine ⟨fun pins s σ H Q I h => ?_⟩
  refine wpAny_Call_Name_kw (ld_blt I hg hm hb ?_)
  refine PyProof.Rows.callWith_builtin1 ?_ he (by rfl)
  rw [he]
  show wpAny _ _ (spliced ((false, eval (.GeneratorExp elt [⟨tg, iter, [], 0⟩] scope gpos) X.env) :: backTo cpos (starEach [] X.env))) _ _ s
  refine Calls.spliced_cons (gen_make hr hc hN TB hcode ok nc dot co hi pg pe hs I h fun u s5 hG => ?_)
  obtain ⟨a, gn, n, Y, rfl, g5, l5, b5, ⟨gs, hgs, hbr, hgo⟩, back⟩ := hG
  refine Calls.spliced_nil ?_
  refine call_function_tree F.kind_all F.plain_all F.entry_all (F.args_all1 _) ?_
  unfold Builtin.«all»
  refine wpAny_bind (m := oneArg "all" _) (wpAny_pure ?_)
  refine wpAny_bind (wpAny_pyIter_gen g5 ?_)
  refine wpAny_pure ⟨plainId_quiet F.plain_all_loop _, all_turns hr.hd hr.depth' back (fun b s' H' J q => ?_) n s5 g5 l5 ⟨gs, hgs, hgo _ rfl rfl (allBare_setGen b5 rfl)⟩⟩
  exact ⟨.bl b, H', J, rfl, q⟩

theorem any_turns {vs : List Nat} {Q : VK} {a : Addr} {gn : Nat} {Y : Cx} {R : Result → Shared → Prop} (hh : X.A.handled = none) (hd : X.A.depth < recursionLimit)
    (back : ∀ s' H', Inv Y [] (wipe σ vs) H' s' → s'.heap.IsGen a gn ∧ s'.heap.NoLimit ∧ AllBare s'.gens ∧ Inv X pins σ H' s') (hR : ∀ b s' H', Inv X pins σ H' s' → Q (.bl b) H' → R (.ok (.ret (.bool b))) s') :
    ∀ (n : Nat) (s : Shared), s.heap.IsGen a gn → s.heap.NoLimit → (∃ gs, s.gens[gn]? = some gs ∧ gs.Goes (model X.prog X.w) X.A.in1.in1 (REnd Y σ vs true Q) (YBool Y σ vs true Q) n (.send .none) (s.setGen gn .running)) →
      codeAny (model X.prog X.w) X.A (.builtin "any.loop" ⟨[.ref a], []⟩) R s := by
  intro n
  induction n using Nat.strongRecOn with
  | ind n ih =>
    rintro s isGen noLim ⟨gs, at_, goes⟩
    have low : gn < s.gens.size := (Array.getElem?_eq_some_iff.mp at_).1
    apply codeAny_builtin F.entry_any_loop
    rw [Around.under_plainId F.plain_any_loop _]
    show wpAny _ X.A.in1 (pyNext (.ref a) >>= _) _ _ s
    refine wpAny_bind (GenW.wpAny_gsz (n := gn + 1) low (wpAny_pyNext_genexpQ (A := X.A.in1) (P := fun _ _ s1 => ∃ H', Inv Y [] (wipe σ vs) H' s1 ∧ Q (.bl (!true)) H') hh noLim hd isGen at_ goes ?_ ?_))
    · rintro v t gs' bare ⟨b, H', rfl, J0, next⟩ size
      obtain ⟨g1, l1, b1, J⟩ := back _ _ J0
      refine wpAny_bind (wpAny_holding (wpAny_truthy_bool (wpAny_bind (wpAny_letGo ?_))))
      cases b with
      | true =>
        simp only [if_true]
        exact wpAny_bind (wpAny_rule (wpAny_pure (hR true _ H' (Inv.sameHeap J rfl rfl (allBare_setGen b1 bare)) next)))
      | false =>
        rw [if_neg (by decide)] at next
        simp only [Bool.false_eq_true, if_false]
        cases n with
        | zero => exact (next t rfl rfl b1).elim
        | succ n =>
          have low' : gn < t.gens.size := by
            rw [← GenW.setGen_size t gn gs']
            exact size
          refine wpAny_pure ⟨plainId_quiet F.plain_any_loop _, ih n (Nat.lt_succ_self n) (t.setGen gn gs') g1 l1 ⟨gs', setGen_at low', next _ rfl rfl (allBare_setGen (allBare_setGen b1 bare) rfl)⟩⟩
    · rintro t ⟨H', J0, last⟩ h' same _
      obtain ⟨g1, l1, b1, J⟩ := back _ _ J0
      have K := Inv.sameHeap (s' := t.setGen gn .finished) J rfl rfl (allBare_setGen b1 rfl)
      exact wpAny_bind (wpAny_rule (wpAny_pure (hR _ _ H' (K.kept (t' := t.toks) same) last)))
theorem pe_any {c P : Addr} {elt tg iter : Expr} {p cpos gpos : Pos} {scope : Scope} {own : List (Str × Nat)} {wi : TI} {g : TG} {te : TE} {k : Nat}
    (hr : Room k X.A) (hc : X.calm = true) (hN : X.N.Nodup) (hg : Gl X "any") (hm : X.mg "any" = none) (hb : bootBuiltins "any" = some (.builtin "any")) (TB : GxR.TabB X.base X.mg c P) (hcode : X.env.code = .ref c) (ok : BlkOk X.N X.env.scope scope own) (nc : ∀ y ∈ scope.names, y.2 ≠ .cell) (dot : scope.names.lookup (".0" : Str) = some NameKind.local) (co : scope.isCoroutine = false)
    (hi : PI X tg iter wi) (pg : ∀ (s : Shared) (H : Hp) (C : Addr) (code : Value) (fp : List Addr) (pn : List (Addr × Obj)), PG (gen X (X.A.in1.in1.deeper (gEnv X scope C code)) s H (gEnv X scope C code) fp pn) tg g) (pe : ∀ (s : Shared) (H : Hp) (C : Addr) (code : Value) (fp : List Addr) (pn : List (Addr × Obj)), PE (gen X (X.A.in1.in1.deeper (gEnv X scope C code)) s H (gEnv X scope C code) fp pn) elt te)
    (hs : ∀ v, genFold iter X.env v = pure v) (he : starEach [.GeneratorExp elt [⟨tg, iter, [], 0⟩] scope gpos] X.env = (false, eval (.GeneratorExp elt [⟨tg, iter, [], 0⟩] scope gpos) X.env) :: starEach [] X.env := by rfl) :
    PE X (.Call (.Name "any" p) [.GeneratorExp elt [⟨tg, iter, [], 0⟩] scope gpos] [] cpos) (tAA true gpos P wi g te (own.map (·.2))) := by
  refine ⟨fun pins s σ H Q I h => ?_⟩
  refine wpAny_Call_Name_kw (ld_blt I hg hm hb ?_)
  refine PyProof.Rows.callWith_builtin1 ?_ he (by rfl)
  rw [he]
  show wpAny _ _ (spliced ((false, eval (.GeneratorExp elt [⟨tg, iter, [], 0⟩] scope gpos) X.env) :: backTo cpos (starEach [] X.env))) _ _ s
  refine Calls.spliced_cons (gen_make hr hc hN TB hcode ok nc dot co hi pg pe hs I h fun u s5 hG => ?_)
  obtain ⟨a, gn, n, Y, rfl, g5, l5, b5, ⟨gs, hgs, hbr, hgo⟩, back⟩ := hG
  refine Calls.spliced_nil ?_
  refine call_function_tree F.kind_any F.plain_any F.entry_any (F.args_any1 _) ?_
  unfold Builtin.«any»
  refine wpAny_bind (m := oneArg "any" _) (wpAny_pure ?_)
  refine wpAny_bind (wpAny_pyIter_gen g5 ?_)
  refine wpAny_pure ⟨plainId_quiet F.plain_any_loop _, any_turns hr.hd hr.depth' back (fun b s' H' J q => ?_) n s5 g5 l5 ⟨gs, hgs, hgo _ rfl rfl (allBare_setGen b5 rfl)⟩⟩
  exact ⟨.bl b, H', J, rfl, q⟩
end
end Gx

set_option Elab.async false
set_option linter.all false
set_option maxRecDepth 100000
set_option maxHeartbeats 4000000
/-! Gx5: generator expressions with two clauses. -/
namespace Gx
open PySem PySem.Spec PyProof.Rows L2
abbrev gexp2 (elt tg iter tg1 iter1 : Expr) (scope : Scope) (pos : Pos) : Expr := .GeneratorExp elt [⟨tg, iter, [], 0⟩, ⟨tg1, iter1, [], 0⟩] scope pos
theorem compTurn_gen2a (elt tg iter tg1 iter1 : Expr) (scope : Scope) (pos : Pos) (it acc : Value) (env : Env) :
    compTurn (gexp2 elt tg iter tg1 iter1 scope pos) 0 it acc env = (do
      standAt iter.pos
      match ← pyNext it with
      | none => pure (.done .next)
      | some v =>
        letOwnedTupleGo tg it v
        assign tg env v
        let x ← eval iter1 env
        standAt iter1.pos
        let x ← foldedSetIterable iter1 env x
        let y ← holding [x] (pyIter x)
        let _ ← runOwn (.compStart (gexp2 elt tg iter tg1 iter1 scope pos) 1 y acc env) env
        again (.compLoop (gexp2 elt tg iter tg1 iter1 scope pos) 0 it acc env)) := by rfl
theorem compTurn_gen2b (elt tg iter tg1 iter1 : Expr) (scope : Scope) (pos : Pos) (it acc : Value) (env : Env) :
    compTurn (gexp2 elt tg iter tg1 iter1 scope pos) 1 it acc env = (do
      standAt iter1.pos
      match ← pyNext it with
      | none => pure (.done .next)
      | some v =>
        letOwnedTupleGo tg1 it v
        assign tg1 env v
        (do let v ← eval elt env; standAt elt.pos; let _ ← yieldOut env v)
        again (.compLoop (gexp2 elt tg iter tg1 iter1 scope pos) 1 it acc env)) := by rfl
def Walk2 (J : It) (g : TG) (wi1 : TI) (g1 : TG) (te : TE) (vs vs1 : List Nat) (neg : Bool) (σ : L2.St) (Q : VK) (W : Nat → Nat → Hp → Prop) : Prop := ∀ i m H, W i m H → (J.stop i H ∧ Q (.bl (!neg)) H) ∨
  (J.go i H ∧ ∀ x H', J.yld i H x H' → g x (wipe σ vs) H' fun σ2 H3 => wipe σ2 vs = wipe σ vs ∧ wi1 σ2 H3 fun J1 H4 => ∃ W1 : Nat → Nat → Hp → Prop, (∃ k, k < m ∧ W1 0 k H4) ∧ ∀ j k H, W1 j k H →
    (J1.stop j H ∧ ∃ m', m' ≤ k ∧ W (i + 1) m' H) ∨
    (J1.go j H ∧ ∀ x H', J1.yld j H x H' → g1 x (wipe σ2 vs1) H' fun σ3 H5 => wipe σ3 vs1 = wipe σ2 vs1 ∧ te σ3 H5 fun y H6 => ∃ b, y = .bl b ∧ (if b = neg then Q (.bl neg) H6 else ∃ k', k' < k ∧ W1 (j + 1) k' H6)))
section
variable {X : Cx} {σ : L2.St} {H3 : Hp} {s3 : Shared} {B : Around} {ce : Env} {fp : List Addr} {pn : List (Addr × Obj)} {elt tg iter tg1 iter1 : Expr} {scope : Scope} {pos : Pos} {it : Addr} {tn : Nat → Heap → Prop} {J : It} {g g1 : TG} {wi1 : TI} {te : TE} {vs vs1 : List Nat} {neg : Bool} {Q : VK} {W : Nat → Nat → Hp → Prop}
theorem over_gen2 (hf : ce.frame ≠ none) : B.over (.compLoop (gexp2 elt tg iter tg1 iter1 scope pos) 0 (.ref it) .none ce) [] = B.deeper ce := by
  first
    | rfl
    | (obtain ⟨hd, dp, fs, gs, u⟩ := B; simp [Around.over, Around.deeper, marksOver, frameCount, unitsOf, envsOf, guardsOf, pushEnvs, pushGuards, Code.envs, Code.env?, Code.isFrame, Code.guards, Code.isGuard, Code.weight, Code.frames, Code.isCreation, Code.isCaller, Code.cUnits])
theorem over_in1 {c : Code} (hc : ∃ it1 : Value, c = .compLoop (gexp2 elt tg iter tg1 iter1 scope pos) 1 it1 .none ce ∨ c = .compStart (gexp2 elt tg iter tg1 iter1 scope pos) 1 it1 .none ce) {k : Result → Sem PySem.Fin} {gd : Bool} {l : List Value} {p : Pos} :
    B.over c [.ret k none gd l (.compLoop (gexp2 elt tg iter tg1 iter1 scope pos) 0 (.ref it) .none ce) p []] = B.deeper ce := by
  obtain ⟨it1, rfl | rfl⟩ := hc
  · first
      | rfl
      | (obtain ⟨hd, dp, fs, gs, u⟩ := B; simp [Around.over, Around.deeper, marksOver, frameCount, unitsOf, envsOf, guardsOf, pushEnvs, pushGuards, Code.envs, Code.env?, Code.isFrame, Code.guards, Code.isGuard, Code.weight, Code.frames, Code.isCreation, Code.isCaller, Code.cUnits])
  · first
      | rfl
      | (obtain ⟨hd, dp, fs, gs, u⟩ := B; simp [Around.over, Around.deeper, marksOver, frameCount, unitsOf, envsOf, guardsOf, pushEnvs, pushGuards, Code.envs, Code.env?, Code.isFrame, Code.guards, Code.isGuard, Code.weight, Code.frames, Code.isCreation, Code.isCaller, Code.cUnits])
theorem held {Y : Cx} {ps : List (Addr × Obj)} {fq : List Addr} {τ : L2.St} {H' : Hp} {s' : Shared} {h : Heap} (J : Inv Y (ps ++ pinsAt fq h) τ H' s') {b : Addr} {o : Obj} (m : b ∈ fq) (e : h.get? b = some o) : s'.heap.get? b = some o ∧ H' b = none :=
  have z := J.pin (b, o) (List.mem_append_right _ (List.mem_append_right ps (mem_pinsAt m e)))
  ⟨z.1, z.2.1⟩
theorem seg_in2 (hc : X.calm = true) (hco : ce.scope.isCoroutine = false) (hf : ce.frame ≠ none) (hv : ∀ i ∈ vs1, i ∈ vs)
    (pg1 : PG (gen X (B.deeper ce) s3 H3 ce fp pn) tg1 g1) (pe : PE (gen X (B.deeper ce) s3 H3 ce fp pn) elt te)
    {σ8 : L2.St} (hw8 : wipe σ8 vs = wipe σ vs) {pins : List (Addr × Obj)} {it1 : Addr} {fp1 : List Addr} {tn1 : Nat → Heap → Prop} {J1 : It} (T1 : Turn X.prog X.w X.K tg1 J1 fp1 it1 tn1) (f1 : ∀ b ∈ fp1, ∀ H' : Hp, H' b = none → FpOk (gen X (B.deeper ce) s3 H3 ce fp pn) pins H' b)
    {kf : Result → Sem PySem.Fin} {lf : List Value} {pf : Pos} {Nx : Nat → Hp → Prop} {W1 : Nat → Nat → Hp → Prop} (mm : Nat)
    (after : ∀ (m n : Nat) (s₀ s5 : Shared) (H5 : Hp), m < n → m < mm → Nx m H5 → Inv (gen X (B.deeper ce) s3 H3 ce fp pn) pins (wipe σ vs) H5 s5 →
      Seg (model X.prog X.w) B (REnd (gen X (B.deeper ce) s3 H3 ce fp pn) σ vs neg Q) (YBool (gen X (B.deeper ce) s3 H3 ce fp pn) σ vs neg Q) n s₀ (.compLoop (gexp2 elt tg iter tg1 iter1 scope pos) 0 (.ref it) .none ce) (kf (.ok .next)) [] s5)
    (wk : ∀ j k H, W1 j k H → (J1.stop j H ∧ ∃ m', m' ≤ k ∧ Nx m' H) ∨
      (J1.go j H ∧ ∀ x H', J1.yld j H x H' → g1 x (wipe σ8 vs1) H' fun σ3 H5 => wipe σ3 vs1 = wipe σ8 vs1 ∧ te σ3 H5 fun y H6 => ∃ b, y = .bl b ∧ (if b = neg then Q (.bl neg) H6 else ∃ k', k' < k ∧ W1 (j + 1) k' H6))) :
    ∀ (k j n : Nat) (s₀ s5 : Shared) (H5 : Hp), k < n → k < mm → W1 j k H5 → Inv (gen X (B.deeper ce) s3 H3 ce fp pn) pins (wipe σ8 vs1) H5 s5 → tn1 j s5.heap → (∀ b ∈ fp1, H5 b = none) →
      Seg (model X.prog X.w) B (REnd (gen X (B.deeper ce) s3 H3 ce fp pn) σ vs neg Q) (YBool (gen X (B.deeper ce) s3 H3 ce fp pn) σ vs neg Q) n s₀ (.compLoop (gexp2 elt tg iter tg1 iter1 scope pos) 1 (.ref it1) .none ce)
        ((model X.prog X.w).den (.compLoop (gexp2 elt tg iter tg1 iter1 scope pos) 1 (.ref it1) .none ce)) [.ret kf none false lf (.compLoop (gexp2 elt tg iter tg1 iter1 scope pos) 0 (.ref it) .none ce) pf []] s5 := by
  have ov : B.over (.compLoop (gexp2 elt tg iter tg1 iter1 scope pos) 1 (.ref it1) .none ce) [.ret kf none false lf (.compLoop (gexp2 elt tg iter tg1 iter1 scope pos) 0 (.ref it) .none ce) pf []] = B.deeper ce := over_in1 ⟨_, .inl rfl⟩
  have hl8 : (wipe σ vs).length = (wipe σ8 vs1).length := by rw [← hw8, wipe_length, wipe_length]
  have hk8 : ∀ (j : Nat) v, (wipe σ vs)[j]? = some (some v) → (wipe σ8 vs1)[j]? = some (some v) := fun j v e => by
    have w := wipe_some (hw8 ▸ e)
    exact (wipe_out fun z => w.2 (hv j z)).trans w.1
  intro k
  induction k using Nat.strongRecOn with
  | ind k ih =>
    intro j n s₀ s5 H5 hkn hkm w5 I5 st5 n5
    show Seg _ B _ _ n s₀ _ ((compTurn (gexp2 elt tg iter tg1 iter1 scope pos) 1 (.ref it1) .none ce).onRaise (fun x => do noteFrame x ce; theTreesLotGoes x)) _ s5
    rw [compTurn_gen2b, Sem.onRaise_eq_wrap]
    refine seg_bind_wrap (wpAny_standAt ?_)
    rcases wk j k H5 w5 with ⟨stop, m', hm', nx⟩ | ⟨go, step⟩
    · refine seg_bind_wrap ?_
      rw [ov]
      refine thnF (T1.done (gen X (B.deeper ce) s3 H3 ce fp pn) rfl rfl rfl hc j pins s5 _ H5 (fun _ _ => False) I5 (fun b hb => f1 b hb _ (n5 b hb)) st5 stop) fun r s6 ⟨hr, I6⟩ => ?_
      subst hr
      exact seg_leaf (.ok .next) (after m' n _ s6 H5 (by omega) (by omega) nx (I6.weak hl8 hk8))
    · refine seg_bind_wrap ?_
      rw [ov]
      refine thnF (T1.item (gen X (B.deeper ce) s3 H3 ce fp pn) rfl rfl rfl hc j pins s5 _ H5 (fun _ _ => False) I5 (fun b hb => f1 b hb _ (n5 b hb)) st5 go) fun r s6 ⟨u, hr, h6⟩ => ?_
      subst hr
      refine seg_bind_wrap ?_
      rw [ov]
      refine thnF h6 ?_
      rintro _ s7 ⟨x, H7, I7, r7, y7, st7, n7⟩
      have I7' := I7.pinned (fun b hb => f1 b hb _ (n7 b hb)) (T1.obj _ _ st7)
      refine seg_bind_wrap ?_
      rw [ov]
      refine thnF (pg1.run _ s7 _ H7 x u _ I7' r7 (step x H7 y7)) fun _ s8 ⟨σ9, H8, I8, hw9, q8⟩ => ?_
      have hy : ∀ v, yieldOut ce v = yieldValue v := fun v => by simp only [yieldOut, hco, Bool.false_eq_true, if_false]
      simp only [hy]
      rw [Sem.bind_eq_wrap', Sem.bind_eq_wrap', Sem.wrap_wrap, Sem.wrap_wrap]
      refine seg_wrap ?_
      rw [ov]
      refine thnF (pe.run _ s8 σ9 H8 _ I8 q8) fun y s9 ⟨yv, H9, I9, r9, b, hb, q9⟩ => ?_
      subst hb
      obtain rfl : y = Value.bool b := r9
      have hl : (wipe σ8 vs1).length = σ9.length := by rw [← hw9, wipe_length]
      have J9 : Inv (gen X (B.deeper ce) s3 H3 ce fp pn) pins (wipe σ8 vs1) H9 s9 := I9.unpinned.weak hl (fun j v e => by
        rw [← hw9] at e
        exact (wipe_some e).1)
      have K9 : Inv (gen X (B.deeper ce) s3 H3 ce fp pn) [] (wipe σ vs) H9 s9 := (J9.weak hl8 hk8).pins_of fun p hp => by cases hp
      have st9 : tn1 (j + 1) s9.heap := T1.keep _ _ _ st7 fun _ m _ e => (held I9 m e).1
      have n9 : ∀ c ∈ fp1, H9 c = none := fun c m => let ⟨_, e, _⟩ := T1.obj _ _ st7 c m; (held I9 m e).2
      by_cases hbn : b = neg
      · rw [if_pos hbn] at q9
        obtain ⟨n, rfl⟩ : ∃ k, n = k + 1 := ⟨n - 1, by omega⟩
        refine seg_at (seg_yield rfl rfl rfl ⟨b, H9, rfl, K9, ?_⟩)
        rw [if_pos hbn]
        exact q9
      · rw [if_neg hbn] at q9
        obtain ⟨k', hk', w9⟩ := q9
        obtain ⟨n, rfl⟩ : ∃ k, n = k + 1 := ⟨n - 1, by omega⟩
        refine seg_at (seg_yield rfl rfl rfl ⟨b, H9, rfl, K9, ?_⟩)
        rw [if_neg hbn]
        intro s' h1 h2 h3
        exact seg_again rfl (ih k' hk' (j + 1) n s' s' H9 (by omega) (by omega) w9 (Inv.sameHeap J9 h1 h2 h3) (by rw [h1]; exact st9) n9)
theorem seg_gen2 (hc : X.calm = true) (hco : ce.scope.isCoroutine = false) (hf : ce.frame ≠ none) (hv : ∀ i ∈ vs1, i ∈ vs) (T : Turn X.prog X.w X.K tg J fp it tn)
    (pg : PG (gen X (B.deeper ce) s3 H3 ce fp pn) tg g) (pi1 : PI (gen X (B.deeper ce) s3 H3 ce fp pn) tg1 iter1 wi1) (pg1 : PG (gen X (B.deeper ce) s3 H3 ce fp pn) tg1 g1) (pe : PE (gen X (B.deeper ce) s3 H3 ce fp pn) elt te) (hfp : ∀ b ∈ fp, ∀ p ∈ pn, p.1 ≠ b)
    (hs1 : ∀ env x, foldedSetIterable iter1 env x = pure x) (wk : Walk2 J g wi1 g1 te vs vs1 neg σ Q W) :
    ∀ (m i n : Nat) (s₀ s5 : Shared) (H5 : Hp), m < n → W i m H5 → Inv (gen X (B.deeper ce) s3 H3 ce fp pn) [] (wipe σ vs) H5 s5 → tn i s5.heap → (∀ b ∈ fp, H5 b = none) →
      Seg (model X.prog X.w) B (REnd (gen X (B.deeper ce) s3 H3 ce fp pn) σ vs neg Q) (YBool (gen X (B.deeper ce) s3 H3 ce fp pn) σ vs neg Q) n s₀ (.compLoop (gexp2 elt tg iter tg1 iter1 scope pos) 0 (.ref it) .none ce)
        ((model X.prog X.w).den (.compLoop (gexp2 elt tg iter tg1 iter1 scope pos) 0 (.ref it) .none ce)) [] s5 := by
  have stat : ∀ {σ' : L2.St} {H' : Hp} {s' : Shared}, Inv (gen X (B.deeper ce) s3 H3 ce fp pn) [] σ' H' s' → (∀ b ∈ fp, H' b = none) → ∀ b ∈ fp, FpOk (gen X (B.deeper ce) s3 H3 ce fp pn) [] H' b := fun {σ' H' s'} I' hn b hb =>
    ⟨hn b hb, (I'.ok.exf b hb).1, I'.ok.exfs b hb, .inl hb, fun x c e => (I'.ok.exf b hb).2 x c e, fun p hp => by rw [List.append_nil] at hp; exact hfp b hb p hp⟩
  have ov : B.over (.compLoop (gexp2 elt tg iter tg1 iter1 scope pos) 0 (.ref it) .none ce) [] = B.deeper ce := over_gen2 hf
  intro m
  induction m using Nat.strongRecOn with
  | ind m ih =>
    intro i n s₀ s5 H5 hmn w5 I5 st5 n5
    show Seg _ B _ _ n s₀ _ ((compTurn (gexp2 elt tg iter tg1 iter1 scope pos) 0 (.ref it) .none ce).onRaise (leaving ce)) [] s5
    rw [compTurn_gen2a, Sem.onRaise_eq_wrap]
    refine seg_bind_wrap (wpAny_standAt ?_)
    rcases wk i m H5 w5 with ⟨stop, q⟩ | ⟨go, step⟩
    · refine seg_bind_wrap ?_
      rw [ov]
      refine thnF (T.done (gen X (B.deeper ce) s3 H3 ce fp pn) rfl rfl rfl hc i [] s5 _ H5 (fun _ _ => False) I5 (stat I5 n5) st5 stop) fun r s6 ⟨hr, I6⟩ => ?_
      subst hr
      exact seg_end (.ok .next) ⟨rfl, H5, I6, q⟩
    · refine seg_bind_wrap ?_
      rw [ov]
      refine thnF (T.item (gen X (B.deeper ce) s3 H3 ce fp pn) rfl rfl rfl hc i [] s5 _ H5 (fun _ _ => False) I5 (stat I5 n5) st5 go) fun r s6 ⟨u, hr, h6⟩ => ?_
      subst hr
      refine seg_bind_wrap ?_
      rw [ov]
      refine thnF h6 ?_
      rintro _ s7 ⟨x, H7, I7, r7, y7, st7, n7⟩
      have P7 := I7.pinned (stat I7 n7) (T.obj _ _ st7)
      refine seg_bind_wrap ?_
      rw [ov]
      refine thnF (pg.run _ s7 _ H7 x u _ P7 r7 (step x H7 y7)) ?_
      rintro _ s8 ⟨σ8, H8, I8, hw8, q8⟩
      simp only [hs1]
      refine seg_bind_wrap ?_
      rw [ov]
      refine thnF (pi1.run _ s8 σ8 H8 _ I8 q8) fun xv s9 hx => ?_
      refine seg_bind_wrap (wpAny_standAt ?_)
      refine seg_bind_wrap (wpAny_pure ?_)
      refine seg_bind_wrap ?_
      rw [ov]
      refine wpAny_holding (thnF hx fun itv s11 h11 => ?_)
      obtain ⟨it1, fp1, tn1, J1, H11, e1, I11, T1, st11, f11, W1, ⟨k, hk, w1⟩, turn1⟩ := h11
      subst e1
      have f1 : ∀ b ∈ fp1, ∀ H' : Hp, H' b = none → FpOk (gen X (B.deeper ce) s3 H3 ce fp pn) ([] ++ pinsAt fp s7.heap) H' b := fun b hb H' hn => ⟨hn, (f11 b hb).2⟩
      have I11' : Inv (gen X (B.deeper ce) s3 H3 ce fp pn) ([] ++ pinsAt fp s7.heap) (wipe σ8 vs1) H11 s11 := I11.weak (wipe_length _ _) fun j v e => (wipe_some e).1
      have n11 : ∀ b ∈ fp1, H11 b = none := fun b hb => (f11 b hb).1
      have last : ∀ (m' n' : Nat) (s₀' s' : Shared) (H' : Hp), m' < n' → m' < m → W (i + 1) m' H' → Inv (gen X (B.deeper ce) s3 H3 ce fp pn) ([] ++ pinsAt fp s7.heap) (wipe σ vs) H' s' →
          Seg (model X.prog X.w) B (REnd (gen X (B.deeper ce) s3 H3 ce fp pn) σ vs neg Q) (YBool (gen X (B.deeper ce) s3 H3 ce fp pn) σ vs neg Q) n' s₀' (.compLoop (gexp2 elt tg iter tg1 iter1 scope pos) 0 (.ref it) .none ce)
            ((model X.prog X.w).den (.compLoop (gexp2 elt tg iter tg1 iter1 scope pos) 0 (.ref it) .none ce)) [] s' := fun m' n' s₀' s' H' h1 h2 w' I' => by
        exact ih m' h2 (i + 1) n' s₀' s' H' h1 w' (I'.unpinned (pins := [])) (T.keep _ _ _ st7 fun _ m _ e => (held I' m e).1) fun b m => let ⟨_, e, _⟩ := T.obj _ _ st7 b m; (held I' m e).2
      unfold runOwn
      rw [Sem.onRaise_eq_wrap, Sem.bind_eq_wrap', Sem.wrap_wrap, Sem.wrap_wrap]
      refine seg_call fun p => ?_
      have loop := fun {kf : Result → Sem PySem.Fin} {lf : List Value} (after : ∀ (m' n' : Nat) (s₀' s' : Shared) (H' : Hp), m' < n' → m' < m → W (i + 1) m' H' → Inv (gen X (B.deeper ce) s3 H3 ce fp pn) ([] ++ pinsAt fp s7.heap) (wipe σ vs) H' s' → Seg (model X.prog X.w) B (REnd (gen X (B.deeper ce) s3 H3 ce fp pn) σ vs neg Q) (YBool (gen X (B.deeper ce) s3 H3 ce fp pn) σ vs neg Q) n' s₀' (.compLoop (gexp2 elt tg iter tg1 iter1 scope pos) 0 (.ref it) .none ce) (kf (.ok .next)) [] s') =>
        seg_in2 (it := it) (iter := iter) (tg := tg) (iter1 := iter1) (pos := pos) (scope := scope) (kf := kf) (lf := lf) (pf := p) (Nx := fun m' H' => W (i + 1) m' H') (W1 := W1) (neg := neg) (Q := Q) hc hco hf hv pg1 pe hw8 T1 f1 m after turn1 k 0 n s₀ s11 H11 (by omega) hk w1 I11' st11 n11
      show Seg _ B _ _ _ s₀ _ ((compStart (gexp2 elt tg iter tg1 iter1 scope pos) 1 (.ref it1) .none ce).onRaise (fun x => do noteFrame x ce; standAt theWindowsPlace)) _ s11
      unfold compStart
      rw [Sem.onRaise_eq_wrap]
      show Seg _ B _ _ _ s₀ _ ((ask >>= _).wrap _ _ _ _) _ s11
      refine seg_bind_wrap (wpAny_askSetting ?_)
      split
      · refine seg_again rfl (loop fun m' n' s₀' s' H' h1 h2 w' I' => ?_)
        exact seg_again rfl (last m' n' s₀' s' H' h1 h2 w' I')
      · refine seg_bind_wrap (wpAny_rule ?_)
        show Seg _ B _ _ _ s₀ _ ((standAt iter1.pos >>= _).wrap _ _ _ _) _ s11
        refine seg_bind_wrap (wpAny_standAt (seg_bind_wrap (T1.self _ 0 s11 _ _ st11 (seg_again rfl (loop fun m' n' s₀' s' H' h1 h2 w' I' => ?_)))))
        exact seg_again rfl (last m' n' s₀' s' H' h1 h2 w' I')
theorem seg_first2 (hc : X.calm = true) (hco : ce.scope.isCoroutine = false) (hf : ce.frame ≠ none) (hv : ∀ i ∈ vs1, i ∈ vs) (T : Turn X.prog X.w X.K tg J fp it tn)
    (pg : PG (gen X (B.deeper ce) s3 H3 ce fp pn) tg g) (pi1 : PI (gen X (B.deeper ce) s3 H3 ce fp pn) tg1 iter1 wi1) (pg1 : PG (gen X (B.deeper ce) s3 H3 ce fp pn) tg1 g1) (pe : PE (gen X (B.deeper ce) s3 H3 ce fp pn) elt te) (hfp : ∀ b ∈ fp, ∀ p ∈ pn, p.1 ≠ b)
    (hs1 : ∀ env x, foldedSetIterable iter1 env x = pure x) (wk : Walk2 J g wi1 g1 te vs vs1 neg σ Q W)
    (m n : Nat) (s₀ s5 : Shared) (H5 : Hp) (hm : m < n) (w5 : W 0 m H5) (I5 : Inv (gen X (B.deeper ce) s3 H3 ce fp pn) [] (wipe σ vs) H5 s5) (st5 : tn 0 s5.heap) (n5 : ∀ b ∈ fp, H5 b = none) :
    Seg (model X.prog X.w) B (REnd (gen X (B.deeper ce) s3 H3 ce fp pn) σ vs neg Q) (YBool (gen X (B.deeper ce) s3 H3 ce fp pn) σ vs neg Q) n s₀ (.compStart (gexp2 elt tg iter tg1 iter1 scope pos) 0 (.ref it) .none ce)
      ((model X.prog X.w).den (.compStart (gexp2 elt tg iter tg1 iter1 scope pos) 0 (.ref it) .none ce)) [] s5 := by
  have loop := seg_gen2 (iter := iter) (scope := scope) (pos := pos) hc hco hf hv T pg pi1 pg1 pe hfp hs1 wk m 0 n s₀ s5 H5 hm w5 I5 st5 n5
  show Seg _ B _ _ _ s₀ _ ((compStart (gexp2 elt tg iter tg1 iter1 scope pos) 0 (.ref it) .none ce).onRaise (leaving ce)) [] s5
  unfold compStart
  rw [Sem.onRaise_eq_wrap]
  show Seg _ B _ _ _ s₀ _ ((ask >>= _).wrap _ _ _ _) [] s5
  refine seg_bind_wrap (wpAny_askSetting ?_)
  split
  · exact seg_again rfl loop
  · refine seg_bind_wrap (wpAny_rule ?_)
    show Seg _ B _ _ _ s₀ _ ((standAt iter.pos >>= _).wrap _ _ _ _) [] s5
    exact seg_bind_wrap (wpAny_standAt (seg_bind_wrap (T.self _ 0 s5 _ _ st5 (seg_again rfl loop))))
end
def born (s : Shared) (h : Heap) (c : Code) (qn : Str) : Shared := { s with gens := s.gens.push (.fresh c), toks := s.toks + 1 + 1 + 1, heap := h.push ⟨.type "generator", none, .fields #[.int s.gens.size 0, .str "<genexpr>" (s.toks + 1), .str qn (s.toks + 1 + 1)], #[]⟩ }
theorem gexp2_make {M : Model} {A : Around} {E : Value → Shared → Prop} {s : Shared} {env : Env} {elt tg iter tg1 iter1 : Expr} {scope : Scope} {cl : List (Str × Addr)} {pos : Pos} {Q : Value → Shared → Prop}
    (plain : scope.isCoroutine = false) (clo : closureFor scope env = pure cl) (noCell : ∀ y ∈ scope.names, y.2 ≠ .cell) (dot : scope.names.lookup (".0" : Str) = some NameKind.local) (fn : scope.kind = .function) (deep : A.depth < recursionLimit)
    (parts : wpAny M A (eval iter env) (fun src t1 => wpAny M A (pyIter src) (fun it t2 => t2.heap.NoLimit ∧ wpAny M A (genexprCode env pos (env.qual ++ "<genexpr>") scope) (fun code t3 => wpAny M A (builtinsFor env.globals env.builtins) (fun bi t4 =>
      ∀ h, h.Ns t4.heap.objs.size (fun y => if y = ".0" then some it else none) → Heap.SameBut t4.heap.objs.size (t4.heap.push ⟨.type "frame", none, .dict #[] 0, #[]⟩) h →
        Q (.ref h.objs.size) (born t4 h (.compStart (gexp2 elt tg iter tg1 iter1 scope pos) 0 it .none (genEnv scope cl t4.heap.objs.size code bi env)) (env.qual ++ "<genexpr>"))) E t3) E t2) E t1) E s)
    (fold : ∀ x, genFold iter env x = pure x) : wpAny M A (eval (gexp2 elt tg iter tg1 iter1 scope pos) env) Q E s := by
  have up : ∀ {α : Type} {P R : α → Shared → Prop} {m : Sem α} {u : Shared}, wpAny M A m P E u → (∀ a v, P a v → R a v) → wpAny M A m R E u := fun w k => wpAny_mono w k fun _ _ => id
  have zero : ∀ it : Value, ∀ z ∈ ([((".0" : Str), it)] : List (Str × Value)), scope.names.lookup z.1 = some NameKind.local := fun it z m => by
    rw [List.mem_singleton.mp m]
    exact dot
  rw [arm_eval_GeneratorExp, if_neg (by rw [plain]; exact Bool.false_ne_true)]
  refine wpAny_bind (up parts fun src t1 k1 => wpAny_bind (wpAny_standAt (wpAny_bind (wpAny_of_eq (a := src) ?_ (wpAny_bind (wpAny_holding ?_))))))
  · exact Eq.trans (by cases iter <;> rfl) (fold src)
  have sync : firstAsync [⟨tg, iter, [], 0⟩, ⟨tg1, iter1, [], 0⟩] = false := rfl
  rw [sync, if_neg Bool.false_ne_true]
  refine up k1 fun it t2 k2 => wpAny_bind (wpAny_enterFrame k2.1 deep (wpAny_bind ?_))
  rw [clo]
  refine wpAny_pure (wpAny_bind (up k2.2 fun code t3 k3 => wpAny_bind (up k3 fun bi t4 k4 => wpAny_bind (wpAny_newFunctionEnv noCell (zero it) (fun h ns sb => ?_) fn))))
  have one : (fun y : Str => ([((".0" : Str), it)] : List (Str × Value)).reverse.lookup y) = fun y => if y = (".0" : Str) then some it else none := funext fun y => by
    show (match y == (".0" : Str) with | true => some it | false => none) = _
    by_cases q : y = (".0" : Str)
    · rw [if_pos q, q]; rfl
    · rw [if_neg q, beq_eq_false_iff_ne.mpr q]
  unfold newGenerator newFields
  exact wpAny_bind (wpAny_newGen (wpAny_bind (wpAny_mkText (wpAny_bind (wpAny_mkText (wpAny_newObj_type (k4 h (one ▸ ns) sb) (by size_fits)))))))
def tAA2 (neg : Bool) (gp : Pos) (P : Addr) (wi : TI) (g : TG) (wi1 : TI) (g1 : TG) (te : TE) (vs vs1 : List Nat) : TE := fun σ H Q => wi σ H fun J H1 => TabX H1 P ∧ ∀ H2, TabbedX gp P H1 H2 → ∃ W : Nat → Nat → Hp → Prop, (∃ m, W 0 m H2) ∧ Walk2 J g wi1 g1 te vs vs1 neg σ Q W
section
variable {X : Cx} {pins : List (Addr × Obj)} {σ : L2.St} {H : Hp} {s : Shared}
theorem gen_make2 {c P : Addr} {elt tg iter tg1 iter1 : Expr} {gpos : Pos} {scope : Scope} {own : List (Str × Nat)} {wi wi1 : TI} {g g1 : TG} {te : TE} {vs1 : List Nat} {k : Nat} {neg : Bool} {Q : VK} {Q' : Value → Shared → Prop}
    (hr : Room k X.A) (hc : X.calm = true) (hN : X.N.Nodup) (TB : GxR.TabB X.base X.mg c P) (hcode : X.env.code = .ref c) (ok : BlkOk X.N X.env.scope scope own) (nc : ∀ y ∈ scope.names, y.2 ≠ .cell) (dot : scope.names.lookup (".0" : Str) = some NameKind.local) (co : scope.isCoroutine = false)
    (hi : PI X tg iter wi) (pg : ∀ (s : Shared) (H : Hp) (C : Addr) (code : Value) (fp : List Addr) (pn : List (Addr × Obj)), PG (gen X (X.A.in1.in1.deeper (gEnv X scope C code)) s H (gEnv X scope C code) fp pn) tg g) (pi1 : ∀ (s : Shared) (H : Hp) (C : Addr) (code : Value) (fp : List Addr) (pn : List (Addr × Obj)), PI (gen X (X.A.in1.in1.deeper (gEnv X scope C code)) s H (gEnv X scope C code) fp pn) tg1 iter1 wi1) (pg1 : ∀ (s : Shared) (H : Hp) (C : Addr) (code : Value) (fp : List Addr) (pn : List (Addr × Obj)), PG (gen X (X.A.in1.in1.deeper (gEnv X scope C code)) s H (gEnv X scope C code) fp pn) tg1 g1) (pe : ∀ (s : Shared) (H : Hp) (C : Addr) (code : Value) (fp : List Addr) (pn : List (Addr × Obj)), PE (gen X (X.A.in1.in1.deeper (gEnv X scope C code)) s H (gEnv X scope C code) fp pn) elt te)
    (hs : ∀ v, genFold iter X.env v = pure v) (hs1 : ∀ env x, foldedSetIterable iter1 env x = pure x) (hv : ∀ i ∈ vs1, i ∈ own.map (·.2)) (I : Inv X pins σ H s) (h : tAA2 neg gpos P wi g wi1 g1 te (own.map (·.2)) vs1 σ H Q) (hQ : ∀ u s5, Ready X pins σ (own.map (·.2)) neg Q u s5 → Q' u s5) :
    wpAny (model X.prog X.w) X.A (eval (gexp2 elt tg iter tg1 iter1 scope gpos) X.env) Q' X.xe s := by
  have fre : ∀ y ∈ scope.names, y.2 = .free → ∃ c, X.env.cells.lookup y.1 = some c := fun y hy e => by
    rcases ok.free y hy e with k | k
    · exact I.ok.has _ (.inl k)
    · exact I.ok.has _ (.inr k)
  refine gexp2_make co (closure_ok fre) nc dot ok.kind (by have := hr.dp; omega) ?_ hs
  refine thn (hi.run pins s σ H _ I h) fun xv s1 hx => thn hx fun itv s2 h2 => ?_
  obtain ⟨it, fp, tn, J, H2, e, I2, T, st2, f2, ⟨ps, hP, ht, htx⟩, q⟩ := h2
  subst e
  refine ⟨I2.nolimit, ?_⟩
  have hPs : s2.heap.get? P = some { cls := .none, data := .fields ps } := I2.hok P _ hP
  have sz : ∀ b ∈ fp, b < s2.heap.objs.size := fun b m => let ⟨_, e, _⟩ := T.obj _ _ st2 b m; Heap.lt_size e
  have nPf : ∀ b ∈ fp, b ≠ P := fun b hb z => by
    have := (f2 b hb).1
    rw [z, hP] at this
    cases this
  have cont : ∀ (code : Value) (h3 : Heap) (tk : Nat) (ps' : Array Value), Heap.ExtBut P s2.heap h3 → s2.heap.objs.size ≤ h3.objs.size → h3.get? P = some { cls := .none, data := .fields ps' } → (∃ more, ps' = ps ++ more) → TriplesOk ps'.toList → (∀ (pos : Pos) (cv : Value), codeAmong pos ps'.toList = some cv → codeAmong pos ps.toList = some cv ∨ (gpos.line = pos.line ∧ gpos.col = pos.col)) →
      wpAny (model X.prog X.w) X.A (builtinsFor X.env.globals X.env.builtins) (fun bi s₄ =>
        ∀ h', h'.Ns s₄.heap.objs.size (fun y => if y = ".0" then some (.ref it) else none) → Heap.SameBut s₄.heap.objs.size (s₄.heap.push { cls := .type "frame", data := .dict #[] }) h' →
          Q' (.ref h'.objs.size) { s₄ with
            gens := s₄.gens.push (.fresh (.compStart (gexp2 elt tg iter tg1 iter1 scope gpos) 0 (.ref it) .none (genEnv scope (cloFrom X.env.cells scope.names []) s₄.heap.objs.size code bi X.env))),
            toks := s₄.toks + 1 + 1 + 1,
            heap := h'.push { cls := .type "generator", data := .fields #[.int s₄.gens.size 0, .str "<genexpr>" (s₄.toks + 1), .str (X.env.qual ++ "<genexpr>") (s₄.toks + 1 + 1)] } }) X.xe { s2 with heap := h3, toks := tk } := by
    intro code h3 tk ps' hx hsz hP3 ⟨more, em⟩ ht3 hgr
    subst em
    obtain ⟨bm, ob, e1, e2, e3, e4, e5, e6, e7, e8⟩ := TB.bm
    have keep3 : ∀ b u, b ≠ P → s2.heap.get? b = some u → h3.get? b = some u := fun b u hb e => hx b u hb e
    have I3 : Inv X pins σ (upd H2 P (.tbl (ps ++ more))) { s2 with heap := h3, toks := tk } := GxR.inv_tab (g' := s2.gens) (d' := s2.drawn) I2 hP (fun b u hb e => keep3 b u hb e) hP3 I2.bare
    refine wpAny_builtinsFor (m := X.mg) (by rw [I2.ok.glob]; exact (I2.mod.glob.keeps I2.bk).extBut hx TB.gP) e1 e2 (keep3 _ _ e4 (I2.bk _ _ e5)) e6 e7 e8 ?_
    intro h' hn' hs'
    obtain ⟨W, ⟨m, w0⟩, wk⟩ := q (upd H2 P (.tbl (ps ++ more))) ⟨⟨ps, ps ++ more, hP, upd_same, ht3, hgr⟩, fun b hb => upd_ne hb⟩
    generalize hs4 : ({ s2 with heap := h3, toks := tk } : Shared) = s4 at I3 hn' hs' ⊢
    have eh4 : s4.heap = h3 := by rw [← hs4]
    have hf4 : ∀ b ∈ fp, FpOk X pins (upd H2 P (.tbl (ps ++ more))) b ∧ b < s4.heap.objs.size := fun b hb => by
      refine ⟨⟨by rw [upd_ne (nPf b hb)]; exact (f2 b hb).1, (f2 b hb).2⟩, ?_⟩
      rw [eh4]
      exact Nat.lt_of_lt_of_le (sz b hb) hsz
    have sz' : h'.objs.size = s4.heap.objs.size + 1 := by rw [hs'.1, Heap.size_push]
    have keep' : ∀ b o, s4.heap.get? b = some o → h'.get? b = some o := fun b o e => hs'.extBut b o (Nat.ne_of_lt (Heap.lt_size e)) (Heap.get?_push_of_some _ e)
    generalize hgo : ({ cls := .type "generator", data := .fields #[.int s4.gens.size 0, .str "<genexpr>" (s4.toks + 1), .str (X.env.qual ++ "<genexpr>") (s4.toks + 1 + 1)] } : Obj) = go
    have keep5 : ∀ b o, s4.heap.get? b = some o → (h'.push go).get? b = some o := fun b o e => Heap.get?_push_of_some _ (keep' b o e)
    have gat : (h'.push go).get? h'.objs.size = some go := Heap.get?_push_size _ (by rw [← hgo]; rfl)
    have isg : ∀ h : Heap, h.get? h'.objs.size = some go → h.IsGen h'.objs.size s4.gens.size := fun h e => ⟨go, _, _, e, by rw [← hgo], by rw [← hgo], by rw [← hgo]⟩
    have fr1 : (X.A.in1.in1).frames = some X.stack := I3.ok.frames
    have key : ∀ s5 : Shared, s5.heap = h'.push go → s5.os = s4.os → AllBare s5.gens → Inv (gen X (X.A.in1.in1.deeper (gEnv X scope s4.heap.objs.size code)) s4 (upd H2 P (.tbl (ps ++ more))) (gEnv X scope s4.heap.objs.size code) fp [(h'.objs.size, go)]) [] (wipe σ (own.map (·.2))) (upd H2 P (.tbl (ps ++ more))) s5 := fun s5 h5 ho hb => by
      have J := gen_start (A := X.A.in1.in1.deeper (gEnv X scope s4.heap.objs.size code)) (code := code) I3 ok hN hf4 nc hr.hd (Around.frames_deeper fr1) (s5 := s5) (by rw [h5]; exact hn'.push _) (fun b o e => by rw [h5]; exact keep5 b o e) ho hb
      refine pinned J fun p hp => ?_
      have hp : p = (h'.objs.size, go) := by simpa using hp
      subst hp
      have hle : s4.heap.objs.size ≤ h'.objs.size := by rw [sz']; exact Nat.le_succ _
      refine ⟨by rw [h5]; exact gat, I3.hok.fresh hle, ?_, fun z => ?_, fun v z => ?_⟩
      · show h'.objs.size ≠ s4.heap.objs.size
        rw [sz']
        exact Nat.succ_ne_self _
      · rcases List.mem_cons.mp (I3.stkSub _ z) with z | z
        · have := I3.lt
          rw [← z] at this
          exact absurd (Nat.lt_of_lt_of_le this hle) (Nat.lt_irrefl _)
        · exact I3.nofs hle z
      · have z : go.data = .cell v := z
        rw [← hgo] at z
        cases z
    have hfpn : ∀ b ∈ fp, ∀ p ∈ [(h'.objs.size, go)], p.1 ≠ b := fun b hb p hp z => by
      have hp : p = (h'.objs.size, go) := by simpa using hp
      subst hp
      have := (hf4 b hb).2
      rw [← z, sz'] at this
      exact absurd this (Nat.not_lt.mpr (Nat.le_succ _))
    have bar : AllBare (s4.gens.push (.fresh (.compStart (gexp2 elt tg iter tg1 iter1 scope gpos) 0 (.ref it) .none (gEnv X scope s4.heap.objs.size code)))) := AllBare.push I3.bare rfl
    refine hQ _ _ ⟨h'.objs.size, s4.gens.size, m + 1, gen X (X.A.in1.in1.deeper (gEnv X scope s4.heap.objs.size code)) s4 (upd H2 P (.tbl (ps ++ more))) (gEnv X scope s4.heap.objs.size code) fp [(h'.objs.size, go)], rfl, isg _ gat, I3.nolimit.keeps keep5, bar, ⟨_, Array.getElem?_push_size .., rfl, fun s' e1 e2 e3 => ⟨rfl, ?_⟩⟩, fun s' H' I' => ?_⟩
    · exact seg_first2 (B := X.A.in1.in1) hc co (by simp [genEnv]) hv T (pg _ _ _ _ _ _) (pi1 _ _ _ _ _ _) (pg1 _ _ _ _ _ _) (pe _ _ _ _ _ _) hfpn hs1 wk m (m + 1) _ s' _ (Nat.lt_succ_self _) w0 (key s' e1 e2 e3)
        (T.keep _ _ _ st2 fun b hb o e => by rw [e1]; exact keep5 b o (by rw [eh4]; exact keep3 b o (nPf b hb) e)) fun b hb => (hf4 b hb).1.1
    · refine ⟨isg _ (I'.pin (h'.objs.size, go) (List.mem_append_left _ (List.mem_singleton.mpr rfl))).1, I'.nolimit, I'.bare, ?_⟩
      exact I3.call' (ch := fp) I'.os I'.base I'.hok I'.bare fun b hb => ⟨(hf4 b hb).1.2.2.2.1, (hf4 b hb).1.2.1, (hf4 b hb).1.2.2.2.2.1, (hf4 b hb).1.2.2.2.2.2⟩
  have cd : PySem.W.CodeHd s2.heap c P := TB.code.keeps fun b u e => I2.bk b u e
  cases hf : codeAmong gpos ps.toList with
  | none =>
    refine wpAny_genexprCodeX hcode (cd.code hPs ht) (cd.tab hPs) hf fun c' h' tk hx hge hlt hco' _ htab' _ => ?_
    obtain ⟨o1, us, f1, tf, fl, tg', inF, tx, tt, op, _, _, _, _, _, _, _, _, _, htr, _⟩ := hco'
    exact cont _ h' tk _ hx (Nat.le_trans hge (Nat.le_of_lt hlt)) htab'.2 ⟨_, rfl⟩ htr fun p' cv hcv => by
      have eL : (ps ++ #[rawInt gpos.line, rawInt gpos.col, .ref c']).toList = ps.toList ++ [rawInt gpos.line, rawInt gpos.col, .ref c'] := by simp
      rw [eL] at hcv
      exact (NdefX.among_app2 _ ht hcv).imp id fun z => z.2
  | some cv =>
    refine wpAny_genexprCode_hit hcode (cd.code hPs ht) hf ?_
    exact cont cv s2.heap s2.toks ps (Heap.ExtBut.refl _ _) (Nat.le_refl _) hPs ⟨#[], by simp⟩ ht fun p' cv hcv => .inl hcv
theorem pe_all2 {c P : Addr} {elt tg iter tg1 iter1 : Expr} {p cpos gpos : Pos} {scope : Scope} {own : List (Str × Nat)} {wi wi1 : TI} {g g1 : TG} {te : TE} {vs1 : List Nat} {k : Nat}
    (hr : Room k X.A) (hc : X.calm = true) (hN : X.N.Nodup) (hg : Gl X "all") (hm : X.mg "all" = none) (hb : bootBuiltins "all" = some (.builtin "all")) (TB : GxR.TabB X.base X.mg c P) (hcode : X.env.code = .ref c) (ok : BlkOk X.N X.env.scope scope own) (nc : ∀ y ∈ scope.names, y.2 ≠ .cell) (dot : scope.names.lookup (".0" : Str) = some NameKind.local) (co : scope.isCoroutine = false)
    (hi : PI X tg iter wi) (pg : ∀ (s : Shared) (H : Hp) (C : Addr) (code : Value) (fp : List Addr) (pn : List (Addr × Obj)), PG (gen X (X.A.in1.in1.deeper (gEnv X scope C code)) s H (gEnv X scope C code) fp pn) tg g) (pi1 : ∀ (s : Shared) (H : Hp) (C : Addr) (code : Value) (fp : List Addr) (pn : List (Addr × Obj)), PI (gen X (X.A.in1.in1.deeper (gEnv X scope C code)) s H (gEnv X scope C code) fp pn) tg1 iter1 wi1) (pg1 : ∀ (s : Shared) (H : Hp) (C : Addr) (code : Value) (fp : List Addr) (pn : List (Addr × Obj)), PG (gen X (X.A.in1.in1.deeper (gEnv X scope C code)) s H (gEnv X scope C code) fp pn) tg1 g1) (pe : ∀ (s : Shared) (H : Hp) (C : Addr) (code : Value) (fp : List Addr) (pn : List (Addr × Obj)), PE (gen X (X.A.in1.in1.deeper (gEnv X scope C code)) s H (gEnv X scope C code) fp pn) elt te)
    (hs : ∀ v, genFold iter X.env v = pure v) (hs1 : ∀ env x, foldedSetIterable iter1 env x = pure x) (hv : ∀ i ∈ vs1, i ∈ own.map (·.2)) (he : starEach [gexp2 elt tg iter tg1 iter1 scope gpos] X.env = (false, eval (gexp2 elt tg iter tg1 iter1 scope gpos) X.env) :: starEach [] X.env := by rfl) :
    PE X (.Call (.Name "all" p) [gexp2 elt tg iter tg1 iter1 scope gpos] [] cpos) (tAA2 false gpos P wi g wi1 g1 te (own.map (·.2)) vs1) := by
  refine ⟨fun pins s σ H Q I h => ?_⟩
  refine wpAny_Call_Name_kw (ld_blt I hg hm hb ?_)
  refine PyProof.Rows.callWith_builtin1 ?_ he (by rfl)
  rw [he]
  show wpAny _ _ (spliced ((false, eval (gexp2 elt tg iter tg1 iter1 scope gpos) X.env) :: backTo cpos (starEach [] X.env))) _ _ s
  refine Calls.spliced_cons (gen_make2 hr hc hN TB hcode ok nc dot co hi pg pi1 pg1 pe hs hs1 hv I h fun u s5 hG => ?_)
  obtain ⟨a, gn, n, Y, rfl, g5, l5, b5, ⟨gs, hgs, hbr, hgo⟩, back⟩ := hG
  refine Calls.spliced_nil ?_
  refine call_function_tree F.kind_all F.plain_all F.entry_all (F.args_all1 _) ?_
  unfold Builtin.«all»
  refine wpAny_bind (m := oneArg "all" _) (wpAny_pure ?_)
  refine wpAny_bind (wpAny_pyIter_gen g5 ?_)
  refine wpAny_pure ⟨plainId_quiet F.plain_all_loop _, all_turns hr.hd hr.depth' back (fun b s' H' J q => ?_) n s5 g5 l5 ⟨gs, hgs, hgo _ rfl rfl (allBare_setGen b5 rfl)⟩⟩
  exact ⟨.bl b, H', J, rfl, q⟩

end
end Gx

set_option Elab.async false
set_option linter.all false
set_option maxRecDepth 100000
set_option maxHeartbeats 4000000
/-! Sx1: hash tables of sets of any mask 2^k - 1. -/
namespace Sx
open PySem PySem.Spec PyProof.Rows L2
/-! the round -/
def rep5 : Nat → Nat
  | 0 => 0
  | n + 1 => 5 * rep5 n + 1
theorem rep5_add (a : Nat) : ∀ b, rep5 (a + b) = 5 ^ b * rep5 a + rep5 b
  | 0 => by simp [rep5]
  | b + 1 => by
    show 5 * rep5 (a + b) + 1 = _
    rw [rep5_add a b, rep5, Nat.pow_succ]
    have : 5 ^ b * 5 * rep5 a = 5 * (5 ^ b * rep5 a) := by rw [Nat.mul_comm (5 ^ b) 5, Nat.mul_assoc]
    omega
theorem pow5_mod4 : ∀ n, 5 ^ n % 4 = 1
  | 0 => rfl
  | n + 1 => by have := pow5_mod4 n; rw [Nat.pow_succ]; omega
theorem rep5_par : ∀ n, rep5 n % 2 = n % 2
  | 0 => rfl
  | n + 1 => by have := rep5_par n; show (5 * rep5 n + 1) % 2 = _; omega
theorem rep5_div : ∀ (k d : Nat), 2 ^ k ∣ rep5 d → 2 ^ k ∣ d
  | 0, d, _ => by simp
  | k + 1, d, h => by
    have h2 : 2 ∣ rep5 d := Nat.dvd_trans ⟨2 ^ k, by rw [Nat.pow_succ, Nat.mul_comm]⟩ h
    have p := rep5_par d
    obtain ⟨e, rfl⟩ : ∃ e, d = e + e := ⟨d / 2, by omega⟩
    rw [rep5_add] at h
    have q := pow5_mod4 e
    obtain ⟨u, hu⟩ : ∃ u, 5 ^ e = 4 * u + 1 := ⟨5 ^ e / 4, by omega⟩
    have e1 : 5 ^ e * rep5 e + rep5 e = 2 * (rep5 e * (2 * u + 1)) := by
      rw [hu, Nat.add_mul, Nat.one_mul, Nat.mul_add, Nat.mul_one]
      have : 4 * u * rep5 e = 2 * (rep5 e * (2 * u)) := by
        rw [Nat.mul_comm (rep5 e), ← Nat.mul_assoc, ← Nat.mul_assoc]
      omega
    rw [e1, Nat.pow_succ, Nat.mul_comm (2 ^ k) 2] at h
    have h3 := Nat.dvd_of_mul_dvd_mul_left (by decide) h
    have cop : Nat.Coprime (2 ^ k) (2 * u + 1) := Nat.Coprime.pow_left k (by
      rw [Nat.coprime_iff_gcd_eq_one]
      rw [Nat.gcd_comm, show 2 * u + 1 = 1 + u * 2 by omega]
      simp)
    have h4 := cop.dvd_of_dvd_mul_right h3
    obtain ⟨c, hc⟩ := rep5_div k e h4
    exact ⟨c, by rw [Nat.pow_succ, Nat.mul_comm (2 ^ k) 2, Nat.mul_assoc, ← hc]; omega⟩
theorem lcgI_rep (k : Nat) (i : Nat) (hi : i < 2 ^ k) : ∀ n, lcgI (2 ^ k - 1) i n = (5 ^ n * i + rep5 n) % 2 ^ k
  | 0 => by simp [lcgI, rep5, Nat.mod_eq_of_lt hi]
  | n + 1 => by
    have hp : 2 ^ k - 1 + 1 = 2 ^ k := Nat.sub_add_cancel (Nat.one_le_two_pow)
    show (lcgI (2 ^ k - 1) i n * 5 + 1) % (2 ^ k - 1 + 1) = _
    rw [lcgI_rep k i hi n, hp]
    have : (5 ^ (n + 1) * i + rep5 (n + 1)) = (5 ^ n * i + rep5 n) * 5 + 1 := by
      rw [rep5, Nat.pow_succ, Nat.add_mul, Nat.mul_right_comm]; omega
    rw [this, Nat.add_mod, Nat.mul_mod]
    simp
theorem lcg_meets (k : Nat) {i j : Nat} (hi : i < 2 ^ k) (hj : j < 2 ^ k) : ∃ n, n < 2 ^ k ∧ lcgI (2 ^ k - 1) i n = j := by
  have inj : ∀ a b, a < b → b < 2 ^ k → lcgI (2 ^ k - 1) i a ≠ lcgI (2 ^ k - 1) i b := by
    intro a b hab hb e
    rw [lcgI_rep k i hi, lcgI_rep k i hi] at e
    obtain ⟨d, rfl⟩ : ∃ d, b = d + a := ⟨b - a, by omega⟩
    have e1 : 5 ^ (d + a) * i + rep5 (d + a) = (5 ^ a * i + rep5 a) + 5 ^ a * (rep5 d * (4 * i + 1)) := by
      have hp : ∀ d, 5 ^ d = 4 * rep5 d + 1 := by
        intro d
        induction d with
        | zero => rfl
        | succ d ih => rw [Nat.pow_succ, ih, rep5]; omega
      rw [rep5_add, Nat.pow_add, hp d]
      have z1 : (4 * rep5 d + 1) * 5 ^ a * i = 5 ^ a * i + 5 ^ a * (rep5 d * (4 * i)) := by
        rw [Nat.add_mul, Nat.one_mul, Nat.add_mul]
        have : 4 * rep5 d * 5 ^ a * i = 5 ^ a * (rep5 d * (4 * i)) := by
          rw [Nat.mul_comm (4 * rep5 d) (5 ^ a), Nat.mul_assoc]
          congr 1
          rw [Nat.mul_comm 4, Nat.mul_assoc]
        omega
      rw [z1, Nat.mul_add (rep5 d), Nat.mul_one, Nat.mul_add (5 ^ a)]
      omega
    rw [e1] at e
    have dv : 2 ^ k ∣ 5 ^ a * (rep5 d * (4 * i + 1)) := by
      have := Nat.sub_mod_eq_zero_of_mod_eq e.symm
      rw [Nat.add_sub_cancel_left] at this
      exact Nat.dvd_of_mod_eq_zero this
    have c5 : Nat.Coprime (2 ^ k) (5 ^ a) := Nat.Coprime.pow k a (by decide)
    have d2 := c5.dvd_of_dvd_mul_left dv
    have c4 : Nat.Coprime (2 ^ k) (4 * i + 1) := Nat.Coprime.pow_left k (by
      rw [Nat.coprime_iff_gcd_eq_one, Nat.gcd_comm, show 4 * i + 1 = 1 + (2 * i) * 2 by omega]
      simp)
    have d3 := rep5_div k d (c4.dvd_of_dvd_mul_right d2)
    have := Nat.le_of_dvd (by omega) d3
    omega
  have lt : ∀ n, lcgI (2 ^ k - 1) i n < 2 ^ k := fun n => by rw [lcgI_rep k i hi]; exact Nat.mod_lt _ (Nat.two_pow_pos k)
  rcases Classical.em (∃ n, n < 2 ^ k ∧ lcgI (2 ^ k - 1) i n = j) with c | c
  · exact c
  · exfalso
    have nd : (j :: (List.range (2 ^ k)).map fun n => lcgI (2 ^ k - 1) i n).Nodup := by
      rw [List.nodup_cons]
      refine ⟨fun h => ?_, ?_⟩
      · obtain ⟨n, hn, e⟩ := List.mem_map.mp h
        exact c ⟨n, List.mem_range.mp hn, e⟩
      · rw [List.nodup_iff_pairwise_ne, List.pairwise_map]
        refine List.Pairwise.imp_of_mem (R := fun a b => a < b) (fun {a b} ha hb hab => inj a b hab (List.mem_range.mp hb)) ?_
        exact List.pairwise_lt_range
    have := nat_nodup_len _ (List.range (2 ^ k)) nd fun x hx => by
      rcases List.mem_cons.mp hx with e | hx
      · rw [e]; exact List.mem_range.mpr hj
      · obtain ⟨n, _, e⟩ := List.mem_map.mp hx
        rw [← e]; exact List.mem_range.mpr (lt n)
    simp at this
    omega
def MkOk (m : Nat) : Prop := ∃ k, m = 2 ^ (k + 3) - 1
theorem MkOk.odd {m : Nat} (h : MkOk m) : m % 2 = 1 := by
  obtain ⟨k, rfl⟩ := h
  have : 2 ^ (k + 3) = 2 * 2 ^ (k + 2) := by rw [Nat.pow_succ, Nat.mul_comm]
  have : 0 < 2 ^ (k + 2) := Nat.two_pow_pos _
  omega
theorem MkOk.meets {m : Nat} (hm : MkOk m) (h : Int) {j : Nat} (hj : j ≤ m) : ∃ n, n ≤ m + 12 ∧ runI m (SetTable.bits h) n = j := by
  obtain ⟨k, rfl⟩ := hm
  have hp : 0 < 2 ^ (k + 3) := Nat.two_pow_pos _
  have h0 := runI_le (2 ^ (k + 3) - 1) (SetTable.bits h) 12
  obtain ⟨n, hn, e⟩ := lcg_meets (k + 3) (i := runI (2 ^ (k + 3) - 1) (SetTable.bits h) 12) (j := j) (by omega) (by omega)
  exact ⟨12 + n, by omega, (runI_tail (bits_lt h) n).trans e⟩
theorem MkOk.way {m : Nat} (hm : MkOk m) (h : Int) {j : Nat} (hj : j ≤ m) : ∃ c, c < 10 * SetTable.turns m ∧ L2.way m h c = j := by
  obtain ⟨n, hn, e⟩ := hm.meets h hj
  obtain ⟨c, hc, e2⟩ := run_nth m (SetTable.bits h) n
  refine ⟨c, by unfold SetTable.turns; omega, ?_⟩
  show (nth m _ c).j = j
  rw [e2]; exact e
theorem way_bd {m : Nat} (h : Int) (c : Nat) : L2.way m h c ≤ m := by
  have h1 : SetTable.bits h % (m + 1) ≤ m := Nat.le_of_lt_succ (Nat.mod_lt _ (Nat.succ_pos _))
  have r := runEnd_bd h1
  have q := nth_in (m := m) c (runAt m (SetTable.bits h % (m + 1)) (SetTable.bits h)) (by simp only [runAt]; omega)
  show (nth m _ c).j ≤ m
  omega
structure Tb (t : SetTable) (hs : List Int) : Prop where
  up : Ris t.place.toList
  nod : t.dummies = #[]
  num : t.place.size = hs.length
  msk : MkOk t.mask
  low : ∀ x ∈ t.place.toList, x ≤ t.mask
  got : ∀ (i : Nat) (h : Int) (j : Nat), hs[i]? = some h → t.place.toList[i]? = some j → ∃ c, L2.way t.mask h c = j ∧ ∀ b, b < c → L2.way t.mask h b ∈ t.place.toList
section
variable {t : SetTable} {hs : List Int} {h : Int}
theorem Tb.gap (T : Tb t hs) (hl : hs.length ≤ t.mask) (h : Int) : ∃ c, c < 10 * SetTable.turns t.mask ∧ L2.way t.mask h c ∉ t.place.toList ∧ ∀ b, b < c → L2.way t.mask h b ∈ t.place.toList := by
  obtain ⟨j, hj, hn⟩ := st_missing t.place.toList (t.mask + 1) (by have := T.num; rw [Array.length_toList]; omega)
  obtain ⟨c, hc, e⟩ := T.msk.way h (Nat.le_of_lt_succ hj)
  obtain ⟨d, d1, d2, d3⟩ := st_least (p := fun c => L2.way t.mask h c ∉ t.place.toList) c (by simp only [e]; exact hn)
  exact ⟨d, by omega, d2, fun b hb => Classical.byContradiction fun z => d3 b hb z⟩
theorem Tb.early (T : Tb t hs) {c i j : Nat} (hc : L2.way t.mask h c ∉ t.place.toList) (hi : hs[i]? = some h) (hj : t.place.toList[i]? = some j) : ∃ b, b < c ∧ L2.way t.mask h b = j := by
  obtain ⟨b, e, z⟩ := T.got i h j hi hj
  refine ⟨b, ?_, e⟩
  rcases Nat.lt_or_ge b c with q | q
  · exact q
  · exfalso
    rcases Nat.eq_or_lt_of_le q with q | q
    · rw [q, e] at hc; exact hc (List.mem_of_getElem? hj)
    · exact hc (z c q)
theorem Tb.put (T : Tb t hs) {c : Nat} (hc : L2.way t.mask h c ∉ t.place.toList) (hb : ∀ b, b < c → L2.way t.mask h b ∈ t.place.toList) {j p : Nat} (ej : j = L2.way t.mask h c) (ep : p = SetTable.below t.place j) :
    (t.put j).2 = p ∧ p ≤ hs.length ∧ Tb (t.put j).1 (hs.take p ++ h :: hs.drop p) ∧ (t.put j).1.mask = t.mask ∧ (t.put j).1.led = t.led ∧ (t.put j).1.plain = t.plain ∧ (t.put j).1.fill = hs.length + 1 := by
  rw [← ej] at hc
  have hjm : j ≤ t.mask := by rw [ej]; exact way_bd h c
  obtain ⟨c1, _, _⟩ := below_cut T.up j
  have tl : t.place.toList.length = hs.length := by rw [Array.length_toList]; exact T.num
  have p1 : p ≤ t.place.toList.length := by rw [ep, Array.length_toList]; exact c1
  have p2 : p ≤ hs.length := by omega
  have pl : (t.put j).1.place.toList = t.place.toList.take p ++ j :: t.place.toList.drop p := by rw [ep]; exact put_place t j
  have sz : (t.put j).1.place.size = hs.length + 1 := by rw [← Array.length_toList, pl, len_ins _ p1, tl]
  have mono : ∀ {x : Nat}, x ∈ t.place.toList → x ∈ (t.put j).1.place.toList := fun hx => by rw [pl]; exact mem_ins.2 (.inr hx)
  have mk : (t.put j).1.mask = t.mask := rfl
  refine ⟨ep.symm, p2, ⟨?_, put_dm T.nod j, by rw [len_ins _ p2]; exact sz, T.msk, fun x hx => ?_, fun i h' j' e1 e2 => ?_⟩, mk, rfl, rfl, ?_⟩
  · exact ris_insert T.up fun e => hc (List.mem_of_getElem? (by rw [Array.getElem?_toList]; exact e))
  · rw [pl] at hx
    rcases mem_ins.1 hx with e | hx
    · rw [e]; exact hjm
    · exact T.low x hx
  · rw [tins_get hs p2] at e1
    rw [pl, tins_get _ p1] at e2
    rw [mk]
    by_cases z : i < p
    · rw [if_pos z] at e1 e2
      obtain ⟨b, b1, b2⟩ := T.got i h' j' e1 e2
      exact ⟨b, b1, fun b' hb' => mono (b2 b' hb')⟩
    · rw [if_neg z] at e1 e2
      by_cases y : i = p
      · rw [if_pos y] at e1 e2
        cases e1; cases e2
        exact ⟨c, ej.symm, fun b' hb' => mono (hb b' hb')⟩
      · rw [if_neg y] at e1 e2
        obtain ⟨b, b1, b2⟩ := T.got (i - 1) h' j' e1 e2
        exact ⟨b, b1, fun b' hb' => mono (b2 b' hb')⟩
  · show (t.put j).1.place.size + (t.put j).1.dummies.size = _
    rw [sz, put_dm T.nod j]; rfl
end
/-! laying anew -/
theorem free_at {m : Nat} (hm : MkOk m) (ow : Array (Option Nat)) (h : Int) {j : Nat} (hj : j ≤ m) (hf : oAt ow j = none) :
    ∃ c, SetTable.layClean.free m ow (SetTable.turns m) (SetTable.bits h % (m + 1)) (SetTable.bits h) = some (L2.way m h c) ∧ oAt ow (L2.way m h c) = none ∧ ∀ b, b < c → oAt ow (L2.way m h b) ≠ none := by
  obtain ⟨n, hn, e⟩ := hm.meets h hj
  have e1 : L2.way m h (off m (SetTable.bits h % (m + 1)) (SetTable.bits h) n) = j := by
    show (nth m _ _).j = j
    rw [nth_off, itL_run]; exact e
  obtain ⟨c, c1, c2, c3⟩ := st_least (p := fun c => oAt ow (L2.way m h c) = none) _ (by rw [e1]; exact hf)
  refine ⟨c, free_spec m ow _ n _ _ c (by unfold SetTable.turns; omega) c1 (fun b hb => ?_) ?_, c2, c3⟩
  · have := c3 b hb
    exact Option.isNone_eq_false_iff.mpr (Option.isSome_iff_ne_none.mpr this)
  · rw [Option.isNone_iff_eq_none]; exact c2
theorem own_next {m : Nat} (hm : MkOk m) {dn : List Int} {ow : Array (Option Nat)} (W : Own m dn ow) (hl : dn.length ≤ m) (h : Int) :
    ∃ j, SetTable.layClean.free m ow (SetTable.turns m) (SetTable.bits h % (m + 1)) (SetTable.bits h) = some j ∧ Own m (dn ++ [h]) (ow.setIfInBounds j (some dn.length)) := by
  obtain ⟨ps, q1, q2⟩ := W.ps
  obtain ⟨j0, z1, z2⟩ := st_missing ps (m + 1) (by omega)
  have z3 : oAt ow j0 = none := Classical.byContradiction fun z => z2 (q2 j0 (Nat.le_of_lt_succ z1) z)
  obtain ⟨c, e1, e2, e3⟩ := free_at hm ow h (Nat.le_of_lt_succ z1) z3
  have hjm := way_bd (m := m) h c
  generalize ej : L2.way m h c = j at e1 e2 hjm
  have hjs : j < ow.size := by rw [W.sz]; omega
  have self := oAt_set_self (some dn.length) hjs
  have other : ∀ {i : Nat}, i ≠ j → oAt (ow.setIfInBounds j (some dn.length)) i = oAt ow i := fun hi => oAt_set_ne _ hi
  have mono : ∀ {i : Nat}, oAt ow i ≠ none → oAt (ow.setIfInBounds j (some dn.length)) i ≠ none := fun {i} hi => by
    by_cases q : i = j
    · rw [q, self]; exact Option.some_ne_none _
    · rw [other q]; exact hi
  refine ⟨j, e1, by rw [Array.size_setIfInBounds]; exact W.sz, fun i k hi e => ?_, fun k hk => ?_, j :: ps, by simp [q1], fun i hi e => ?_⟩
  · by_cases q : i = j
    · rw [q, self] at e
      cases e
      exact ⟨h, c, by simp, by rw [q]; exact ej, fun b hb => mono (e3 b hb)⟩
    · rw [other q] at e
      obtain ⟨h', K', a1, a2, a3⟩ := W.at_ i k hi e
      have hk := (List.getElem?_eq_some_iff.mp a1).1
      exact ⟨h', K', by rw [List.getElem?_append_left hk]; exact a1, a2, fun b hb => mono (a3 b hb)⟩
  · rw [List.length_append, List.length_singleton] at hk
    by_cases q : k < dn.length
    · obtain ⟨i, hi, e⟩ := W.all k q
      exact ⟨i, hi, by rw [other fun z => by rw [z, e2] at e; cases e]; exact e⟩
    · exact ⟨j, hjm, by rw [self]; congr 1; omega⟩
  · by_cases q : i = j
    · rw [q]; exact List.mem_cons_self
    · rw [other q] at e
      exact List.mem_cons_of_mem _ (q2 i hi e)
theorem lay_fold {m : Nat} (hm : MkOk m) : ∀ (rest dn : List Int) (ow : Array (Option Nat)), Own m dn ow → dn.length + rest.length ≤ m →
    ∃ ow', rest.foldl (stepF m) (some (ow, dn.length)) = some (ow', (dn ++ rest).length) ∧ Own m (dn ++ rest) ow'
  | [], dn, ow, W, _ => ⟨ow, by simp, by rw [List.append_nil]; exact W⟩
  | h :: rest, dn, ow, W, hl => by
    rw [List.length_cons] at hl
    obtain ⟨j, e, W2⟩ := own_next hm W (by omega) h
    obtain ⟨ow2, f, W3⟩ := lay_fold hm rest (dn ++ [h]) _ W2 (by rw [List.length_append, List.length_singleton]; omega)
    rw [List.append_assoc, List.singleton_append] at f W3
    rw [List.length_append, List.length_singleton] at f
    exact ⟨ow2, by rw [List.foldl_cons, stepF_some e]; exact f, W3⟩
theorem lay_ok {m : Nat} (hm : MkOk m) {hs : Array Int} (hn : hs.size ≤ m) : ∃ ow, SetTable.layClean m hs = some ow ∧ Own m hs.toList ow := by
  obtain ⟨ow, f, W⟩ := lay_fold hm hs.toList [] _ (Own.init m) (by rw [List.length_nil, Array.length_toList]; omega)
  rw [List.nil_append] at W
  refine ⟨ow, ?_, W⟩
  rw [layClean_eq]
  rw [List.length_nil] at f
  rw [f]; rfl
theorem again {t : SetTable} {hs : Array Int} {n M : Nat} (hw : SetTable.sizeAbove n - 1 = M) (hM : MkOk M) (hn : hs.size ≤ M) :
    ∃ t' order, t.relaid hs n = some (t', order) ∧ order.toList.Perm (List.range hs.size) ∧ Tb t' (order.toList.map fun i => hs.getD i 0) ∧ t'.mask = M ∧ t'.led = t.led ∧ t'.plain = t.plain := by
  obtain ⟨ow, e, W⟩ := lay_ok hM hn
  have ris := ris_live (fun j => ow.getD j none) (List.range (M + 1)) (by unfold Ris; exact List.pairwise_lt_range)
  have r1 : Ris ((liveOf M ow).map (·.1)) := ris.1
  have r2 : ∀ x ∈ (liveOf M ow).map (·.1), x ∈ List.range (M + 1) := ris.2
  have ml := fun {j k : Nat} => mem_live (m := M) (owner := ow) W.sz (j := j) (k := k)
  have len : (liveOf M ow).length = hs.size := by
    obtain ⟨ps, p1, p2⟩ := W.ps
    have a := nat_nodup_len ((liveOf M ow).map (·.1)) ps (List.Pairwise.imp (fun {a b} (h : a < b) => Nat.ne_of_lt h) (show List.Pairwise (fun a b : Nat => a < b) ((liveOf M ow).map (·.1)) from r1)) fun x hx => by
      obtain ⟨⟨y, k⟩, hq, rfl⟩ := List.mem_map.mp hx
      obtain ⟨b1, b2⟩ := ml.1 hq
      exact p2 y b1 (by rw [b2]; exact Option.some_ne_none _)
    have b := nat_nodup_len (List.range hs.size) ((liveOf M ow).map (·.2)) List.nodup_range fun k hk => by
      obtain ⟨j, b1, b2⟩ := W.all k (by rw [Array.length_toList]; exact List.mem_range.mp hk)
      exact List.mem_map.mpr ⟨(j, k), ml.2 ⟨b1, b2⟩, rfl⟩
    rw [List.length_map, p1] at a
    have hz : hs.toList.length = hs.size := Array.length_toList
    rw [List.length_map, List.length_range] at b
    omega
  refine ⟨tabOf t M ow, ((liveOf M ow).map (·.2)).toArray, by rw [relaid_eq, hw, e]; rfl, ?_, ⟨r1, rfl, ?_, hM, fun x hx => ?_, fun i h j h1 h2 => ?_⟩, rfl, rfl, rfl⟩
  · refine perm_range hs.size _ (by show ((liveOf M ow).map (·.2)).length = _; rw [List.length_map]; exact len) fun k hk => ?_
    obtain ⟨j, b1, b2⟩ := W.all k (by rw [Array.length_toList]; exact hk)
    exact List.mem_map.mpr ⟨(j, k), ml.2 ⟨b1, b2⟩, rfl⟩
  · show ((liveOf M ow).map (·.1)).toArray.size = _
    simp
  · exact Nat.le_of_lt_succ (List.mem_range.mp (r2 x hx))
  · have h1 : (((liveOf M ow).map (·.2)).map fun i => hs.getD i 0)[i]? = some h := h1
    have h2 : ((liveOf M ow).map (·.1))[i]? = some j := h2
    rw [List.getElem?_map, List.getElem?_map] at h1
    rw [List.getElem?_map] at h2
    cases hq : (liveOf M ow)[i]? with
    | none => rw [hq] at h2; cases h2
    | some q =>
      obtain ⟨y, k⟩ := q
      rw [hq] at h1 h2
      obtain rfl : y = j := Option.some.inj h2
      have eh : hs.getD k 0 = h := Option.some.inj h1
      obtain ⟨b1, b2⟩ := ml.1 (List.mem_of_getElem? hq)
      obtain ⟨h0, c, a1, a2, a3⟩ := W.at_ y k b1 b2
      have e0 : hs.getD k 0 = h0 := by
        rw [Array.getElem?_toList] at a1
        simp [Array.getD_eq_getD_getElem?, a1]
      obtain rfl : h0 = h := e0.symm.trans eh
      refine ⟨c, a2, fun b hb => ?_⟩
      show L2.way M h0 b ∈ (liveOf M ow).map (·.1)
      cases z : oAt ow (L2.way M h0 b) with
      | none => exact absurd z (a3 b hb)
      | some k2 => exact List.mem_map.mpr ⟨(_, k2), ml.2 ⟨way_bd h0 b, z⟩, rfl⟩
theorem above_go (n : Nat) : ∀ (f a : Nat), n < 2 ^ (a + f) → ∃ b, SetTable.sizeAbove.go n f (2 ^ a) = 2 ^ b ∧ a ≤ b ∧ n < 2 ^ b ∧ (b = a ∨ 2 ^ b ≤ 2 * n)
  | 0, a, h => ⟨a, rfl, Nat.le_refl _, by simpa using h, .inl rfl⟩
  | f + 1, a, h => by
    unfold SetTable.sizeAbove.go
    by_cases c : 2 ^ a ≤ n
    · rw [if_pos c]
      obtain ⟨b, e, h1, h2, h3⟩ := above_go n f (a + 1) (by rw [show a + 1 + f = a + (f + 1) by omega]; exact h)
      rw [Nat.pow_succ] at e
      refine ⟨b, e, by omega, h2, .inr ?_⟩
      rcases h3 with h3 | h3
      · rw [h3, Nat.pow_succ]; omega
      · exact h3
    · rw [if_neg c]
      exact ⟨a, rfl, Nat.le_refl _, by omega, .inl rfl⟩
theorem above (n : Nat) (h : n < 2 ^ 40) : ∃ b, SetTable.sizeAbove n = 2 ^ (b + 3) ∧ n < 2 ^ (b + 3) ∧ (2 ^ (b + 3) = 8 ∨ 2 ^ (b + 3) ≤ 2 * n) := by
  obtain ⟨b, e, h1, h2, h3⟩ := above_go n 64 3 (Nat.lt_of_lt_of_le h (by decide))
  obtain ⟨c, rfl⟩ : ∃ c, b = c + 3 := ⟨b - 3, by omega⟩
  refine ⟨c, e, h2, ?_⟩
  rcases h3 with h3 | h3
  · exact .inl (by rw [h3])
  · exact .inr h3
end Sx

set_option Elab.async false
set_option linter.all false
set_option maxRecDepth 100000
set_option maxHeartbeats 4000000
/-! Sx2: sets whose members are nested tuples: looked up, put in. -/
namespace Sx
open PySem PySem.Spec PyProof.Rows L2
mutual
def byV : NestedKey → Bool
  | .none => true
  | .num _ => true
  | .text _ => false
  | .tup ks => byVs ks
def byVs : List NestedKey → Bool
  | [] => true
  | k :: ks => byV k && byVs ks
end
section
variable {P : Program} {w : World} {A : Around} {E : Value → Shared → Prop} {s : Shared}
/-! ### how a step goes on -/
section
variable {α β : Type} {Q : β → Shared → Prop}
theorem on {v : α} {f : α → Sem β} (h : wpAny (model P w) A (f v) Q E s) : wpAny (model P w) A (pure v >>= f) Q E s := wpAny_bind (wpAny_pure h)
theorem els {c : Prop} [Decidable c] {x y : Sem β} (n : ¬ c) (h : wpAny (model P w) A y Q E s) : wpAny (model P w) A (if c then x else y) Q E s := (if_neg n).symm ▸ h
theorem thn' {c : Prop} [Decidable c] {x y : Sem β} (p : c) (h : wpAny (model P w) A x Q E s) : wpAny (model P w) A (if c then x else y) Q E s := (if_pos p).symm ▸ h
theorem taken {b : Addr} {o : Obj} {vs : Array Value} {m : Nat} {g : Option (Array Value) → Sem β} (ho : s.heap.get? b = some o) (hd : o.data = .seq vs m) (h : wpAny (model P w) A (g (some vs)) Q E s) : wpAny (model P w) A (seqItems? (.ref b) >>= g) Q E s := wpAny_bind (wpAny_seqItems ho hd h)
theorem over {γ : Type} {l : List Value} {r0 : γ} {f : Value → γ → Sem (ForInStep γ)} {g : γ → Sem β} (T : List Value → Prop) (ok : γ → Prop) (t0 : T l) (k0 : ok r0)
    (turn : ∀ x rest r, T (x :: rest) → ok r → wpAny (model P w) A (f x r) (fun q s' => match q with
      | .yield r' => s' = s ∧ T rest ∧ ok r'
      | .done r' => wpAny (model P w) A (g r') Q E s') E s)
    (fin : ∀ r, T [] → ok r → wpAny (model P w) A (g r) Q E s) : wpAny (model P w) A (forIn l r0 f >>= g) Q E s := by
  refine wpAny_bind (wpAny_forIn_list f (fun rest r s' => s' = s ∧ T rest ∧ ok r) _ (fun x rest r s' ⟨e, h1, h2⟩ => ?_) (fun r s' ⟨e, h1, h2⟩ => ?_) l r0 ⟨rfl, t0, k0⟩)
  · subst e; exact turn x rest r h1 h2
  · subst e; exact fin r h1 h2
theorem overA {γ : Type} {vs : Array Value} {r0 : γ} {f : Value → γ → Sem (ForInStep γ)} {g : γ → Sem β} (T : List Value → Prop) (ok : γ → Prop) (t0 : T vs.toList) (k0 : ok r0)
    (turn : ∀ x rest r, T (x :: rest) → ok r → wpAny (model P w) A (f x r) (fun q s' => match q with
      | .yield r' => s' = s ∧ T rest ∧ ok r'
      | .done r' => wpAny (model P w) A (g r') Q E s') E s)
    (fin : ∀ r, T [] → ok r → wpAny (model P w) A (g r) Q E s) : wpAny (model P w) A (forIn vs r0 f >>= g) Q E s := by
  rw [← Array.forIn_toList]
  exact over T ok t0 k0 turn fin
end
/-! ### small questions -/
def HashAt (P : Program) (w : World) (n : Nat) (s : Shared) (v : Value) (b : Bool) : Prop := ∀ (A : Around) (E : Value → Shared → Prop) (Q : Bool → Shared → Prop), Q b s → wpAny (model P w) A (hashByValue n v) Q E s
def OfcAt (P : Program) (w : World) (n : Nat) (s : Shared) (v : Value) : Prop := ∀ (A : Around) (E : Value → Shared → Prop) (Q : Bool → Shared → Prop), Q false s → wpAny (model P w) A (ofAClassStatement n v) Q E s
inductive HashAll (P : Program) (w : World) (n : Nat) (s : Shared) : List Value → Bool → Prop
  | nil : HashAll P w n s [] true
  | cons {v vs b c} : HashAt P w n s v b → HashAll P w n s vs c → HashAll P w n s (v :: vs) (b && c)
theorem HashAt.tup {n m : Nat} {b : Addr} {o : Obj} {vs : Array Value} {r : Bool} (ho : s.heap.get? b = some o) (hc : o.cls = .type "tuple") (hd : o.data = .seq vs m) (ha : HashAll P w n s vs.toList r) : HashAt P w (n + 1) s (.ref b) r := fun A E Q h => by
  unfold hashByValue
  refine wpAny_bind (wpAny_specialOf (show s.TypeIs (.ref b) "tuple" from ⟨o, ho, hc⟩) F.slot_tuple_hash.lookup (taken ho hd ?_))
  refine overA (fun rest => HashAll P w n s rest r) (fun q => q.1 = none) ha rfl (fun v rest q hall _ => ?_) fun q hr hq => ?_
  · cases hall with
    | @cons _ _ b1 c1 hv hr =>
      refine wpAny_bind (hv _ _ _ ?_)
      cases b1
      · exact thn' (by simp) (wpAny_pure (wpAny_pure h))
      · exact els (by simp) (wpAny_pure ⟨rfl, hr, rfl⟩)
  · obtain ⟨q1, q2⟩ := q
    cases hq
    cases hr
    exact wpAny_pure h
mutual
theorem hash_key : ∀ (k : NestedKey) (v : Value) (n : Nat) (s : Shared), NestedIs s.heap k v → k.depth ≤ n → HashAt P w n s v (byV k)
  | .none, _, n, s, x, _ => by cases x; intro A E Q h; cases n <;> exact wpAny_pure h
  | .num i, _, n, s, x, _ => by cases x <;> (intro A E Q h; cases n <;> exact wpAny_pure h)
  | .text y, _, n, s, x, _ => by cases x; intro A E Q h; cases n <;> exact wpAny_pure h
  | .tup _, _, 0, _, .tup .., le => absurd le (by simp [NestedKey.depth])
  | .tup ks, _, n + 1, s, .tup hg hc hd hk, le => .tup hg hc hd (hash_keys ks _ n s hk (Nat.le_of_succ_le_succ (by simpa [NestedKey.depth] using le)))
theorem hash_keys : ∀ (ks : List NestedKey) (vs : List Value) (n : Nat) (s : Shared), NestedAll s.heap ks vs → NestedKey.depthAll ks ≤ n → HashAll P w n s vs (byVs ks)
  | [], _, n, s, x, _ => by cases x; exact .nil
  | k :: ks, _, n, s, .cons x1 x2, le =>
    have le2 := Nat.max_le.mp (show max k.depth (NestedKey.depthAll ks) ≤ n from le)
    .cons (hash_key k _ n s x1 le2.1) (hash_keys ks _ n s x2 le2.2)
end
theorem OfcAt.tup {n m : Nat} {b : Addr} {o : Obj} {vs : Array Value} (ho : s.heap.get? b = some o) (hc : o.cls = .type "tuple") (hd : o.data = .seq vs m) (ha : ∀ v ∈ vs.toList, OfcAt P w n s v) : OfcAt P w (n + 1) s (.ref b) := fun A E Q h => by
  unfold ofAClassStatement
  refine wpAny_bind (wpAny_typeOf (show s.TypeIs (.ref b) "tuple" from ⟨o, ho, hc⟩) ?_)
  simp only [show (("tuple" : String) == "tuple") = true from rfl, Bool.not_true, if_true, if_false, Bool.false_eq_true]
  try refine on ?_
  refine taken ho hd ?_
  refine overA (fun rest => ∀ v ∈ rest, OfcAt P w n s v) (fun q => q.1 = none) ha rfl (fun v rest q hall _ => ?_) fun q _ hq => ?_
  · exact wpAny_bind ((List.forall_mem_cons.mp hall).1 _ _ _ (els (by simp) (wpAny_pure ⟨rfl, (List.forall_mem_cons.mp hall).2, rfl⟩)))
  · obtain ⟨q1, q2⟩ := q
    cases hq
    exact wpAny_pure h
mutual
theorem ofc_key : ∀ (k : NestedKey) (v : Value) (n : Nat) (s : Shared), NestedIs s.heap k v → k.depth ≤ n → OfcAt P w n s v
  | .none, _, n, s, x, _ => by cases x; intro A E Q h; cases n <;> exact wpAny_pure h
  | .num i, _, n, s, x, _ => by cases x <;> (intro A E Q h; cases n <;> exact wpAny_pure h)
  | .text y, _, n, s, x, _ => by cases x; intro A E Q h; cases n <;> exact wpAny_pure h
  | .tup _, _, 0, _, .tup .., le => absurd le (by simp [NestedKey.depth])
  | .tup ks, _, n + 1, s, .tup hg hc hd hk, le => .tup hg hc hd (ofc_keys ks _ n s hk (Nat.le_of_succ_le_succ (by simpa [NestedKey.depth] using le)))
theorem ofc_keys : ∀ (ks : List NestedKey) (vs : List Value) (n : Nat) (s : Shared), NestedAll s.heap ks vs → NestedKey.depthAll ks ≤ n → ∀ v ∈ vs, OfcAt P w n s v
  | [], _, _, _, .nil, _ => List.forall_mem_nil _
  | k :: ks, _, n, s, .cons x1 x2, le =>
    have le2 := Nat.max_le.mp (show max k.depth (NestedKey.depthAll ks) ≤ n from le)
    List.forall_mem_cons.mpr ⟨ofc_key k _ n s x1 le2.1, ofc_keys ks _ n s x2 le2.2⟩
end
abbrev IsN (P : Program) (w : World) (h : Heap) (k : NestedKey) (b : Addr) : Prop := (nestedKind P w).is h k b
theorem not_seen {k : NestedKey} {b : Addr} {Q : Bool → Shared → Prop} (hk : IsN P w s.heap k b) {ys : List Value} (hy : ∀ y ∈ ys, ∃ k' c, y = Value.ref c ∧ IsN P w s.heap k' c) (h : Q false s) :
    wpAny (model P w) A (searchCouldBeSeen (.ref b) ys) Q E s := by
  unfold searchCouldBeSeen
  refine over (fun rest => ∀ y ∈ rest, ∃ k' c, y = Value.ref c ∧ IsN P w s.heap k' c) (fun q => q.1 = none) hy rfl (fun v rest q hall _ => ?_) fun q _ hq => ?_
  · obtain ⟨⟨k', c, rfl, hc⟩, tl⟩ := List.forall_mem_cons.mp hall
    dsimp only
    split
    · exact wpAny_pure ⟨rfl, tl, rfl⟩
    · refine wpAny_bind ((nestedKind P w).quiet hk (els (by simp) ?_))
      refine wpAny_bind ((nestedKind P w).quiet hc (els (by simp) ?_))
      refine wpAny_bind (ofc_key _ _ 8 _ hk.1 hk.2 _ _ _ (els (by simp) ?_))
      exact wpAny_bind (ofc_key _ _ 8 _ hc.1 hc.2 _ _ _ (els (by simp) (wpAny_pure ⟨rfl, tl, rfl⟩)))
  · obtain ⟨q1, q2⟩ := q
    cases hq
    exact wpAny_pure h
/-! ### the set -/
abbrev Mem := List (Addr × NestedKey)
def ents (w : World) (L : Mem) : List (Int × Value) := L.map fun p => (p.2.hash w, Value.ref p.1)
structure SetN (P : Program) (w : World) (h : Heap) (a : Addr) (L : Mem) (es : Array (Int × Value)) (ep : Nat) (t : SetTable) : Prop where
  at_ : ∃ o, h.get? a = some o ∧ o.ExactSet ∧ o.data = .set es ep t
  ens : es.toList = ents w L
  tab : Tb t (L.map fun p => p.2.hash w)
  nd : (L.map (·.2)).Nodup
  key : ∀ p ∈ L, IsN P w h p.2 p.1
  pl : (∀ p ∈ L, byV p.2 = true) → t.plain = true
  (led : w.params.followText "set-order" = true ∨ t.led = true) (room : L.length * 5 < t.mask * 3)
  few : t.mask ≤ 8191
variable {a : Addr} {L : Mem} {es : Array (Int × Value)} {ep : Nat} {t : SetTable}
theorem ens_size {es : Array (Int × Value)} {L : Mem} (h : es.toList = ents w L) : es.size = L.length := by
  rw [← Array.length_toList, h, ents, List.length_map]
theorem fits_by (e : t.place.size = es.size) (d : t.dummies = #[]) (l : es.size ≤ t.mask) : t.fits es.size = true := by
  have f : t.fill = es.size := by unfold SetTable.fill; rw [d, e]; rfl
  unfold SetTable.fits
  rw [f]
  simp [e, l]
theorem SetN.fits (R : SetN P w s.heap a L es ep t) : t.fits es.size = true := by
  have e : t.place.size = es.size := R.tab.num.trans ((List.length_map ..).trans (ens_size R.ens).symm)
  exact fits_by e R.tab.nod (by rw [ens_size R.ens]; have := R.room; omega)
theorem SetN.got {β : Type} {f : Array (Int × Value) × Nat × SetTable → Sem β} {Q : β → Shared → Prop} (R : SetN P w s.heap a L es ep t) (h : wpAny (model P w) A (f (es, ep, t)) Q E s) : wpAny (model P w) A (setState a >>= f) Q E s :=
  let ⟨_, ho, _, hd⟩ := R.at_
  wpAny_bind (wpAny_setState_of ho hd R.fits h)
theorem no_scan {x : Addr} : ¬ byScan (.ref x) es = true := fun z => by cases z
theorem SetN.ent (R : SetN P w s.heap a L es ep t) {i : Nat} {p : Addr × NestedKey} (h : L[i]? = some p) : es[i]? = some (p.2.hash w, Value.ref p.1) := by
  rw [← Array.getElem?_toList, R.ens, ents, List.getElem?_map, h]; rfl
theorem no_dummy (m : Nat) (n : Nat) : ∀ (p : SetTable.Probe), p.dummy = none → (nth m p n).dummy = none := by
  induction n with
  | zero => exact fun p h => h
  | succ n ih => exact fun p h => ih (adv m p) (by unfold adv; split <;> exact h)
theorem seek (ad : Bool) (R : SetN P w s.heap a L es ep t) {x : Addr} {k : NestedKey} (hx : IsN P w s.heap k x) (hu : (nestedKind P w).room A) {K : Nat} (hKf : K < 10 * SetTable.turns t.mask) {h : Int} (eh : h = k.hash w) {p0 : SetTable.Probe} (ep0 : p0 = runAt t.mask (SetTable.bits h % (t.mask + 1)) (SetTable.bits h))
    (hK : L2.way t.mask h K ∉ t.place.toList) (hKb : ∀ c, c < K → L2.way t.mask h c ∈ t.place.toList) {Q : SetFound → Shared → Prop}
    (hin : k ∈ L.map (·.2) → ∀ i, (ad = true → i = none) → (ad = false → i.isSome = true) → Q (.there i) s) (hout : k ∉ L.map (·.2) → Q (.free (L2.way t.mask h K) false) s) :
    ∀ (f c : Nat) (st : Option SetTable.Probe), st.getD (t.probeStart h) = nth t.mask p0 c → c ≤ K → K - c < f →
      (∀ (i : Nat) p, L[i]? = some p → p.2 = k → ∃ c', c ≤ c' ∧ c' < K ∧ t.place.toList[i]? = some (L2.way t.mask h c')) →
      wpAny (model P w) A (setSearchFrom a (.ref x) h ad f st) Q E s
  | 0, c, st, _, _, hf, _ => absurd hf (Nat.not_lt_zero _)
  | f + 1, c, st, hst, hc, hf, hre => by
    rw [setSearchFrom_succ]
    refine R.got (els (show ¬ t.gaveWay = true by unfold SetTable.gaveWay; rw [R.tab.msk.odd]; decide) ?_)
    try refine on ?_
    have sh : ∀ q, nth t.mask (nth t.mask p0 c) q = nth t.mask p0 (c + q) := fun q => (nth_add t.mask c p0 q).symm
    have wj : ∀ q, (nth t.mask p0 q).j = L2.way t.mask h q := fun q => by rw [ep0]
    have spec := go_spec t R.tab.up R.tab.nod (fun i => (es[i]?.map (·.1)).getD 0) h (10 * SetTable.turns t.mask) (K - c) (nth t.mask p0 c) (no_dummy _ _ _ (by rw [ep0]; rfl)) (by omega)
      (fun q hq => by rw [sh, wj]; exact hKb (c + q) (by omega)) (by rw [sh, wj, show c + (K - c) = K by omega]; exact hK)
    have hat : ∀ (i : Nat) p, L[i]? = some p → (es[i]?.map (·.1)).getD 0 = p.2.hash w := fun i p hp => by rw [R.ent hp]; rfl
    obtain ⟨q, i, hq, hi, hh, hno, hpr⟩ | ⟨hno, hpr⟩ := spec
    · rw [sh, sh, wj] at hpr
      rw [sh, wj] at hi
      have hp2 : t.probe (fun i => (es[i]?.map (·.1)).getD 0) h (st.getD (t.probeStart h)) = some (.candidate (L2.way t.mask h (c + q)) i (nth t.mask p0 (c + (q + 1)))) := by rw [hst]; exact hpr
      rw [hp2]
      dsimp only
      have hil : i < L.length := by
        have h1 := (List.getElem?_eq_some_iff.mp hi).1
        have h2 := R.tab.num
        rw [List.length_map] at h2
        rw [Array.length_toList] at h1
        omega
      obtain ⟨p, hp⟩ : ∃ p, L[i]? = some p := ⟨_, List.getElem?_eq_getElem hil⟩
      have hmem := List.mem_of_getElem? hp
      have hpk := R.key p hmem
      have hsl : t.slot (L2.way t.mask h (c + q)) = .live i := slot_live R.tab.up hi
      have goal : wpAny (model P w) A (searchRest a (.ref x) h ad f es t (L2.way t.mask h (c + q)) i (nth t.mask p0 (c + (q + 1)))) Q E s := by
        unfold searchRest
        rw [R.ent hp]
        dsimp only
        refine wpAny_bind (wpAny_holding ((nestedKind P w).eqBool hu hpk hx (R.got ?_)))
        dsimp only
        by_cases hkk : p.2 = k
        · have hm : k ∈ L.map (·.2) := List.mem_map.mpr ⟨p, hmem, hkk⟩
          cases ad with
          | true => exact thn' (by simp [hkk]) (wpAny_pure (hin hm none (fun _ => rfl) (fun z => by cases z)))
          | false =>
            refine els (by simp) ?_
            try refine on ?_
            rw [sameMem]
            simp only [hsl, R.ent hp, if_true]
            refine wpAny_bind (wpAny_isSame_ref_self (on ?_))
            refine thn' (by simp [hkk]) ?_
            exact wpAny_pure (hin hm (some i) (fun z => by cases z) fun _ => rfl)
        · refine els (by simp [hkk]) ?_
          try refine on ?_
          rw [sameMem]
          simp only [hsl, R.ent hp, if_true]
          refine wpAny_bind (wpAny_isSame_ref_self (on ?_))
          refine els (by simp [hkk]) ?_
          refine seek ad R hx hu hKf eh ep0 hK hKb hin hout f (c + (q + 1)) _ rfl (by omega) (by omega) fun i0 p1 h0 hk0 => ?_
          obtain ⟨c', a1, a2, a3⟩ := hre i0 p1 h0 hk0
          refine ⟨c', ?_, a2, a3⟩
          rcases Nat.lt_trichotomy c' (c + q) with z | z | z
          · exfalso
            refine hno (c' - c) i0 (by omega) (by rw [sh, wj, show c + (c' - c) = c' by omega]; exact a3) ?_
            rw [eh, ← hk0]
            exact hat i0 p1 h0
          · exfalso
            rw [z] at a3
            have s0 := slot_live R.tab.up a3
            rw [hsl] at s0
            injection s0 with s0
            rw [← s0, hp] at h0
            cases h0
            exact hkk hk0
          · omega
      cases hl : t.led with
      | true =>
        refine els (by simp) ?_
        try refine on ?_
        exact goal
      | false =>
        refine thn' rfl (wpAny_bind (not_seen hx (fun y hy => ?_) (els (by simp) ?_)))
        · have all : ∀ z ∈ es.toList, ∃ k' c, z.2 = Value.ref c ∧ IsN P w s.heap k' c := by
            rw [R.ens]
            exact List.forall_mem_map.mpr fun m hm => ⟨m.2, m.1, rfl, R.key m hm⟩
          obtain ⟨z, hz, rfl⟩ := List.mem_map.mp hy
          exact all z (Array.mem_toList_iff.mpr (Array.mem_filter.mp (Array.mem_toList_iff.mp hz)).1)
        · try refine on ?_
          exact goal
    · rw [sh, wj, show c + (K - c) = K by omega] at hpr
      have hp2 : t.probe (fun i => (es[i]?.map (·.1)).getD 0) h (st.getD (t.probeStart h)) = some (.empty (L2.way t.mask h K) none) := by rw [hst]; exact hpr
      rw [hp2]
      dsimp only
      apply wpAny_pure
      refine hout fun hm => ?_
      obtain ⟨p1, h0, hk0⟩ := List.mem_map.mp hm
      obtain ⟨i0, h00⟩ := List.mem_iff_getElem?.mp h0
      obtain ⟨c', a1, a2, a3⟩ := hre i0 p1 h00 hk0
      refine hno (c' - c) i0 (by omega) (by rw [sh, wj, show c + (c' - c) = c' by omega]; exact a3) ?_
      rw [eh, ← hk0]
      exact hat i0 p1 h00
theorem seek0 (ad : Bool) (R : SetN P w s.heap a L es ep t) {x : Addr} {k : NestedKey} (hx : IsN P w s.heap k x) (hu : (nestedKind P w).room A) {Q : SetFound → Shared → Prop}
    (hin : k ∈ L.map (·.2) → ∀ i, (ad = true → i = none) → (ad = false → i.isSome = true) → Q (.there i) s)
    (hout : ∀ K, k ∉ L.map (·.2) → L2.way t.mask (k.hash w) K ∉ t.place.toList → (∀ c, c < K → L2.way t.mask (k.hash w) c ∈ t.place.toList) → Q (.free (L2.way t.mask (k.hash w) K) false) s) :
    wpAny (model P w) A (setSearch a (.ref x) (k.hash w) ad) Q E s := by
  have hroom := R.room
  have hfew := R.few
  obtain ⟨K, hKf, hK, hKb⟩ := R.tab.gap (by rw [List.length_map]; omega) (k.hash w)
  have hbig : K < 100000 := by unfold SetTable.turns at hKf; omega
  unfold setSearch
  refine seek ad R hx hu hKf rfl rfl hK hKb hin (fun hn => hout K hn hK hKb) 100000 0 none rfl (Nat.zero_le _) (by omega) fun i p hp hk => ?_
  have hi : (L.map fun p => p.2.hash w)[i]? = some (k.hash w) := by rw [List.getElem?_map, hp, ← hk]; rfl
  obtain ⟨j, hj⟩ : ∃ j, t.place.toList[i]? = some j := by
    refine ⟨_, List.getElem?_eq_getElem (i := i) ?_⟩
    rw [Array.length_toList, R.tab.num]
    exact (List.getElem?_eq_some_iff.mp hi).1
  obtain ⟨c, hc, rfl⟩ := R.tab.early hK hi hj
  exact ⟨c, by omega, hc, hj⟩
theorem IsN.keep {h h' : Heap} {k : NestedKey} {b : Addr} (x : IsN P w h k b) (e : ∀ a o vs n, h.get? a = some o → o.data = .seq vs n → h'.get? a = some o) : IsN P w h' k b := ⟨NestedIs.at e _ _ x.1, x.2⟩
theorem IsN.but {h h' : Heap} {k : NestedKey} {b a : Addr} {o : Obj} {es : Array (Int × Value)} {ep : Nat} {t : SetTable} (x : IsN P w h k b) (ho : h.get? a = some o) (hd : o.data = .set es ep t) (hs : Heap.SameBut a h h') : IsN P w h' k b := x.keep fun c oc vs n hc hq => by
  refine (hs.2 c fun e => ?_).trans hc
  subst e
  rw [ho] at hc
  cases hc
  rw [hd] at hq
  cases hq
/-! ### laid anew -/
theorem ents_order (L : Mem) (es : Array (Int × Value)) (order : Array Nat) (hr : es.toList = ents w L) (hp : order.toList.Perm (List.range L.length)) :
    ∃ L2 : Mem, (order.filterMap (es[·]?)).toList = ents w L2 ∧ L2.Perm L ∧ (L2.map fun p => p.2.hash w) = order.toList.map fun i => (es.map (·.1)).getD i 0 := by
  have ent : ∀ i : Nat, es[i]? = (L[i]?).map fun p : Addr × NestedKey => (p.2.hash w, Value.ref p.1) := fun i => by
    rw [← Array.getElem?_toList, hr, ents, List.getElem?_map]
  refine ⟨order.toList.filterMap fun i => L[i]?, ?_, ?_, ?_⟩
  · rw [Array.toList_filterMap, ents, List.map_filterMap]
    exact congrArg (fun f => List.filterMap f order.toList) (funext ent)
  · have h1 := hp.filterMap fun i => L[i]?
    refine h1.trans ?_
    have whole : List.filterMap (fun i => L[i]?) (List.range L.length) = L := by
      have : ∀ n, n ≤ L.length → (List.range n).filterMap (fun i => L[i]?) = L.take n := by
        intro n
        induction n with
        | zero => intro _; simp
        | succ n ih =>
          intro hn
          rw [List.range_succ, List.filterMap_append, ih (by omega), List.take_succ]
          simp [List.getElem?_eq_getElem (show n < L.length from hn)]
      rw [this _ (Nat.le_refl _), List.take_length]
    rw [whole]
  · have key : ∀ l : List Nat, (∀ i ∈ l, i < L.length) → (l.filterMap fun i => L[i]?).map (fun p => p.2.hash w) = l.map fun i => (es.map (·.1)).getD i 0 := by
      intro l
      induction l with
      | nil => intro _; rfl
      | cons i l ih =>
        intro h
        have hi := h i List.mem_cons_self
        rw [List.filterMap_cons_some (List.getElem?_eq_getElem hi), List.map_cons, List.map_cons, ih fun j hj => h j (List.mem_cons_of_mem _ hj)]
        have e1 : (es.map (·.1)).getD i 0 = (L[i]).2.hash w := by
          have := ent i
          rw [List.getElem?_eq_getElem hi] at this
          simp [Array.getD_eq_getD_getElem?, this]
        rw [e1]
    exact key _ fun i hi => List.mem_range.mp (hp.mem_iff.mp hi)
theorem relay {o : Obj} (ho : s.heap.get? a = some o) (hex : o.ExactSet) (hd : o.data = .set es ep t) (hr : es.toList = ents w L) (hsz : t.place.size = es.size) (hdm : t.dummies = #[]) (hfl : es.size ≤ t.mask)
    (nd : (L.map (·.2)).Nodup) (key : ∀ p ∈ L, IsN P w s.heap p.2 p.1) (pl : (∀ p ∈ L, byV p.2 = true) → t.plain = true) (ld : w.params.followText "set-order" = true ∨ t.led = true) {n M : Nat}
    (hw : SetTable.sizeAbove n - 1 = M) (hM : MkOk M) (hM2 : M ≤ 8191) (hw2 : SetTable.sizeAbove n ≤ 8192) (hn : L.length * 5 < M * 3) {Q : Unit → Shared → Prop}
    (hQ : ∀ h' L' es' ep' t', Heap.SameBut a s.heap h' → SetN P w h' a L' es' ep' t' → L'.Perm L → Q () { s with heap := h' }) : wpAny (model P w) A (setRelay a n) Q E s := by
  have hsl := ens_size hr
  obtain ⟨t', order, e, hp, T, em, el, ep'⟩ := again (t := t) (hs := es.map (·.1)) (n := n) hw hM (by rw [Array.size_map, hsl]; omega)
  obtain ⟨L2, r1, r2, r3⟩ := ents_order L es order hr (by rw [← hsl]; simpa using hp)
  rw [← r3] at T
  have hs2 : (order.filterMap (es[·]?)).size = es.size := by rw [ens_size r1, r2.length_eq, hsl]
  rw [setRelay_eq]
  refine wpAny_bind (wpAny_setState_of ho hd (fits_by hsz hdm hfl) (els (fun z => by rw [sizeLine_eq] at z; omega) ?_))
  try refine on ?_
  rw [e]
  refine wpAny_bind (els (show ¬ _ by simp only [hs2, bne_self_eq_false, Bool.false_eq_true, not_false_eq_true]) ?_)
  try refine on ?_
  refine wpAny_pure ?_
  dsimp only
  refine wpAny_storeSet_of ho hd ?_ (by rw [hs2, sizeLine_eq]; omega)
  have sb := Heap.SameBut.update (a := a) (h := s.heap) (f := Obj.putSet (order.filterMap (es[·]?)) t')
  refine hQ _ L2 (order.filterMap (es[·]?)) (ep + 1) t' sb ⟨⟨_, store_at ho hd, ⟨hex.1, hex.2.1, hex.2.2⟩, rfl⟩, r1, T, (r2.map (·.2)).nodup_iff.mpr nd, fun p hpm => (key p (r2.mem_iff.mp hpm)).but ho hd sb, ?_, by rw [el]; exact ld, by rw [r2.length_eq, em]; exact hn, by rw [em]; exact hM2⟩ r2
  intro hb
  rw [ep']
  exact pl fun p hp => hb p (r2.mem_iff.mpr hp)
/-! ### put in -/
theorem put_in (R : SetN P w s.heap a L es ep t) {x : Addr} {k : NestedKey} (hx : IsN P w s.heap k x) (hu : (nestedKind P w).room A) (hfew : L.length + 1 ≤ 1000) {Q : Bool → Shared → Prop}
    (hQ : ∀ b h' L' es' ep' t', Heap.SameBut a s.heap h' → SetN P w h' a L' es' ep' t' → (k ∈ L.map (·.2) → L' = L) → (k ∉ L.map (·.2) → L'.Perm ((x, k) :: L)) → Q b { s with heap := h' }) :
    wpAny (model P w) A (setAddHashed a (.ref x) (k.hash w)) Q E s := by
  obtain ⟨o, ho, hex, hd⟩ := R.at_
  have hsl := ens_size R.ens
  have hroom := R.room
  unfold setAddHashed
  refine wpAny_holding ?_
  rw [setAddHashedIn_succ a (.ref x) (k.hash w) 99999]
  refine R.got (els no_scan ?_)
  try refine on ?_
  refine wpAny_bind (seek0 true R hx hu (fun hm i hi _ => ?_) fun K hm hK hb => ?_)
  · obtain rfl := hi rfl
    have stays := hQ false s.heap L es ep t (.refl a s.heap) R (fun _ => rfl)
    exact wpAny_pure (stays fun z => (z hm).elim)
  · refine R.got ?_
    dsimp only
    generalize ej : L2.way t.mask (k.hash w) K = j at hK ⊢
    obtain ⟨q1, q2, q3, q4, q5, q6, q7⟩ := R.tab.put (h := k.hash w) (c := K) (by rw [ej]; exact hK) hb ej.symm rfl
    generalize hpt : t.put j = pt at q1 q3 q4 q5 q6 q7 ⊢
    obtain ⟨t1, p⟩ := pt
    dsimp only at q1 q3 q4 q5 q6 q7 ⊢
    have hin : (SetTable.insertAt es p (k.hash w, Value.ref x)).toList = ents w (L.take p ++ (x, k) :: L.drop p) := by
      simp only [SetTable.toList_insertAt, R.ens, ents, List.map_append, List.map_cons, List.map_take, List.map_drop]
    rw [← q1] at q2 q3
    have pm : (L.take p ++ (x, k) :: L.drop p).Perm ((x, k) :: L) := List.perm_middle.trans (by rw [List.take_append_drop])
    have hhs : (L.take p ++ (x, k) :: L.drop p).map (fun p => p.2.hash w) = (L.map fun p => p.2.hash w).take p ++ k.hash w :: (L.map fun p => p.2.hash w).drop p := by
      simp only [List.map_append, List.map_cons, List.map_take, List.map_drop]
    rw [← hhs] at q3
    rw [List.length_map] at q7
    have nd1 := (pm.map (·.2)).nodup_iff.mpr (List.nodup_cons.mpr ⟨hm, R.nd⟩)
    have hes := ens_size hin
    have hlen := pm.length_eq
    rw [List.length_cons] at hlen
    rw [hlen] at hes
    generalize SetTable.insertAt es p (k.hash w, Value.ref x) = es1 at hin hes ⊢
    generalize eL : L.take p ++ (x, k) :: L.drop p = L1 at hin nd1 q3 hlen pm
    -- the flag
    have rest : ∀ t2 : SetTable, t2.mask = t1.mask → t2.place = t1.place → t2.dummies = t1.dummies → t2.led = t1.led → ((∀ p ∈ L1, byV p.2 = true) → t2.plain = true) →
        wpAny (model P w) A (do
          storeSet a es1 t2
          if !false && t2.tooFull then setRelay a (SetTable.grown (es.size + 1))
          return true) Q E s := by
      intro t2 m1 m2 m3 m4 m5
      have T2 : Tb t2 (L1.map fun p => p.2.hash w) := ⟨by rw [m2]; exact q3.up, by rw [m3]; exact q3.nod, by rw [m2]; exact q3.num, by rw [m1]; exact q3.msk, by rw [m1, m2]; exact q3.low, by rw [m1, m2]; exact q3.got⟩
      have fl : t2.fill = L.length + 1 := by
        rw [← q7]
        unfold SetTable.fill
        rw [m2, m3]
      refine wpAny_bind (wpAny_storeSet_of ho hd ?_ (by rw [sizeLine_eq, hes]; omega))
      have sb := Heap.SameBut.update (a := a) (h := s.heap) (f := Obj.putSet es1 t2)
      have ho1 := store_at (t' := t2) (es' := es1) ho hd
      generalize s.heap.update a (Obj.putSet es1 t2) = h1 at sb ho1 ⊢
      have key1 : ∀ p ∈ L1, IsN P w h1 p.2 p.1 := fun p hp => (List.forall_mem_cons (p := fun p => IsN P w h1 p.2 p.1)).mpr ⟨hx.but ho hd sb, fun p hp => (R.key p hp).but ho hd sb⟩ p (pm.mem_iff.mp hp)
      have ld1 : w.params.followText "set-order" = true ∨ t2.led = true := by rw [m4, q5]; exact R.led
      by_cases hf : t2.tooFull = true
      · refine thn' (by rw [hf]; rfl) ?_
        have hfull : (L.length + 1) * 5 ≥ t2.mask * 3 := by
          have h := hf
          unfold SetTable.tooFull at h
          rw [decide_eq_true_eq, fl] at h
          exact h
        have hg : SetTable.grown (es.size + 1) = 4 * (L.length + 1) := by
          unfold SetTable.grown
          rw [hsl, if_neg (by omega)]
          omega
        rw [hg]
        obtain ⟨b, e1, e2, e3⟩ := above (4 * (L.length + 1)) (Nat.lt_of_le_of_lt (show 4 * (L.length + 1) ≤ 4000 by omega) (by decide))
        have e4 : 2 ^ (b + 3) ≤ 8192 := by rcases e3 with e3 | e3 <;> omega
        refine wpAny_bind (relay (s := { s with heap := h1 }) ho1 ⟨hex.1, hex.2.1, hex.2.2⟩ rfl hin (by rw [T2.num, List.length_map, hlen, hes]) T2.nod (by rw [hes, m1, q4]; omega) nd1 key1 m5 ld1 (n := 4 * (L.length + 1)) (M := 2 ^ (b + 3) - 1) (by rw [e1]) ⟨b, rfl⟩ (by omega) (by rw [e1]; exact e4) (by rw [hlen]; omega) ?_)
        exact fun h9 L9 es9 ep9 t9 sb9 R9 pm9 => wpAny_pure (hQ true h9 L9 es9 ep9 t9 (sb.trans sb9) R9 (fun z => absurd z hm) fun _ => pm9.trans pm)
      · refine els (by simp [hf]) ?_
        try refine on ?_
        refine wpAny_pure (hQ true h1 L1 es1 (ep + 1) t2 sb ⟨⟨_, ho1, ⟨hex.1, hex.2.1, hex.2.2⟩, rfl⟩, hin, T2, nd1, key1, m5, ld1, ?_, by rw [m1, q4]; exact R.few⟩ (fun z => absurd z hm) fun _ => pm)
        have h := hf
        unfold SetTable.tooFull at h
        rw [decide_eq_true_eq, fl] at h
        rw [hlen]
        omega
    by_cases hp1 : t1.plain = true
    · refine thn' hp1 (wpAny_bind (hash_key k _ 8 _ hx.1 hx.2 _ _ _ ?_))
      cases hb2 : byV k with
      | true =>
        simp only [if_true]
        exact rest t1 rfl rfl rfl rfl fun _ => hp1
      | false =>
        simp only [Bool.false_eq_true, if_false]
        refine rest { t1 with plain := false } rfl rfl rfl rfl fun z => ?_
        have := z (x, k) (pm.mem_iff.mpr List.mem_cons_self)
        rw [hb2] at this
        cases this
    · refine els hp1 ?_
      try refine on ?_
      try simp only [if_true]
      refine rest t1 rfl rfl rfl rfl fun z => ?_
      exfalso
      apply hp1
      rw [q6]
      exact R.pl fun p hp => z p (pm.mem_iff.mpr (List.mem_cons_of_mem _ hp))
/-! ### looked up -/
theorem look_up (R : SetN P w s.heap a L es ep t) {x : Addr} {k : NestedKey} (hx : IsN P w s.heap k x) (hu : (nestedKind P w).room A) {Q : Bool → Shared → Prop} (h : ∀ tk, Q (decide (k ∈ L.map (·.2))) { s with toks := tk }) :
    wpAny (model P w) A (setContains a (.ref x)) Q E s := by
  unfold setContains
  refine wpAny_holding ?_
  refine wpAny_bind ((nestedKind P w).pyHash hu hx ?_)
  refine wpAny_bind ?_
  show wpAny _ _ (setFind a (.ref x) (k.hash w)) _ _ _
  unfold setFind
  show wpAny _ _ (setFindIn a (.ref x) (k.hash w) (99999 + 1)) _ _ _
  unfold setFindIn
  refine SetN.got (s := { s with toks := s.toks + k.draws }) R (els no_scan ?_)
  try refine on ?_
  have R2 : SetN P w ({ s with toks := s.toks + k.draws } : Shared).heap a L es ep t := R
  refine wpAny_bind (seek0 (s := { s with toks := s.toks + k.draws }) false R2 hx hu (fun hm i _ hi => ?_) fun K hm _ _ => ?_)
  · dsimp only
    refine wpAny_pure (wpAny_pure ?_)
    rw [hi rfl, ← decide_eq_true hm]
    exact h _
  · dsimp only
    refine wpAny_pure (wpAny_pure ?_)
    show Q (Option.isSome none) _
    rw [show (Option.isSome (none : Option Nat)) = decide (k ∈ L.map (·.2)) from (decide_eq_false hm).symm]
    exact h _
end
end Sx

set_option Elab.async false
set_option linter.all false
set_option maxRecDepth 100000
set_option maxHeartbeats 4000000
/-! Sx3: sets of nested tuples over the layer: set(), add, in. -/
namespace Sx
open PySem PySem.Spec PyProof.Rows L2
structure SetN0 (w : World) (h : Heap) (a : Addr) (L : Mem) : Prop where
  ex : ∃ o es ep t, h.get? a = some o ∧ o.ExactSet ∧ o.data = .set es ep t ∧ es.toList = ents w L ∧ Tb t (L.map fun p => p.2.hash w) ∧ ((∀ p ∈ L, byV p.2 = true) → t.plain = true) ∧ (w.params.followText "set-order" = true ∨ t.led = true) ∧ L.length * 5 < t.mask * 3 ∧ t.mask ≤ 8191
  nd : (L.map (·.2)).Nodup
theorem SetN.sn0 {P : Program} {w : World} {h : Heap} {a : Addr} {L : Mem} {es : Array (Int × Value)} {ep : Nat} {t : SetTable} (R : SetN P w h a L es ep t) : SetN0 w h a L :=
  let ⟨o, h1, h2, h3⟩ := R.at_
  ⟨⟨o, es, ep, t, h1, h2, h3, R.ens, R.tab, R.pl, R.led, R.room, R.few⟩, R.nd⟩
theorem SetN0.full {P : Program} {w : World} {h : Heap} {a : Addr} {L : Mem} (R : SetN0 w h a L) (hk : ∀ p ∈ L, IsN P w h p.2 p.1) : ∃ es ep t, SetN P w h a L es ep t := by
  obtain ⟨⟨o, es, ep, t, h1, h2, h3, h4, h5, h6, h7, h8, h9⟩, nd⟩ := R
  exact ⟨es, ep, t, ⟨o, h1, h2, h3⟩, h4, h5, nd, hk, h6, h7, h8, h9⟩
def SetNO (w : World) (a : Addr) (L : Mem) : HO := .ext fun h => SetN0 w h a L
theorem setNO_ok {P : Program} {w : World} {H : Hp} {h : Heap} {a : Addr} {L : Mem} (R : SetN0 w h a L) : ObjOk P w H h a (SetNO w a L) := by
  obtain ⟨⟨o, es, ep, t, h1, h2⟩, nd⟩ := R
  refine ⟨⟨⟨o, es, ep, t, h1, h2⟩, nd⟩, ⟨o, h1⟩, fun g1 g2 p k => ?_⟩
  obtain ⟨⟨o, es, ep, t, h1, h2⟩, nd⟩ := p
  exact ⟨⟨o, es, ep, t, k o h1, h2⟩, nd⟩
theorem setN_new (w : World) (h : Heap) : SetN0 w (h.push { cls := .type "set", dict := none, data := .set #[] 0 (.fresh 0 0 (!w.params.followText "set-order")) }) h.objs.size [] := by
  refine ⟨⟨_, #[], 0, _, Heap.get?_push_size _ rfl, ⟨rfl, rfl, rfl⟩, rfl, rfl, ⟨List.Pairwise.nil, rfl, rfl, ⟨0, rfl⟩, fun x hx => absurd hx (List.not_mem_nil), fun i g j hi => by cases i <;> cases hi⟩, fun _ => rfl, ?_, (show 0 * 5 < 7 * 3 by decide), (show 7 ≤ 8191 by decide)⟩, List.nodup_nil⟩
  show _ ∨ (!w.params.followText "set-order") = true
  cases w.params.followText "set-order"
  · exact .inr rfl
  · exact .inl rfl
section
variable {X : Cx}
def KA (X : Cx) (H : Hp) (b : Addr) (k : NestedKey) : Prop := ∀ (pins : List (Addr × Obj)) (σ : L2.St) (s : Shared), Inv X pins σ H s → IsN X.prog X.w s.heap k b
def rSetN0 (w : World) : List V → Hp → VK → Prop := fun xs H Q => xs = [] ∧ ∀ p, H p = none → Q (.ref p) (L2.upd H p (SetNO w p []))
theorem cr_setN0 : CallR X (.type "set") (rSetN0 X.w) := by
  intro pins s σ H xs us Q I r h
  obtain ⟨rfl, q⟩ := h
  cases r
  refine setR_new fun _ => ?_
  exact ⟨.ref _, L2.upd H s.heap.objs.size (SetNO X.w s.heap.objs.size []), I.laid (t' := s.toks) (fun b u e => Heap.get?_push_of_some _ e) (Nat.le_refl _) (setNO_ok (setN_new X.w s.heap)), rfl, q _ (I.hok.fresh (Nat.le_refl _))⟩
section
variable {P : Program} {w : World} {A : Around} {E : Value → Shared → Prop} {s : Shared} {a : Addr} {L : Mem} {es : Array (Int × Value)} {ep : Nat} {t : SetTable}
theorem SetN.typeIs (R : SetN P w s.heap a L es ep t) : s.TypeIs (.ref a) "set" := let ⟨o, h1, h2, _⟩ := R.at_; ⟨o, h1, h2.1⟩
theorem SetN.noDict (R : SetN P w s.heap a L es ep t) : ∀ b, Value.ref a = .ref b → ∃ ob, s.heap.get? b = some ob ∧ ob.dict = none := fun b e => by
  cases e
  obtain ⟨o, h1, h2, _⟩ := R.at_
  exact ⟨o, h1, h2.2.1⟩
theorem IsN.tok {k : NestedKey} {b : Addr} {n : Nat} (x : IsN P w s.heap k b) : IsN P w ({ s with toks := n } : Shared).heap k b := x
theorem call_add (R : SetN P w s.heap a L es ep t) {x : Addr} {k : NestedKey} (hx : IsN P w s.heap k x) (hu : (nestedKind P w).room A.in1) (hfew : L.length + 1 ≤ 1000) {Q : Value → Shared → Prop}
    (hQ : ∀ h' L' es' ep' t' n, Heap.SameBut a s.heap h' → SetN P w h' a L' es' ep' t' → (k ∈ L.map (·.2) → L' = L) → (k ∉ L.map (·.2) → L'.Perm ((x, k) :: L)) → Q .none { s with heap := h', toks := n }) :
    wpAny (model P w) A (call (.builtin "set.add") [.ref a, .ref x]) Q E s := by
  refine wpAny_call_entry F.slot_set_add R.typeIs F.entry_set_add ?_ (F.args_set_add_2 _ _)
  unfold Builtin.«set.add» Builtin.Frozenset.oneOther
  simp only [List.isEmpty_nil, bind_assoc]
  unfold Builtin.Frozenset.addrOf setAdd
  refine wpAny_bind (wpAny_pure ?_)
  try dsimp only
  refine wpAny_bind (wpAny_pure ?_)
  try dsimp only
  refine wpAny_bind ?_
  refine wpAny_holding ?_
  refine wpAny_bind ((nestedKind P w).pyHash hu hx ?_)
  have R2 : SetN P w ({ s with toks := s.toks + (nestedKind P w).draws k } : Shared).heap a L es ep t := R
  refine put_in (s := { s with toks := s.toks + (nestedKind P w).draws k }) R2 hx hu hfew fun b h' L' es' ep' t' sb R' z1 z2 => ?_
  show wpAny _ _ (ret Value.none) _ _ _
  exact wpAny_pure ⟨_, rfl, hQ h' L' es' ep' t' _ sb R' z1 z2⟩
theorem has_in (R : SetN P w s.heap a L es ep t) {x : Addr} {k : NestedKey} (hx : IsN P w s.heap k x) (hu : (nestedKind P w).room A.in1) {Q : Bool → Shared → Prop}
    (h : ∀ n, Q (decide (k ∈ L.map (·.2))) { s with toks := n }) : wpAny (model P w) A (contains (.ref a) (.ref x)) Q E s := by
  unfold contains
  try with_reducible refine wpAny_holding ?_
  refine wpAny_bind (wpAny_specialOf R.typeIs F.slot_set_contains.lookup ?_)
  show wpAny _ _ (if (some (Value.builtin "set.__contains__") == some Value.none) = true then _ else _) _ E s
  rw [if_neg (by rw [beq_builtin_none]; exact Bool.false_ne_true)]
  refine wpAny_bind (wpAny_callSpecialUnlessNone?_slot (name := Str.ofString "__contains__") R.typeIs F.slot_set_contains
    (wpAny_call_entry F.slot_set_contains R.typeIs entry_set_contains ?_ (F.args_set_contains_2 _ _)))
  unfold Builtin.«frozenset.__contains__» Builtin.Frozenset.oneOther
  simp only [List.isEmpty_nil, bind_assoc]
  unfold Builtin.Frozenset.addrOf Builtin.Frozenset.withSetAsKey
  refine wpAny_bind (wpAny_pure ?_)
  try dsimp only
  refine wpAny_bind (wpAny_pure ?_)
  try dsimp only
  refine wpAny_bind (wpAny_tryCatch ?_)
  refine look_up R hx hu fun n => ?_
  show wpAny _ _ (ret (Value.bool _)) _ _ _
  exact wpAny_pure ⟨_, rfl, wpAny_truthy_bool (h n)⟩
end
def rAddN (X : Cx) : V → List V → Hp → VK → Prop := fun x xs H Q => ∃ (a b : Addr) (k : NestedKey) (L : Mem), x = .ref a ∧ xs = [.ref b] ∧ H a = some (SetNO X.w a L) ∧ KA X H b k ∧ (∀ p ∈ L, KA X H p.1 p.2) ∧ L.length + 1 ≤ 1000 ∧
  ∀ L' : Mem, (k ∈ L.map (·.2) → L' = L) → (k ∉ L.map (·.2) → L'.Perm ((b, k) :: L)) → Q .non (L2.upd H a (SetNO X.w a L'))
theorem setNO_at {pins : List (Addr × Obj)} {σ : L2.St} {H : Hp} {s : Shared} {a : Addr} {L : Mem} (I : Inv X pins σ H s) (ha : H a = some (SetNO X.w a L)) (hL : ∀ p ∈ L, KA X H p.1 p.2) : ∃ es ep t, SetN X.prog X.w s.heap a L es ep t :=
  SetN0.full (I.hok a _ ha).1 fun p hp => hL p hp pins σ s I
theorem mt_addN (hu : X.A.units + 65 < cLine) : MtR X "set.add" (rAddN X) := by
  intro pins s σ H x xs v us Q I rx rxs h
  obtain ⟨a, b, k, L, rfl, rfl, ha, hk, hL, few, q⟩ := h
  cases rx
  cases rxs with
  | cons ry rt =>
    cases rt
    cases ry
    obtain ⟨es, ep, t, R⟩ := setNO_at I ha hL
    refine call_add R (hk pins σ s I) (by show X.A.in1.units + 8 < cLine; have : X.A.in1.units = X.A.units + 1 := rfl; omega) few fun h' L' es' ep' t' n sb R' z1 z2 => ?_
    have he : ∃ u, h'.get? a = some u := let ⟨o, ho, _⟩ := R'.at_; ⟨o, ho⟩
    exact ⟨.non, L2.upd H a (SetNO X.w a L'), I.write (e := a) (t' := n) (by rw [ha]; trivial) (.inl rfl) (fun b u hb hu => (sb.2 b hb).trans hu) he (setNO_ok R'.sn0), rfl, q L' z1 z2⟩
def tAddN (X : Cx) (to : TE) (t : TA) : TE := fun σ H Q => to σ H fun x H1 => (∃ a L, x = V.ref a ∧ H1 a = some (SetNO X.w a L)) ∧ t σ H1 fun xs H2 => rAddN X x xs H2 Q
variable {o e : Expr} {es : List Expr} {to : TE} {t : TA} {apos cpos : Pos}
theorem pe_addN (hu : X.A.units + 65 < cLine) (ho : PE X o to) (ha : PA X (e :: es) t)
    (hbase : attributeBase o "add" X.env (eval o X.env) = eval o X.env := by rfl)
    (hfew : ((backTo cpos (starEach (e :: es) X.env)).all (fun x => !x.1) && (backToKw cpos (keywordEach [] X.env)).all (fun x => x.1.isSome)
      && decide ((e :: es).length + ([] : List Keyword).length + (if ([] : List Keyword).isEmpty then 0 else 1) < 30)) = true := by rfl)
    (hline : (apos.endLine == cpos.line) = true := by rfl) (hs : starEach (e :: es) X.env = (false, eval e X.env) :: starEach es X.env := by rfl) (hplain : (backTo cpos (starEach es X.env)).any (·.1) = false := by rfl) :
    PE X (.Call (.Attribute o "add" apos) (e :: es) [] cpos) (tAddN X to t) := by
  refine ⟨fun pins s σ H Q I h => ?_⟩
  refine wpAny_Call_method_late hbase hfew hline rfl (thn (ho.run pins s σ H _ I h) fun v s1 ⟨x, H1, I1, r1, ty, q1⟩ => ?_)
  obtain ⟨a, L, rfl, hka⟩ := ty
  have hS := (I1.hok a _ hka).1
  obtain ⟨⟨ob, _, _, _, hob, hex, _⟩, _⟩ := (show SetN0 X.w s1.heap a L from hS)
  cases r1
  refine ⟨"set", "set.add", F.plainAttrs_set, F.slot_set_add, F.type_set_add, ⟨ob, hob, hex.1⟩, fun b e => by cases e; exact ⟨ob, hob, hex.2.1⟩, ?_⟩
  have hA := ha.run cpos pins s1 σ H1 _ I1 q1
  rw [hs] at hA ⊢
  refine Calls.callWith_builtin (by show (false || (backTo cpos (starEach es X.env)).any (·.1)) = false; rw [hplain]; rfl) (Calls.evalArgs_plain ?_)
  exact thn hA fun us s2 ⟨vs, H2, I2, r2, q2⟩ => mt_addN hu pins s2 σ H2 (.ref a) vs (.ref a) us Q I2 rfl r2 q2
def rInN (X : Cx) (neg : Bool) : V → V → Hp → VK → Prop := fun x y H Q => ∃ (a b : Addr) (k : NestedKey) (L : Mem), x = .ref b ∧ y = .ref a ∧ H a = some (SetNO X.w a L) ∧ KA X H b k ∧ (∀ p ∈ L, KA X H p.1 p.2) ∧ Q (.bl (if neg then !decide (k ∈ L.map (·.2)) else decide (k ∈ L.map (·.2)))) H
theorem or_inN (hu : X.A.units + 65 < cLine) : OpR X (compareOp .In) (rInN X false) := by
  intro pins s σ H x y v u Q I rx ry h
  obtain ⟨a, b, k, L, rfl, rfl, ha, hk, hL, q⟩ := h
  cases rx
  cases ry
  obtain ⟨es, ep, t, R⟩ := setNO_at I ha hL
  show wpAny (model X.prog X.w) X.A (do return .bool (← contains (.ref a) (.ref b))) (EP X pins σ Q) X.xe s
  exact wpAny_bind (has_in R (hk pins σ s I) (by show X.A.in1.units + 8 < cLine; have : X.A.in1.units = X.A.units + 1 := rfl; omega) fun n => wpAny_pure ⟨V.bl (decide (k ∈ List.map (fun x : Addr × NestedKey => x.2) L)), H, I.tok _, rfl, q⟩)
theorem or_ninN (hu : X.A.units + 65 < cLine) : OpR X (compareOp .NotIn) (rInN X true) := by
  intro pins s σ H x y v u Q I rx ry h
  obtain ⟨a, b, k, L, rfl, rfl, ha, hk, hL, q⟩ := h
  cases rx
  cases ry
  obtain ⟨es, ep, t, R⟩ := setNO_at I ha hL
  show wpAny (model X.prog X.w) X.A (do return .bool (!(← contains (.ref a) (.ref b)))) (EP X pins σ Q) X.xe s
  exact wpAny_bind (has_in R (hk pins σ s I) (by show X.A.in1.units + 8 < cLine; have : X.A.in1.units = X.A.units + 1 := rfl; omega) fun n => wpAny_pure ⟨V.bl (!decide (k ∈ List.map (fun x : Addr × NestedKey => x.2) L)), H, I.tok _, rfl, q⟩)
end
end Sx

set_option Elab.async false
set_option linter.all false
set_option maxRecDepth 100000
set_option maxHeartbeats 4000000
/-! Sx4: dicts whose keys are nested tuples, over the layer. -/
namespace Sx
open PySem PySem.Spec PyProof.Rows L2
abbrev Ent := NestedKey × Addr × V
abbrev EntW := NestedKey × Addr × Value
def RelEnt (p : Ent) (q : EntW) : Prop := p.1 = q.1 ∧ p.2.1 = q.2.1 ∧ L2.RelV p.2.2 q.2.2
def entW (w : World) (x : EntW) : DictEntry := ⟨x.1.hash w, .ref x.2.1, x.2.2⟩
structure DctN0 (w : World) (h : Heap) (a : Addr) (xs : List Ent) : Prop where
  ex : ∃ ys : List EntW, Paired RelEnt xs ys ∧ ∃ o es ep, h.get? a = some o ∧ o.ExactDict ∧ o.data = .dict es ep ∧ es.toList = ys.map (entW w)
  nd : (xs.map (·.1)).Nodup
  sz : xs.length ≤ sizeLine
  ns : (a == sysModules) = false
def DctNO (w : World) (a : Addr) (xs : List Ent) : HO := .ext fun h => DctN0 w h a xs
theorem dctNO_ok {P : Program} {w : World} {H : Hp} {h : Heap} {a : Addr} {xs : List Ent} (R : DctN0 w h a xs) : ObjOk P w H h a (DctNO w a xs) := by
  obtain ⟨⟨ys, r, o, es, ep, h1, h2⟩, nd, sz, ns⟩ := R
  refine ⟨⟨⟨ys, r, o, es, ep, h1, h2⟩, nd, sz, ns⟩, ⟨o, h1⟩, fun g1 g2 p k => ?_⟩
  obtain ⟨⟨ys, r, o, es, ep, h1, h2⟩, nd, sz, ns⟩ := p
  exact ⟨⟨ys, r, o, es, ep, k o h1, h2⟩, nd, sz, ns⟩
theorem paired_keys : ∀ {xs : List Ent} {ys : List EntW}, Paired RelEnt xs ys → ys.map (·.1) = xs.map (·.1)
  | _, _, .nil => rfl
  | _, _, .cons h t => by rw [List.map_cons, List.map_cons, paired_keys t, h.1]
theorem paired_mem : ∀ {xs : List Ent} {ys : List EntW}, Paired RelEnt xs ys → ∀ y ∈ ys, ∃ x ∈ xs, RelEnt x y
  | _, _, .nil, y, h => absurd h List.not_mem_nil
  | _, _, .cons h t, y, hy => by
    rcases List.mem_cons.mp hy with e | hy
    · rw [e]; exact ⟨_, List.mem_cons_self, h⟩
    · obtain ⟨x, hx, r⟩ := paired_mem t y hy
      exact ⟨x, List.mem_cons_of_mem _ hx, r⟩
theorem paired_len : ∀ {xs : List Ent} {ys : List EntW}, Paired RelEnt xs ys → ys.length = xs.length
  | _, _, .nil => rfl
  | _, _, .cons h t => by rw [List.length_cons, List.length_cons, paired_len t]
def atX (xs : List Ent) (k : NestedKey) : Option (Addr × V) := (xs.find? fun x => decide (x.1 = k)).map (·.2)
def putX (k : NestedKey) (v : V) (x : Ent) : Ent := if x.1 = k then (x.1, x.2.1, v) else x
def setX (xs : List Ent) (k : NestedKey) (b : Addr) (v : V) : List Ent := if (atX xs k).isSome then xs.map (putX k v) else xs ++ [(k, b, v)]
theorem paired_at : ∀ {xs : List Ent} {ys : List EntW}, Paired RelEnt xs ys → ∀ k, (match atX xs k, atKey ys k with | none, none => True | some p, some q => L2.RelV p.2 q.2 | _, _ => False)
  | _, _, .nil, k => trivial
  | _, _, .cons (a := x) (b := y) h t, k => by
    have ih := paired_at t k
    unfold atX atKey at ih ⊢
    rw [List.find?_cons, List.find?_cons, ← h.1]
    by_cases e : x.1 = k
    · simp only [e, decide_true, Option.map_some]
      exact h.2.2
    · simp only [e, decide_false]
      exact ih
theorem paired_put : ∀ {xs : List Ent} {ys : List EntW} (k : NestedKey) {v : V} {u : Value}, Paired RelEnt xs ys → L2.RelV v u → Paired RelEnt (xs.map (putX k v)) (ys.map (putAt k u))
  | _, _, k, v, u, .nil, r => .nil
  | _, _, k, v, u, .cons (a := x) (b := y) h t, r => by
    refine .cons ?_ (paired_put k t r)
    unfold putX putAt
    rw [← h.1]
    by_cases e : x.1 = k
    · rw [if_pos e, if_pos e]; exact ⟨rfl, h.2.1, r⟩
    · rw [if_neg e, if_neg e]; exact h
theorem paired_app : ∀ {xs xs2 : List Ent} {ys ys2 : List EntW}, Paired RelEnt xs ys → Paired RelEnt xs2 ys2 → Paired RelEnt (xs ++ xs2) (ys ++ ys2)
  | _, _, _, _, .nil, s => s
  | _, _, _, _, .cons h t, s => .cons h (paired_app t s)
theorem paired_set {xs : List Ent} {ys : List EntW} {k : NestedKey} {b : Addr} {v : V} {u : Value} (p : Paired RelEnt xs ys) (r : L2.RelV v u) : Paired RelEnt (setX xs k b v) (storedH ys k b u) := by
  unfold setX storedH
  have q := paired_at p k
  cases h1 : atX xs k with
  | none =>
    cases h2 : atKey ys k with
    | none =>
      rw [if_neg (by simp), if_neg (by simp)]
      exact paired_app p (.cons ⟨rfl, rfl, r⟩ .nil)
    | some z => rw [h1, h2] at q; exact q.elim
  | some y =>
    cases h2 : atKey ys k with
    | none => rw [h1, h2] at q; exact q.elim
    | some z =>
      simp only [Option.isSome_some, if_true]
      exact paired_put k p r
theorem setX_len (xs : List Ent) (k : NestedKey) (b : Addr) (v : V) : (setX xs k b v).length ≤ xs.length + 1 := by
  unfold setX
  split <;> simp
theorem setX_keys {xs : List Ent} {k : NestedKey} {b : Addr} {v : V} {x : Ent} (h : x ∈ setX xs k b v) : (x.1 = k ∧ x.2.1 = b) ∨ ∃ y ∈ xs, y.1 = x.1 ∧ y.2.1 = x.2.1 := by
  unfold setX at h
  split at h
  · obtain ⟨y, hy, e⟩ := List.mem_map.mp h
    refine .inr ⟨y, hy, ?_⟩
    unfold putX at e
    split at e <;> rw [← e] <;> exact ⟨rfl, rfl⟩
  · rcases List.mem_append.mp h with h | h
    · exact .inr ⟨x, h, rfl, rfl⟩
    · rw [List.mem_singleton.mp h]; exact .inl ⟨rfl, rfl⟩
section
variable {X : Cx} {pins : List (Addr × Obj)} {σ : L2.St} {H : Hp} {s : Shared} {a b : Addr} {k : NestedKey} {xs : List Ent}
theorem dctNO_at (I : Inv X pins σ H s) (ha : H a = some (DctNO X.w a xs)) (hL : ∀ x ∈ xs, KA X H x.2.1 x.1) : ∃ ys, Paired RelEnt xs ys ∧ s.heap.DictOfH (nestedKind X.prog X.w) a ys ∧ xs.length ≤ sizeLine ∧ (a == sysModules) = false := by
  obtain ⟨⟨ys, r, o, es, ep, h1, h2, h3, h4⟩, nd, sz, ns⟩ := (show DctN0 X.w s.heap a xs from (I.hok a _ ha).1)
  refine ⟨ys, r, ⟨o, es, ep, h1, h2, h3, h4, fun y hy => ?_, by rw [paired_keys r]; exact nd⟩, sz, ns⟩
  obtain ⟨x, hx, e1, e2, _⟩ := paired_mem r y hy
  rw [← e1, ← e2]
  exact hL x hx pins σ s I
theorem dctNO_of {P : Program} {w : World} {h : Heap} {xs : List Ent} {ys : List EntW} (r : Paired RelEnt xs ys) (d : h.DictOfH (nestedKind P w) a ys) (sz : xs.length ≤ sizeLine) (ns : (a == sysModules) = false) : DctN0 w h a xs := by
  obtain ⟨o, es, ep, h1, h2, h3, h4, _, nd⟩ := d
  exact ⟨⟨ys, r, o, es, ep, h1, h2, h3, h4⟩, by rw [← paired_keys r]; exact nd, sz, ns⟩
theorem room1 (hu : X.A.units + 65 < cLine) : (nestedKind X.prog X.w).room X.A.in1 := by
  show X.A.in1.units + 8 < cLine
  have : X.A.in1.units = X.A.units + 1 := rfl
  omega
theorem room0 (hu : X.A.units + 65 < cLine) : (nestedKind X.prog X.w).room X.A := by
  show X.A.units + 8 < cLine
  omega
def rInX (X : Cx) (neg : Bool) : V → V → Hp → VK → Prop := fun x y H Q => ∃ (a b : Addr) (k : NestedKey) (xs : List Ent), x = .ref b ∧ y = .ref a ∧ H a = some (DctNO X.w a xs) ∧ KA X H b k ∧ (∀ x ∈ xs, KA X H x.2.1 x.1) ∧ Q (.bl (if neg then !(atX xs k).isSome else (atX xs k).isSome)) H
theorem atX_some {xs : List Ent} {ys : List EntW} (p : Paired RelEnt xs ys) (k : NestedKey) : (atKey ys k).isSome = (atX xs k).isSome := by
  have q := paired_at p k
  cases h1 : atX xs k <;> cases h2 : atKey ys k <;> rw [h1, h2] at q <;> first | rfl | exact q.elim
theorem or_inX (hu : X.A.units + 65 < cLine) : OpR X (compareOp .In) (rInX X false) := by
  intro pins s σ H x y v u Q I rx ry h
  obtain ⟨a, b, k, xs, rfl, rfl, ha, hk, hL, q⟩ := h
  cases rx
  cases ry
  obtain ⟨ys, r, d, sz, ns⟩ := dctNO_at I ha hL
  refine wpAny_in_heap (room1 hu) (hk pins σ s I) ns d ?_
  rw [atX_some r]
  exact ⟨V.bl (atX xs k).isSome, H, I.tok _, rfl, q⟩
theorem or_ninX (hu : X.A.units + 65 < cLine) : OpR X (compareOp .NotIn) (rInX X true) := by
  intro pins s σ H x y v u Q I rx ry h
  obtain ⟨a, b, k, xs, rfl, rfl, ha, hk, hL, q⟩ := h
  cases rx
  cases ry
  obtain ⟨ys, r, d, sz, ns⟩ := dctNO_at I ha hL
  refine wpAny_notIn_heap (room1 hu) (hk pins σ s I) ns d ?_
  rw [atX_some r]
  exact ⟨V.bl (!(atX xs k).isSome), H, I.tok _, rfl, q⟩
def rGetX (X : Cx) : V → V → Hp → VK → Prop := fun x y H Q => ∃ (a b c : Addr) (k : NestedKey) (xs : List Ent) (v : V), x = .ref a ∧ y = .ref b ∧ H a = some (DctNO X.w a xs) ∧ KA X H b k ∧ (∀ x ∈ xs, KA X H x.2.1 x.1) ∧ atX xs k = some (c, v) ∧ Q v H
theorem ix_getX (hu : X.A.units + 65 < cLine) : IxR X (rGetX X) := by
  intro value slice pins s σ H x y v u Q I rx ry h hs
  obtain ⟨a, b, c, k, xs, z, rfl, rfl, ha, hk, hL, hz, q⟩ := h
  cases rx
  cases ry
  obtain ⟨ys, r, d, sz, ns⟩ := dctNO_at I ha hL
  have p := paired_at r k
  rw [hz] at p
  cases h2 : atKey ys k with
  | none => rw [h2] at p; exact p.elim
  | some w =>
    rw [h2] at p
    exact tail_any d.typeIs F.slot_dict_getitem.lookup (wpAny_getItem_heap (room1 hu) (hk pins σ s I) d h2 ⟨z, H, I.tok _, p, q⟩) hs
def rSetX (X : Cx) : TSet := fun o i v H Q => ∃ (a b : Addr) (k : NestedKey) (xs : List Ent), o = .ref a ∧ i = .ref b ∧ H a = some (DctNO X.w a xs) ∧ KA X H b k ∧ (∀ x ∈ xs, KA X H x.2.1 x.1) ∧ xs.length < sizeLine ∧ Q (L2.upd H a (DctNO X.w a (setX xs k b v)))
theorem set_X (hu : X.A.units + 65 < cLine) : PSet X (rSetX X) := by
  intro pins s σ H o i v ov iv u Q I ro ri rv h
  obtain ⟨a, b, k, xs, rfl, rfl, ha, hk, hL, lt, q⟩ := h
  cases ro
  cases ri
  obtain ⟨ys, r, d, sz, ns⟩ := dctNO_at I ha hL
  refine wpAny_setItem_heap (hsz := by rw [paired_len r]; exact sz) (room1 hu) (hk pins σ s I) d fun h' d' hs => ?_
  have N := dctNO_of (paired_set r rv) d' (by have := setX_len xs k b v; omega) ns
  have he : ∃ q, h'.get? a = some q := let ⟨o, _, _, ho, _⟩ := d'; ⟨o, ho⟩
  exact ⟨_, d_write I (by rw [ha]; exact True.intro) hs he (dctNO_ok N), q⟩
def tDisp1 (X : Cx) (tk tv : TE) : TE := fun σ H Q => ∀ p, H p = none → tk σ (L2.upd H p (DctNO X.w p [])) fun x H1 => tv σ H1 fun y H2 => H2 p = some (DctNO X.w p []) ∧ ∃ (b : Addr) (k : NestedKey), x = .ref b ∧ KA X H2 b k ∧ Q (.ref p) (L2.upd H2 p (DctNO X.w p [(k, b, y)]))
theorem dctN_new {P : Program} {w : World} (h : Heap) (hb : sysModules < h.objs.size) : DctN0 w (h.push { cls := .type "dict", data := .dict #[] }) h.objs.size [] :=
  ⟨⟨[], .nil, _, #[], 0, Heap.get?_push_size _ rfl, ⟨rfl, rfl, rfl⟩, rfl, rfl⟩, List.nodup_nil, Nat.zero_le _, beq_eq_false_iff_ne.mpr (Ne.symm (Nat.ne_of_lt hb))⟩
theorem pe_disp1 {ke ve : Expr} {pos : Pos} {tk tv : TE} (hu : X.A.units + 65 < cLine) (hk : PE X ke tk) (hv : PE X ve tv) : PE X (.Dict [some ke] [ve] pos) (tDisp1 X tk tv) := by
  refine ⟨fun pins s σ H Q I q => ?_⟩
  have hn := I.hok.fresh (Nat.le_refl s.heap.objs.size)
  have I1 := I.laid (a := s.heap.objs.size) (o := DctNO X.w s.heap.objs.size []) (h' := s.heap.push { cls := .type "dict", data := .dict #[] }) (t' := s.toks) (fun _ _ q => Heap.get?_push_of_some _ q) (Nat.le_refl _) (dctNO_ok (dctN_new (P := X.prog) s.heap I.big))
  have q1 := q _ hn
  rw [arm_eval_Dict, zip_pairTrees [some ke] [ve] X.env pos rfl rfl, dictDisplay_pairs (pairTrees [some ke] [ve] X.env pos) (fun z => by cases z) (show (1 : Nat) < 17 from by decide)]
  refine wpAny_bind (wpAny_standAt (wpAny_bind (wpAny_subDictH (knd := nestedKind X.prog X.w) (Q := fun d s' => wpAny (model X.prog X.w) X.A (pure (Value.ref d)) (EP X pins σ Q) X.xe s') (room0 hu) (show (1 : Nat) ≤ 15 from by decide) ?_)))
  refine pairTrees_cons_walk (thn (hk.run pins _ σ _ _ I1 q1) fun u s1 ⟨x, H1, I2, rx, q2⟩ => thn (hv.run pins s1 σ H1 _ I2 q2) fun w2 s2 ⟨y, H2, I3, ry, e, b, k, ex, ka, q3⟩ => pairTrees_nil_walk ?_)
  subst ex
  cases rx
  obtain ⟨ys, r0, d, sz, ns⟩ := dctNO_at I3 e (fun x hx => absurd hx List.not_mem_nil)
  cases r0
  refine ⟨[(k, b, w2)], ⟨rfl, rfl, ka pins σ s2 I3, True.intro⟩, d, fun h' tk d' hs => wpAny_pure ?_⟩
  have r1 : Paired RelEnt [(k, b, y)] (storedAllH [] [(k, b, w2)]) := .cons ⟨rfl, rfl, ry⟩ .nil
  have N := dctNO_of r1 d' (by rw [sizeLine_eq]; exact (show (1 : Nat) ≤ 16777216 by decide)) ns
  have he : ∃ q, h'.get? s.heap.objs.size = some q := let ⟨o, _, _, ho, _⟩ := d'; ⟨o, ho⟩
  exact ⟨.ref s.heap.objs.size, _, d_write I3 (by rw [e]; exact True.intro) hs he (dctNO_ok N), rfl, q3⟩
def tDisp0 (X : Cx) : TE := fun σ H Q => ∀ p, H p = none → Q (.ref p) (L2.upd H p (DctNO X.w p []))
theorem pe_disp0 {pos : Pos} : PE X (.Dict [] [] pos) (tDisp0 X) := ⟨fun pins s σ H Q I h =>
  wpAny_Dict_empty ⟨.ref s.heap.objs.size, _, I.laid (a := s.heap.objs.size) (o := DctNO X.w s.heap.objs.size []) (t' := s.toks) (fun _ _ q => Heap.get?_push_of_some _ q) (Nat.le_refl _) (dctNO_ok (dctN_new (P := X.prog) s.heap I.big)), rfl, h _ (I.hok.fresh (Nat.le_refl _))⟩⟩
end
end Sx

set_option Elab.async false
set_option linter.all false
set_option maxRecDepth 100000
set_option maxHeartbeats 4000000
/-! Sx5: zip of a list or tuple with a list or tuple. -/
namespace Sx
open PySem PySem.Spec PyProof.Rows L2
def SqB (K : PySem.W.Frag) (k : Bool) (H : Hp) (a : Addr) (xs : List V) : Prop := if k = true then SqT K H a xs else SqL K H a xs
def StB (k : Bool) (it a : Addr) (items : Array Value) (i : Nat) (h : Heap) : Prop := if k = true then h.IsTupleIter it a i ∧ h.IsTuple a items else h.IsListIter it a i ∧ h.IsList a items
def ItB (k : Bool) (it a : Addr) (i : Nat) (h : Heap) : Prop := if k = true then h.IsTupleIter it a i else h.IsListIter it a i
def obB (k : Bool) (a : Addr) : Obj := if k = true then { cls := .type "tuple_iterator", data := .fields #[.ref a, .int 0 0] } else { cls := .type "list_iterator", data := .fields #[.ref a, .int 0 0] }
def HB (k : Bool) (a : Addr) (items : Array Value) (h : Heap) : Prop := if k = true then h.IsTuple a items else h.IsList a items
theorem drawsB {P : Program} {w : World} {A : Around} (hh : A.handled = none) (k : Bool) (it a : Addr) (hne : a ≠ it) (items : Array Value) : Draws P w A it [it, a] items.size (fun i v => items[i]? = some v) (StB k it a items) := by
  cases k with
  | true => exact Draws.tuple hh it a hne items
  | false => exact Draws.list hh it a hne items
theorem beginsB (k : Bool) (a : Addr) (items : Array Value) : Begins (.ref a) (obB k a) (HB k a items) := by
  cases k with
  | true => exact begins_tuple a items
  | false => exact begins_list a items
theorem stB {k : Bool} {it a : Addr} {items : Array Value} {i : Nat} {h : Heap} : StB k it a items i h ↔ ItB k it a i h ∧ HB k a items h := by
  cases k <;> exact Iff.rfl
theorem itB_new {k : Bool} {it a : Addr} {h : Heap} (e : h.get? it = some (obB k a)) : ItB k it a 0 h := by
  cases k with
  | true => exact ⟨_, e, rfl, rfl⟩
  | false => exact ⟨_, e, rfl, rfl⟩
theorem ItB.at {k : Bool} {it a : Addr} {i : Nat} {h h' : Heap} (x : ItB k it a i h) (e : ∀ o, h.get? it = some o → h'.get? it = some o) : ItB k it a i h' := by
  cases k with
  | true => exact Heap.IsTupleIter.at x e
  | false => exact Heap.IsListIter.at x e
theorem ItB.ob {k : Bool} {it a : Addr} {i : Nat} {h : Heap} (x : ItB k it a i h) : ∃ o, h.get? it = some o ∧ ∀ v, o.data ≠ .cell v := by
  cases k with
  | true => obtain ⟨o, e, _, d⟩ := x; exact ⟨o, e, fun v q => by rw [d] at q; cases q⟩
  | false => obtain ⟨o, e, _, d⟩ := x; exact ⟨o, e, fun v q => by rw [d] at q; cases q⟩
section
variable {X : Cx} {pins : List (Addr × Obj)} {σ : L2.St} {H : Hp} {s : Shared} {a : Addr} {xs ys : List V}
theorem sqB_at {k : Bool} (I : Inv X pins σ H s) (h : SqB X.K k H a xs) : ∃ its : List Value, Vals xs its ∧ HB k a its.toArray s.heap ∧ (∃ o, s.heap.get? a = some o) := by
  cases k with
  | true =>
    obtain ⟨its, r, p, _⟩ := I.tuple h
    obtain ⟨o, ho, _⟩ := id p
    exact ⟨its, r, p, o, ho⟩
  | false =>
    obtain ⟨its, r, p, _⟩ := I.list h
    have q := p.isList
    obtain ⟨o, ho, _⟩ := id q
    exact ⟨its, r, q, o, ho⟩
theorem sqB_inj {k : Bool} (I : Inv X pins σ H s) (h : SqB X.K k H a xs) (g : SqB X.K k H a ys) : xs = ys := by
  cases k with
  | true => exact I.tuple_inj h g
  | false => exact I.list_inj h g
end
def ItzB (K : PySem.W.Frag) (k1 k2 : Bool) (a b : Addr) : It :=
  ⟨fun i H => ∃ (xs ys : List V) (x y : V), SqB K k1 H a xs ∧ SqB K k2 H b ys ∧ xs[i]? = some x ∧ ys[i]? = some y,
    fun i H v H' => ∃ T x y, v = .ref T ∧ H T = none ∧ H' = L2.upd H T (.tup [x, y]) ∧ (∀ xs, SqB K k1 H a xs → xs[i]? = some x) ∧ ∀ ys, SqB K k2 H b ys → ys[i]? = some y,
    fun i H => ∃ xs ys : List V, SqB K k1 H a xs ∧ SqB K k2 H b ys ∧ i ≤ xs.length ∧ i ≤ ys.length ∧ (i = xs.length ∨ i = ys.length)⟩
structure Far (z TI TO i1 i2 a b : Addr) : Prop where
  sep : ZipSep2 z TI TO i1 i2 [i1, a] [i2, b]
  n1 : a ≠ i1
  n2 : b ≠ i2
structure ZipSt (k1 k2 : Bool) (a b z TI TO i1 i2 : Addr) (i : Nat) (h : Heap) : Prop where
  zip : IsZip h z TI TO .none
  ins : IsTupOf2 h TI (.ref i1) (.ref i2)
  outs : ∃ x y, IsTupOf2 h TO x y
  one : ItB k1 i1 a i h
  two : ItB k2 i2 b i h
theorem of_five {P : Addr → Prop} {z TI TO i1 i2 : Addr} (h1 : P z) (h2 : P TI) (h3 : P TO) (h4 : P i1) (h5 : P i2) : ∀ c ∈ [z, TI, TO, i1, i2], P c := by
  simp only [List.mem_cons, List.not_mem_nil, or_false]
  rintro c (rfl | rfl | rfl | rfl | rfl) <;> assumption
section
variable {k1 k2 : Bool} {a b z TI TO i1 i2 : Addr} {i : Nat} {h : Heap}
theorem ZipSt.lie (Z : ZipSt k1 k2 a b z TI TO i1 i2 i h) : ∀ c ∈ [z, TI, TO, i1, i2], ∃ o, h.get? c = some o ∧ ∀ v, o.data ≠ .cell v :=
  of_five ⟨_, Z.zip, fun _ => nofun⟩ ⟨_, Z.ins, fun _ => nofun⟩ (let ⟨_, _, e⟩ := Z.outs; ⟨_, e, fun _ => nofun⟩) Z.one.ob Z.two.ob
theorem ZipSt.low (Z : ZipSt k1 k2 a b z TI TO i1 i2 i h) {c : Addr} (m : c ∈ [z, TI, TO, i1, i2]) : c < h.objs.size := let ⟨_, e, _⟩ := Z.lie c m; Heap.lt_size e
theorem ZipSt.stay {h' : Heap} (Z : ZipSt k1 k2 a b z TI TO i1 i2 i h) (k : ∀ c ∈ [z, TI, TO, i1, i2], ∀ o, h.get? c = some o → h'.get? c = some o) : ZipSt k1 k2 a b z TI TO i1 i2 i h' where
  zip := k _ (.head _) _ Z.zip
  ins := k _ (.tail _ (.head _)) _ Z.ins
  outs := let ⟨x, y, e⟩ := Z.outs; ⟨x, y, k _ (.tail _ (.tail _ (.head _))) _ e⟩
  one := Z.one.at (k _ (.tail _ (.tail _ (.tail _ (.head _)))))
  two := Z.two.at (k _ (.tail _ (.tail _ (.tail _ (.tail _ (.head _))))))
theorem not_five {c : Addr} (m : c ∉ [z, TI, TO, i1, i2]) : c ≠ z ∧ c ≠ TO ∧ c ≠ i1 ∧ c ≠ i2 := by
  simp only [List.mem_cons, List.not_mem_nil, or_false, not_or] at m
  exact ⟨m.1, m.2.2.1, m.2.2.2.1, m.2.2.2.2⟩
end
theorem turn_zipB {P : Program} {w : World} {K : PySem.W.Frag} {elts : List Expr} {kk : Nat} {tpos : Pos} {k1 k2 : Bool} {a b z TI TO i1 i2 : Addr} (D : Far z TI TO i1 i2 a b) :
    Turn P w K (.Tuple elts kk tpos) (ItzB K k1 k2 a b) [z, TI, TO, i1, i2] z (ZipSt k1 k2 a b z TI TO i1 i2) where
  mem := .head _
  obj _ _ Z := Z.lie
  keep _ _ _ Z k := Z.stay k
  item := by
    rintro X rfl rfl rfl calm i pins s σ H E I free Z ⟨xs, ys, x, y, qx, qy, hx, hy⟩
    obtain ⟨its, rv, p, _⟩ := sqB_at I qx
    obtain ⟨jts, rw', q, _⟩ := sqB_at I qy
    obtain ⟨u, hu, ru⟩ := rv.get hx
    obtain ⟨t, ht, rt⟩ := rw'.get hy
    have quiet : X.A.in1.handled = none := I.ok.hd calm
    have at1 : its.toArray[i]? = some u := by rw [List.getElem?_toArray]; exact hu
    have at2 : jts.toArray[i]? = some t := by rw [List.getElem?_toArray]; exact ht
    have low := @ZipSt.low _ _ _ _ _ _ _ _ _ _ _ Z
    refine wpAny_pyNext_zipD2_item D.sep (drawsB quiet k1 i1 a D.n1 its.toArray) (drawsB quiet k2 i2 b D.n2 jts.toArray) Z.zip Z.ins Z.outs.choose_spec.choose_spec (stB.mpr ⟨Z.one, p⟩) (stB.mpr ⟨Z.two, q⟩)
      (Array.getElem?_eq_some_iff.mp at1).1 (Array.getElem?_eq_some_iff.mp at2).1 ?_
    intro x1 x2 h' tk y1 y2 z' TO' st1 st2 made _ kept
    obtain rfl : x1 = u := Option.some.inj (y1.symm.trans at1)
    obtain rfl : x2 = t := Option.some.inj (y2.symm.trans at2)
    refine ⟨_, rfl, wpAny_letOwnedTupleGo_zip (s := { s with heap := h', toks := tk }) z' fun h'' z'' sb => ?_⟩
    have zl := low (.head _)
    have pair : ObjOk X.prog X.w (L2.upd H s.heap.objs.size (.tup [x, y])) h'' s.heap.objs.size (.tup [x, y]) :=
      ⟨by show 2 ≤ sizeLine; decide, [x1, x2], .cons ru (.cons rt .nil), ⟨_, (sb.2 _ (Nat.ne_of_gt zl)).trans made, rfl, _, rfl⟩⟩
    have J : Inv X pins σ (L2.upd H s.heap.objs.size (.tup [x, y])) { s with heap := h'', toks := tk } :=
      I.turnedNew (t' := tk) (ch := [z, TI, TO, i1, i2]) (fun c o m e => let ⟨n1, n2, n3, n4⟩ := not_five m; (sb.2 c n1).trans (kept c o n1 n2 n3 n4 e)) free (Nat.le_refl _) pair
    refine ⟨.ref s.heap.objs.size, _, J, rfl, ⟨_, x, y, rfl, I.hok.fresh (Nat.le_refl _), rfl, ?_, ?_⟩, ⟨z'', ?_, ⟨x1, x2, (sb.2 _ D.sep.TOz).trans TO'⟩, ?_, ?_⟩, ?_⟩
    · intro xs' q'; rw [sqB_inj I q' qx]; exact hx
    · intro ys' q'; rw [sqB_inj I q' qy]; exact hy
    · exact (sb.2 _ D.sep.TIz).trans (kept _ _ D.sep.TIz D.sep.TITO D.sep.TIi1 D.sep.TIi2 Z.ins)
    · exact (stB.mp st1).1.at fun _ e => (sb.2 _ (Ne.symm D.sep.zi1)).trans e
    · exact (stB.mp st2).1.at fun _ e => (sb.2 _ (Ne.symm D.sep.zi2)).trans e
    · intro c m
      rw [upd_ne (Nat.ne_of_lt (low m))]
      exact (free c m).1
  done := by
    rintro X rfl rfl rfl calm i pins s σ H E I free Z ⟨xs, ys, qx, qy, g1, g2, last⟩
    obtain ⟨its, rv, p, _⟩ := sqB_at I qx
    obtain ⟨jts, rw', q, _⟩ := sqB_at I qy
    have quiet : X.A.in1.handled = none := I.ok.hd calm
    have n1 : its.toArray.size = xs.length := by rw [List.size_toArray, rv.length]
    have n2 : jts.toArray.size = ys.length := by rw [List.size_toArray, rw'.length]
    exact wpAny_pyNext_zipD2_end D.sep (drawsB quiet k1 i1 a D.n1 its.toArray) (drawsB quiet k2 i2 b D.n2 jts.toArray) Z.zip Z.ins Z.outs.choose_spec.choose_spec (stB.mpr ⟨Z.one, p⟩) (stB.mpr ⟨Z.two, q⟩) (by omega) (by omega) (by omega)
      fun h' tk kept => ⟨rfl, I.turnedL (t' := tk) (ch := [z, TI, TO, i1, i2]) (fun c o m e => let ⟨n1, n2, n3, n4⟩ := not_five m; kept c o n1 n2 n3 n4 e) free⟩
  self _ _ _ _ _ Z h := wpAny_pyIter_zip Z.zip h
def iZipB (K : PySem.W.Frag) (ta : TA) : TI := fun σ H R => ta σ H fun vs H1 => ∃ a b xs ys k1 k2, vs = [.ref a, .ref b] ∧ SqB K k1 H1 a xs ∧ SqB K k2 H1 b ys ∧ R (ItzB K k1 k2 a b) H1
theorem pi_zipB {X : Cx} {e e2 : Expr} {ta : TA} {p pos tpos : Pos} {elts : List Expr} {kk : Nat} (hg : Gl X "zip") (hm : X.mg "zip" = none) (ha : PA X [e, e2] ta)
    (each : starEach [e, e2] X.env = (false, eval e X.env) :: starEach [e2] X.env := by rfl) (plain : (backTo pos (starEach [e2] X.env)).any (·.1) = false := by rfl) :
    PI X (.Tuple elts kk tpos) (.Call (.Name "zip" p) [e, e2] [] pos) (iZipB X.K ta) := by
  constructor
  intro pins s σ H R I h
  have args := ha.run pos pins s σ H _ I h
  refine Call_ (ld_blt I hg hm PyProof.Rows.boot_zip (PyProof.Rows.callWith_type1 (thn args ?_) each plain))
  rintro us s1 ⟨_, H1, J, rel, a, b, xs, ys, k1, k2, rfl, qx, qy, go⟩
  obtain ⟨rfl⟩ : us = [.ref a, .ref b] := by
    cases rel with
    | cons r rr => cases rr with
      | cons r' rr => cases rr; cases r; cases r'; rfl
  obtain ⟨its, _, p1, o1, g1⟩ := sqB_at J qx
  obtain ⟨jts, _, p2, o2, g2⟩ := sqB_at J qy
  have la := Heap.lt_size g1
  have lb := Heap.lt_size g2
  refine zip_begins2 (beginsB k1 a its.toArray) (beginsB k2 b jts.toArray) p1 p2 ?_
  intro h' zip ins outs it1 it2 _ kept
  have sep := zip_sep2 (N := s1.heap.objs.size) (fp1 := [a]) (fp2 := [b]) (fun c m => by rw [List.mem_singleton.mp m]; exact la) (fun c m => by rw [List.mem_singleton.mp m]; exact lb)
  have far : Far _ _ _ _ _ a b := ⟨sep, Nat.ne_of_lt la, Nat.ne_of_lt (Nat.lt_succ_of_lt lb)⟩
  have new : ∀ c ∈ [s1.heap.objs.size + 4, s1.heap.objs.size + 2, s1.heap.objs.size + 3, s1.heap.objs.size, s1.heap.objs.size + 1], s1.heap.objs.size ≤ c := of_five (by omega) (by omega) (by omega) (by omega) (by omega)
  exact wpAny_pyIter_zip zip ⟨_, _, _, _, H1, rfl, J.kept (t' := s1.toks) kept, turn_zipB (k1 := k1) (k2 := k2) far, ⟨zip, ins, ⟨_, _, outs⟩, itB_new it1, itB_new it2⟩, fun c m => J.fpOk (new c m) (J.hok.fresh (new c m)), go⟩
end Sx

set_option Elab.async false
set_option linter.all false
set_option maxRecDepth 100000
set_option maxHeartbeats 4000000
/-! Sx6: a def within a def: made; told by its table alone. -/
namespace Sx
open PySem PySem.Spec PyProof.Rows L2 NdefX LamX
structure Made (P : Addr) (q : Str) (H H1 : Hp) (f c' : Addr) (F : NF) : Prop where
  keep : ∀ b o, b ≠ P → H b = some o → H1 b = some o
  dom : ∀ b, H1 b = none → H b = none
  tab : Gx.TabX H1 P
  new : H f = none
  fn : H1 f = some (FnO f F)
  cod : H1 c' = some (CodeO c' q)
section
variable {X : Cx} {pins : List (Addr × Obj)} {σ : L2.St} {H : Hp} {s : Shared}
def fnH (H : Hp) (h : Heap) (F : NF) : Hp := L2.upd H h.objs.size (FnO h.objs.size F)
theorem fnH_old {h : Heap} {F : NF} (fresh : H h.objs.size = none) {b : Addr} {o : HO} (e : H b = some o) : fnH H h F b = some o := (upd_ne (ne_of_none e fresh)).trans e
section
variable {c P : Addr} {q name : Str} {params : Arguments} {body : List Stmt} {scope : Scope} {pos : Pos} {E : Value → Shared → Prop} {Q : Value → Shared → Prop}
theorem made_hit {F : NF} {h : Heap} (fresh : H h.objs.size = none) (tab : Gx.TabX H P) (code : H F.c = some (CodeO F.c q)) : Made P q H (fnH H h F) h.objs.size F.c F where
  keep _ _ _ e := fnH_old fresh e
  dom _ e := upd_none e
  tab := Gx.TabX.ext tab (fun _ e => fnH_old fresh e) fun _ _ e => fnH_old fresh e
  new := fresh
  fn := upd_same
  cod := fnH_old fresh code
theorem made_new {F : NF} {h : Heap} {ps : Array Value} (tbl : H P = some (.tbl ps)) (three : TriplesOk ps.toList) (all : ∀ (p : Pos) (cv : Value) (r : Str), Gx.nstPos p.line p.col = some r → codeAmong p ps.toList = some cv → ∃ d, cv = .ref d ∧ H d = some (CodeO d r))
    (nc : H F.c = none) (lt : F.c < h.objs.size) (nf : H h.objs.size = none) (nP : P ≠ h.objs.size) (here : Gx.nstPos pos.line pos.col = some q) :
    Made P q H (fnH (L2.upd (L2.upd H P (.tbl (ps ++ #[rawInt pos.line, rawInt pos.col, .ref F.c]))) F.c (CodeO F.c q)) h F) h.objs.size F.c F := by
  have cP : P ≠ F.c := fun z => by rw [z, nc] at tbl; cases tbl
  have fresh : L2.upd (L2.upd H P (.tbl (ps ++ #[rawInt pos.line, rawInt pos.col, .ref F.c]))) F.c (CodeO F.c q) h.objs.size = none := by
    rw [upd_ne (Nat.ne_of_gt lt), upd_ne (Ne.symm nP)]; exact nf
  have old : ∀ b o, b ≠ P → H b = some o → fnH (L2.upd (L2.upd H P (.tbl (ps ++ #[rawInt pos.line, rawInt pos.col, .ref F.c]))) F.c (CodeO F.c q)) h F b = some o := fun b o ne e =>
    fnH_old fresh (by rw [upd_ne (ne_of_none e nc), upd_ne ne]; exact e)
  have code : fnH (L2.upd (L2.upd H P (.tbl (ps ++ #[rawInt pos.line, rawInt pos.col, .ref F.c]))) F.c (CodeO F.c q)) h F F.c = some (CodeO F.c q) := fnH_old fresh upd_same
  have longer : (ps ++ #[rawInt pos.line, rawInt pos.col, .ref F.c]).toList = ps.toList ++ [rawInt pos.line, rawInt pos.col, .ref F.c] := by rw [Array.toList_append]
  refine ⟨old, fun b e => upd_none (upd_none (upd_none e)), ⟨_, fnH_old fresh ((upd_ne cP).trans upd_same), ?_, ?_⟩, nf, upd_same, code⟩
  · rw [longer]
    exact PySem.TriplesOk_snoc _ _ _ _ three
  · intro p cv r known found
    rw [longer] at found
    rcases among_app2 ps.toList three found with was | ⟨isNew, l1, l2⟩
    · obtain ⟨d, e, at_⟩ := all p cv r known was
      refine ⟨d, e, old d _ (fun z => ?_) at_⟩
      rw [z, tbl] at at_
      exact codeO_ne ps (Option.some.inj at_).symm
    · have : q = r := by
        rw [← l1, ← l2, here] at known
        exact Option.some.inj known
      exact ⟨F.c, isNew, this ▸ code⟩
theorem ndef_one (I : Inv X pins σ H s) (TB : LamX.TabB X.base X.mg c P) (hcode : X.env.code = .ref c) (hn : q = X.env.qual ++ name) (hpos : Gx.nstPos pos.line pos.col = some q) (hT : Gx.TabX H P) (hfree : ∀ y ∈ scope.names, y.2 = .free → ∃ c, X.env.cells.lookup y.1 = some c)
    (next : ∀ (f c' : Addr) (H1 : Hp) (s' : Shared), Inv X pins σ H1 s' → Made P q H H1 f c' ⟨name, X.env.qual ++ name, params, body, scope, cloFrom X.env.cells scope.names [], c'⟩ → Q (.ref f) s') :
    wpAny (model X.prog X.w) X.A (makeFunction name (X.env.qual ++ name) params (.stmts body) scope X.env [] [] [] pos pos.line) Q E s := by
  have tab := hT
  obtain ⟨ps, tbl, three, all⟩ := hT
  have glob := I.mod.glob.keeps I.bk
  have codeAt := TB.code.keeps I.bk
  have blt := TB.bm.keeps I.bk
  have there := I.hok P _ tbl
  cases known : codeAmong pos ps.toList with
  | some cv =>
    obtain ⟨d, rfl, at_⟩ := all pos cv q hpos known
    apply PySem.W.makeFunction_hit (closure_ok hfree) I.ok.glob glob hcode codeAt there three known blt
    intro ctv doc h' tk kept _
    have J := I.kept (t' := tk) kept
    have fresh := J.hok.fresh (Nat.le_refl _)
    exact next _ d _ _ (inv_fn J rfl) (made_hit (F := ⟨name, X.env.qual ++ name, params, body, scope, cloFrom X.env.cells scope.names [], d⟩) fresh tab at_)
  | none =>
    apply PySem.W.makeFunction_K (closure_ok hfree) I.ok.glob glob hcode codeAt there three known TB.gP blt
    rintro d ctv doc h' tk kept big less ⟨d', oc, vs, t, same, hoc, hd, hv⟩ grown
    obtain rfl : d = d' := Value.ref.inj same
    rw [← hn] at hv
    have J := inv_table (t' := tk) (more := #[rawInt pos.line, rawInt pos.col, .ref d]) (h' := h') I tbl kept grown big ⟨oc, vs, t, hoc, hd, hv⟩
    have nd : H d = none := I.hok.fresh big
    have nf : H h'.objs.size = none := I.hok.fresh (Nat.le_of_lt (Nat.lt_of_le_of_lt big less))
    exact next _ d _ _ (inv_fn J rfl) (made_new (F := ⟨name, X.env.qual ++ name, params, body, scope, cloFrom X.env.cells scope.names [], d⟩) tbl three all nd less nf (ne_of_none tbl nf) hpos)
end
def tNdefX (P : Addr) (q : Str) (i : Nat) (mk : Addr → NF) : TS := fun D σ H => Gx.TabX H P ∧ ∀ (f c' : Addr) (H1 : Hp), Made P q H H1 f c' (mk c') → D.nx (σ.set i (some (.ref f))) H1
theorem ps_ndefX {c P : Addr} {q name : Str} {params : Arguments} {body : List Stmt} {scope : Scope} {pos : Pos} {i : Nat} (TB : LamX.TabB X.base X.mg c P) (hcode : X.env.code = .ref c) (hn : q = X.env.qual ++ name) (hpos : Gx.nstPos pos.line pos.col = some q)
    (fre : ∀ y ∈ scope.names, y.2 = .free → X.env.scope.names.lookup y.1 = some .cell ∨ X.env.scope.names.lookup y.1 = some .free) (d0 : params.defaults = []) (k0 : params.kw_defaults = []) (ann : annTrees params none X.env = [])
    (nd : X.N.Nodup) (at_ : X.N[i]? = some name) (loc : Loc X.env.scope name) (kind : X.fn name = true ∨ X.env.scope.names.lookup name = some .local) :
    PS X (.FunctionDef name params body [] none [] scope none name pos) (tNdefX P q i fun c' => ⟨name, X.env.qual ++ name, params, body, scope, cloFrom X.env.cells scope.names [], c'⟩) := by
  constructor
  rintro pins s σ H D I ⟨tab, go⟩
  apply PySem.W.nestDef_K d0 k0 ann
  have qn : qualnameIn X.env name name = X.env.qual ++ name := by
    unfold qualnameIn
    have no : X.env.kindOf name ≠ some .globalExplicit := fun z => by
      rcases loc with e | e <;> exact absurd (e.symm.trans z) (by decide)
    rw [beq_eq_false_iff_ne.mpr no]
    rfl
  rw [qn]
  apply ndef_one I TB hcode hn hpos tab
  · intro y m e
    rcases fre y m e with z | z
    · exact I.ok.has _ (.inl z)
    · exact I.ok.has _ (.inr z)
  · intro f d H1 s' J made
    exact store_ok J nd at_ loc (v := .ref f) rfl (fun _ J' => ⟨_, H1, J', go f d H1 made⟩) kind
end
/-! ### objects of different kinds -/
theorem heap_with (a : Addr) (o : Obj) (hf : o.isFreed = false) : ∃ h : Heap, h.get? a = some o := by
  refine ⟨⟨Array.replicate (a + 1) o, {}⟩, ?_⟩
  unfold Heap.get?
  have : (Array.replicate (a + 1) o)[a]? = some o := by simp
  simp only [this]
  rcases o with ⟨c, d, dt, sl⟩
  cases dt <;> first | rfl | (simp [Obj.isFreed] at hf)
def codeOb (q : Str) : Obj := { cls := .type "code", data := .fields #[.none, .str q 0] }
theorem code_not {c : Addr} {q : Str} {φ : Heap → Prop} (h : ∀ g : Heap, g.get? c = some (codeOb q) → ¬ φ g) : HO.ext φ ≠ CodeO c q := fun e => by
  obtain ⟨g, hg⟩ := heap_with c (codeOb q) rfl
  unfold CodeO at e
  have e := HO.ext.inj e
  have : φ g := by rw [e]; exact ⟨_, _, 0, hg, rfl, rfl⟩
  exact h g hg this
theorem set_ne_code {w : World} {a : Addr} {L : Mem} {q : Str} : SetNO w a L ≠ CodeO a q := code_not fun g hg h => by
  obtain ⟨⟨o, es, ep, t, h1, h2, h3, _⟩, _⟩ := h
  rw [hg] at h1
  cases h1
  cases h3
theorem dct_ne_code {w : World} {a : Addr} {xs : List Ent} {q : Str} : DctNO w a xs ≠ CodeO a q := code_not fun g hg h => by
  obtain ⟨⟨ys, r, o, es, ep, h1, h2, h3, _⟩, _⟩ := h
  rw [hg] at h1
  cases h1
  cases h3
def fnOb (F : NF) : Obj := { cls := .type "function", data := .func (F.fd .none .none .none) }
theorem fn_not {f : Addr} {F : NF} {φ : Heap → Prop} (h : ∀ g : Heap, g.get? f = some (fnOb F) → ¬ φ g) : HO.ext φ ≠ FnO f F := fun e => by
  obtain ⟨g, hg⟩ := heap_with f (fnOb F) rfl
  unfold FnO at e
  have e := HO.ext.inj e
  have : φ g := by rw [e]; exact ⟨_, _, .none, .none, .none, hg⟩
  exact h g hg this
theorem set_ne_fn {w : World} {a : Addr} {L : Mem} {F : NF} : SetNO w a L ≠ FnO a F := fn_not fun g hg h => by
  obtain ⟨⟨o, es, ep, t, h1, h2, h3, _⟩, _⟩ := h
  rw [hg] at h1
  cases h1
  cases h3
theorem dct_ne_fn {w : World} {a : Addr} {xs : List Ent} {F : NF} : DctNO w a xs ≠ FnO a F := fn_not fun g hg h => by
  obtain ⟨⟨ys, r, o, es, ep, h1, h2, h3, _⟩, _⟩ := h
  rw [hg] at h1
  cases h1
  cases h3
end Sx

set_option Elab.async false
set_option linter.all false
set_option maxRecDepth 100000
set_option maxHeartbeats 4000000
/-! Sx7: enumerate of a list or a tuple. -/
namespace Sx
open PySem PySem.Spec PyProof.Rows L2
theorem meets_enum1 {v : Value} {ob : Obj} {Hc : Heap → Prop} (Bg : Begins v ob Hc) :
    Meets (Builtin.«enumerate.__new__» ⟨[.type "enumerate", v], []⟩) (fun _ R s => Hc s.heap ∧
      R (.ok (.ret (.ref (s.heap.push ob).objs.size))) { s with heap := (s.heap.push ob).push { cls := .type "enumerate", data := .fields #[.none, .bool false, .ref s.heap.objs.size, rawInt 0, .none, .none] } }) :=
  .of_wp fun prog w Ar Rr s y => by
    obtain ⟨h0, g0, d0, t0, o0⟩ := s
    obtain ⟨y1, y2⟩ := y
    have se := sub_enumerate
    have st : ∀ {A' : Around} {E : Value → Shared → Prop} {Q : Value → Shared → Prop}, Q (.ref h0.objs.size) ⟨h0.push ob, g0, d0, t0, o0⟩ → wpAny (model prog w) A' (pyIter v) Q E ⟨h0, g0, d0, t0, o0⟩ :=
      fun q => Bg.iter prog w _ _ ⟨h0, g0, d0, t0, o0⟩ _ y1 q
    wp_walk using st
    refine wpAny_stack_any fun _ => wpAny_pure ?_
    split
    · rename_i cl _ _ _ _ _
      cases (cl == Value.type "enumerate") <;> (wp_walk using st) <;> exact ⟨_, rfl, y2⟩
    · wp_walk using st
      exact ⟨_, rfl, y2⟩
section
variable {prog : Program} {w : World} {A : Around} {E : Value → Shared → Prop} {s : Shared}
theorem enum_begins1 {v : Value} {ob : Obj} {Hc : Heap → Prop} {Q : Value → Shared → Prop} (Bg : Begins v ob Hc) (y1 : Hc s.heap)
    (y : ∀ h', IsEnum h' (s.heap.objs.size + 1) s.heap.objs.size 0 .none → h'.get? s.heap.objs.size = some ob → h'.objs.size = s.heap.objs.size + 2 →
      (∀ b o, s.heap.get? b = some o → h'.get? b = some o) → Q (.ref (s.heap.objs.size + 1)) { s with heap := h' }) :
    wpAny (model prog w) A (call (.type "enumerate") [v]) Q E s := by
  refine callType_new F.called_enumerate (by decide) (F.typeCall_enumerate_1 _) (F.newCall_enumerate_1 _) (fun ob2 => F.args_object_init_2 ob2 _) F.entry_enumerate_new
    (meets_enum1 Bg) ⟨y1, ?_⟩
  have zs : (s.heap.push ob).objs.size = s.heap.objs.size + 1 := Heap.size_push ..
  show _ ∧ _
  rw [zs]
  have hE : IsEnum ((s.heap.push ob).push { cls := .type "enumerate", data := .fields #[.none, .bool false, .ref s.heap.objs.size, rawInt 0, .none, .none] }) (s.heap.objs.size + 1) s.heap.objs.size 0 .none := by
    have q := Heap.get?_push_size (s.heap.push ob) (o := { cls := .type "enumerate", data := .fields #[.none, .bool false, .ref s.heap.objs.size, rawInt 0, .none, .none] }) rfl
    rw [zs] at q
    exact q
  exact ⟨⟨_, hE, rfl⟩, y _ hE (Heap.get?_push_of_some _ (Heap.get?_push_size _ Bg.free)) (by rw [Heap.size_push, zs]) fun b o x => Heap.get?_push_of_some _ (Heap.get?_push_of_some _ x)⟩
end
def IteB (K : PySem.W.Frag) (k : Bool) (a : Addr) : It :=
  ⟨fun i H => ∃ (xs : List V) (x : V), SqB K k H a xs ∧ xs[i]? = some x,
    fun i H v H' => ∃ T x, v = .ref T ∧ H T = none ∧ H' = L2.upd H T (.tup [.int (i : Nat), x]) ∧ ∀ xs, SqB K k H a xs → xs[i]? = some x,
    fun i H => ∃ xs : List V, SqB K k H a xs ∧ i = xs.length⟩
theorem turn_enumB {P : Program} {w : World} {K : PySem.W.Frag} {elts : List Expr} {kk : Nat} {tpos : Pos} {k : Bool} {a e it : Addr} (n1 : a ≠ it) (n2 : e ≠ it) (n3 : e ≠ a) :
    Turn P w K (.Tuple elts kk tpos) (IteB K k a) [e, it] e (fun i h => (∃ old, IsEnum h e it ((i : Nat) : Int) old) ∧ ItB k it a i h) where
  mem := by simp
  obj := fun i h st c hc => by
    obtain ⟨⟨old, hz⟩, h1⟩ := st
    have e' : c = e ∨ c = it := by simpa using hc
    rcases e' with q | q
    · rw [q]; exact ⟨_, hz, fun v q => nomatch q⟩
    · rw [q]; exact h1.ob
  keep := fun i h h' st k' => by
    obtain ⟨⟨old, hz⟩, h1⟩ := st
    exact ⟨⟨old, k' e (by simp) _ hz⟩, h1.at fun o q => k' it (by simp) o q⟩
  item := by
    intro X hP hw hK hc i pins s σ H E I hf st hg
    subst hP hw hK
    obtain ⟨⟨old, hz⟩, h1⟩ := st
    obtain ⟨xs, x, hqx, hx⟩ := hg
    obtain ⟨its, rv, p, _⟩ := sqB_at I hqx
    obtain ⟨u, hu, ru⟩ := rv.get hx
    have hzl : e < s.heap.objs.size := Heap.lt_size hz
    have hil : it < s.heap.objs.size := by obtain ⟨_, q, _⟩ := h1.ob; exact Heap.lt_size q
    have hh : X.A.in1.handled = none := I.ok.hd hc
    have l1 : i < its.toArray.size := by
      have := (List.getElem?_eq_some_iff.mp hu).1
      simpa using this
    refine wpAny_pyNext_enum_itemD (drawsB hh k it a n1 its.toArray) hz (stB.mpr ⟨h1, p⟩) l1 n2 (by simp [n2, n3]) fun x1 h' tk y1 z' s1' hT hsz hk => ?_
    have e1 : x1 = u := by
      have := y1.symm.trans (show its.toArray[i]? = some u by simpa using hu)
      exact Option.some.inj this
    subst e1
    have h1' := (stB.mp s1').1
    refine ⟨_, rfl, wpAny_letOwnedTupleGo_enum (s := { s with heap := h', toks := tk + 1 }) z' fun h'' z'' sb => ?_⟩
    have hT2 : h''.get? s.heap.objs.size = some { cls := .type "tuple", data := .seq #[.int i tk, x1] } := (sb.2 _ (Nat.ne_of_gt hzl)).trans hT
    have new : ObjOk X.prog X.w (L2.upd H s.heap.objs.size (.tup [.int (i : Nat), x])) h'' s.heap.objs.size (.tup [.int (i : Nat), x]) :=
      ⟨by show 2 ≤ sizeLine; decide, [.int i tk, x1], .cons ⟨_, rfl⟩ (.cons ru .nil), ⟨_, hT2, rfl, _, rfl⟩⟩
    have I1 : Inv X pins σ (L2.upd H s.heap.objs.size (.tup [.int (i : Nat), x])) { s with heap := h'', toks := tk + 1 } :=
      I.turnedNew (t' := tk + 1) (ch := [e, it]) (fun c o hb q => (sb.2 c (fun q' => hb (by simp [q']))).trans (hk c o (fun q' => hb (by simp [q'])) (fun q' => hb (by simp [q'])) q)) hf (Nat.le_refl _) new
    refine ⟨.ref s.heap.objs.size, _, I1, rfl, ⟨_, x, rfl, I.hok.fresh (Nat.le_refl _), rfl, fun l hl => by rw [sqB_inj I hl hqx]; exact hx⟩, ⟨⟨x1, ?_⟩, ?_⟩, fun c hcm => ?_⟩
    · have e1 : ((i + 1 : Nat) : Int) = (i : Int) + 1 := by omega
      rw [e1]
      exact z''
    · exact h1'.at fun o q => (sb.2 _ (Ne.symm n2)).trans q
    · have hlt : c < s.heap.objs.size := by
        have e' : c = e ∨ c = it := by simpa using hcm
        rcases e' with q | q
        · rw [q]; exact hzl
        · rw [q]; exact hil
      rw [upd_ne (Nat.ne_of_lt hlt)]
      exact (hf c hcm).1
  done := by
    intro X hP hw hK hc i pins s σ H E I hf st hg
    subst hP hw hK
    obtain ⟨⟨old, hz⟩, h1⟩ := st
    obtain ⟨xs, hqx, hend⟩ := hg
    obtain ⟨its, rv, p, _⟩ := sqB_at I hqx
    have l1 := rv.length
    have hh : X.A.in1.handled = none := I.ok.hd hc
    have s1 : its.toArray.size = its.length := by simp
    have en : i = its.toArray.size := by omega
    have st1 : StB k it a its.toArray its.toArray.size s.heap := by rw [← en]; exact stB.mpr ⟨h1, p⟩
    obtain ⟨f0, f1, f2, f3, f4, f5⟩ := hf it (by simp)
    exact wpAny_pyNext_enum_endD (drawsB hh k it a n1 its.toArray) hz st1 fun h' hk => ⟨rfl, I.turned (t' := s.toks) (fun c o hb q => hk c o hb q) f0 f1 f3 f4 f5⟩
  self := fun A i s Q E st h => by
    obtain ⟨⟨_, hz⟩, _⟩ := st
    exact wpAny_pyIter_enum hz h
def iEnumB (K : PySem.W.Frag) (ta : TA) : TI := fun σ H R => ta σ H fun vs H1 => ∃ a xs k, vs = [.ref a] ∧ SqB K k H1 a xs ∧ R (IteB K k a) H1
theorem pi_enumB {X : Cx} {e : Expr} {ta : TA} {p pos tpos : Pos} {elts : List Expr} {kk : Nat} (hg : Gl X "enumerate") (hm : X.mg "enumerate" = none) (ha : PA X [e] ta)
    (hs : starEach [e] X.env = (false, eval e X.env) :: starEach [] X.env := by rfl) :
    PI X (.Tuple elts kk tpos) (.Call (.Name "enumerate" p) [e] [] pos) (iEnumB X.K ta) := by
  refine ⟨fun pins s σ H R I h => ?_⟩
  refine Call_ (ld_blt I hg hm boot_enumerate (PyProof.Rows.callWith_type1 (thn (ha.run pos pins s σ H _ I h) fun us s1 ⟨vs, H1, I1, r1, q1⟩ => ?_) hs rfl))
  obtain ⟨a, xs, k, ex, hqx, q⟩ := q1
  subst ex
  cases r1 with
  | cons r rr =>
    cases rr
    cases r
    obtain ⟨its, rv, p1, o1, g1⟩ := sqB_at I1 hqx
    have la := Heap.lt_size g1
    refine enum_begins1 (beginsB k a its.toArray) p1 fun h' hz e1 hsz hk => wpAny_pyIter_enum hz ?_
    have I2 : Inv X pins σ H1 { s1 with heap := h' } := I1.kept (t' := s1.toks) hk
    refine ⟨s1.heap.objs.size + 1, [s1.heap.objs.size + 1, s1.heap.objs.size], _, _, H1, rfl, I2, turn_enumB (k := k) (Nat.ne_of_lt la) (Nat.succ_ne_self _) (Nat.ne_of_gt (Nat.lt_succ_of_lt la)), ⟨⟨.none, hz⟩, itB_new e1⟩, fun c hcm => ?_, q⟩
    have hle : s1.heap.objs.size ≤ c := by
      simp only [List.mem_cons, List.not_mem_nil, or_false] at hcm
      rcases hcm with q | q <;> rw [q] <;> first | exact Nat.le_refl _ | exact Nat.le_add_right _ _
    exact I1.fpOk hle (I1.hok.fresh hle)
end Sx

set_option Elab.async false
set_option linter.all false
set_option maxRecDepth 100000
/-! Gk: a key seen from any block; a store into a dict of nested tuples. -/
namespace Gx
open PySem PySem.Spec PyProof.Rows L2 Sx
section
variable {X : Cx} {pins : List (Addr × Obj)} {σ : L2.St} {H : Hp} {s : Shared} {E : Value → Shared → Prop} {Q : Unit → Shared → Prop} {D b : Addr} {xs : List Ent} {k : NestedKey} {v : V} {r : Value}
def KB (X : Cx) (H : Hp) (b : Addr) (k : NestedKey) : Prop := ∀ (s : Shared) (H0 : Hp) (scope : Scope) (ce : Env) (fp : List Addr), KA (X.blk s H0 scope ce fp) H b k
theorem dn_set (room : X.A.units + 65 < cLine) (I : Inv X pins σ H s) (at_ : H D = some (DctNO X.w D xs)) (key : KA X H b k) (keys : ∀ x ∈ xs, KA X H x.2.1 x.1) (few : xs.length < sizeLine) (rv : L2.RelV v r)
    (next : ∀ s', Inv X pins σ (L2.upd H D (DctNO X.w D (setX xs k b v))) s' → Q () s') : wpAny (model X.prog X.w) X.A (dictSet D (.ref b) r) Q E s := by
  obtain ⟨laid, paired, isDict, size, apart⟩ := dctNO_at I at_ keys
  have grown := setX_len xs k b v
  have room' := room0 room
  have short : laid.length ≤ sizeLine := paired_len paired ▸ size
  apply wpAny_dictSet_heap (hsz := short) room' (key pins σ s I) isDict
  intro heap isDict' same
  have whole : DctN0 X.w heap D (setX xs k b v) := dctNO_of (paired_set paired rv) isDict' (by omega) apart
  refine next _ (d_write I (at_ ▸ True.intro) same ?_ (dctNO_ok whole))
  obtain ⟨o, _, _, there, _⟩ := isDict'
  exact ⟨o, there⟩
end
end Gx

set_option Elab.async false
set_option linter.all false
set_option maxRecDepth 100000
/-! Cb0: a comprehension's block, once for all kinds: entry, one turn, way out. -/
namespace Cb
open PySem PySem.Spec PyProof.Rows L2 Sx
section
variable {X : Cx} {pins : List (Addr × Obj)} {σ τ : L2.St} {H H' : Hp} {s s' : Shared} {scope : Scope} {own : List (Str × Nat)} {fp : List Addr}
abbrev envIn (X : Cx) (scope : Scope) (s : Shared) : Env := compEnvC scope (cellsFrom (s.heap.objs.size + 1) scope.names (cloFrom X.env.cells scope.names [])) s.heap.objs.size X.env
abbrev stIn (scope : Scope) (s : Shared) : Shared := { s with heap := pushCells (s.heap.push ⟨.type "dict", none, .dict #[] 0, #[]⟩) scope.names }
abbrev cxIn (X : Cx) (scope : Scope) (fp : List Addr) (s : Shared) (H : Hp) : Cx := X.blk s H scope (envIn X scope s) fp
theorem in_kept {b : Addr} {o : Obj} (e : s.heap.get? b = some o) : (stIn scope s).heap.get? b = some o := pushCells_keeps _ _ _ _ (Heap.get?_push_of_some _ e)
theorem clo_ok (I : Inv X pins σ H s) (ok : BlkOk X.N X.env.scope scope own) : closureFor scope X.env = pure (cloFrom X.env.cells scope.names []) :=
  closure_ok fun y m e => match ok.free y m e with
    | .inl z => I.ok.has _ (.inl z)
    | .inr z => I.ok.has _ (.inr z)
theorem fp_in (J : Inv (cxIn X scope fp s H) [] τ H' s') (n : ∀ b ∈ fp, H' b = none) : ∀ b ∈ fp, FpOk (cxIn X scope fp s H) [] H' b := by
  intro b m
  have a := J.ok.exf b m
  refine ⟨n b m, a.1, J.ok.exfs b m, Or.inl m, fun x c => a.2 x c, ?_⟩
  intro p hp
  rw [List.append_nil] at hp
  cases hp
theorem way_out (I : Inv X pins σ H s) (f : ∀ b ∈ fp, FpOk X pins H b ∧ b < s.heap.objs.size) (J : Inv (cxIn X scope fp s H) [] τ H' s') : Inv X pins σ H' s' ∧ ∃ m, s'.heap.Ns s.heap.objs.size m ∧ FpOk X pins H' s.heap.objs.size := by
  obtain ⟨m, a, _⟩ := J.loc
  have k : H' s.heap.objs.size = none := J.free
  exact ⟨I.call' (ch := fp) J.os J.base J.hok J.bare fun b m => by
    obtain ⟨⟨_, f1, _, f3, f4, f5⟩, _⟩ := f b m
    exact ⟨f3, f1, f4, f5⟩, m, a, I.fpOk (Nat.le_refl _) k⟩
theorem let_go {C : Addr} {h' : Heap} (I : Inv X pins σ H s) (f : FpOk X pins H C) (sb : Heap.SameBut C s.heap h') : Inv X pins σ H { s with heap := h' } :=
  I.turned (t' := s.toks) (fun b o hb e => (sb.2 b hb).trans e) f.1 f.2.1 f.2.2.2.1 f.2.2.2.2.1 f.2.2.2.2.2
theorem named {C M : Addr} {i : Nat} {y : Str} {py : Pos} {m : Str → Option Value} {A : Around} {E : Value → Shared → Prop} {R : Shared → Prop} (I : Inv X pins σ H s) (hN : X.N.Nodup) (hy : X.N[i]? = some y) (hl : X.env.scope.names.lookup y = some .local) (n : s.heap.Ns C m) (f : FpOk X pins H C)
    (k : ∀ s2, Inv X pins (σ.set i (some (V.ref M))) H s2 → R s2) : wpAny (model X.prog X.w) A (assign (.Name y py) X.env (.ref M)) (fun _ s'' => ∃ m, s''.heap.Ns C m ∧ ∀ h', Heap.SameBut C s''.heap h' → R { s'' with heap := h' }) E s := by
  refine wpAny_assign_Name (store_ok2 (v := V.ref M) I hN hy (Or.inl hl) rfl ?_ (Or.inr hl))
  rintro s2 J ⟨a, sb, w⟩
  have apart : C ≠ a := fun e => match w with
    | .inl z => f.2.1 (e.trans z)
    | .inr z => f.2.2.2.2.1 y a z e.symm
  exact ⟨m, n.sameBut sb apart, fun h' sb2 => k _ (let_go J f sb2)⟩
theorem turn {B : Cx} {tg : Expr} {J : It} {it : Addr} {tn : Nat → Heap → Prop} {i : Nat} {g : TG} {vs : List Nat} {R : Shared → Prop} {E : Value → Shared → Prop} {Kt : L2.St → Hp → Prop} (hc : B.calm = true) (hx : B.xe = fun _ _ => False) (T : Turn B.prog B.w B.K tg J fp it tn)
    (f : ∀ {H' : Hp} {s' : Shared}, Inv B [] (wipe σ vs) H' s' → (∀ b ∈ fp, H' b = none) → ∀ b ∈ fp, FpOk B [] H' b) (I : Inv B [] (wipe σ vs) H s) (st : tn i s.heap) (n : ∀ b ∈ fp, H b = none) (go : J.go i H) (pg : PG B tg g)
    (k : ∀ x H', J.yld i H x H' → g x (wipe σ vs) H' fun σ2 H2 => wipe σ2 vs = wipe σ vs ∧ Kt σ2 H2)
    (fin : ∀ (pl : List (Addr × Obj)) σ2 H2 s2, Inv B pl σ2 H2 s2 → Kt σ2 H2 → (∀ H' s', Inv B pl σ2 H' s' → Inv B [] (wipe σ vs) H' s' ∧ tn (i + 1) s'.heap ∧ ∀ b ∈ fp, H' b = none) → R s2) :
    wpAny (model B.prog B.w) B.A (pyNext (.ref it)) (fun r s1 => ∃ u, r = some u ∧ wpAny (model B.prog B.w) B.A (letOwnedTupleGo tg (.ref it) u) (fun _ s2 => wpAny (model B.prog B.w) B.A (assign tg B.env u) (fun _ s3 => R s3) E s2) E s1) E s := by
  refine thnF (T.item B rfl rfl rfl hc i [] s _ H (fun _ _ => False) I (f I n) st go) ?_
  rintro r s1 ⟨u, rfl, a⟩
  refine ⟨u, rfl, thnF a ?_⟩
  rintro _ s2 ⟨x, H1, I1, rx, y, st1, n1⟩
  have P := I1.pinned (f I1 n1) (T.obj _ _ st1)
  have q := pg.run _ s2 _ H1 x u _ P rx (k x H1 y)
  rw [hx] at q
  refine thnF q ?_
  rintro _ s3 ⟨σ2, H2, I2, ew, kk⟩
  refine fin _ σ2 H2 s3 I2 kk fun H' s' I' => ?_
  have stays : ∀ b ∈ fp, ∀ o, s2.heap.get? b = some o → s'.heap.get? b = some o ∧ H' b = none := by
    intro b m o e
    have z := I'.pin (b, o) (List.mem_append_right _ (List.mem_append_right _ (mem_pinsAt m e)))
    exact ⟨z.1, z.2.1⟩
  refine ⟨Inv.weak (I'.unpinned (pins := [])) ?_ ?_, T.keep _ _ _ st1 fun b m o e => (stays b m o e).1, fun b m => ?_⟩
  · rw [← ew, wipe_length]
  · intro j v e
    rw [← ew] at e
    exact (wipe_some e).1
  · obtain ⟨o, e, _⟩ := T.obj _ _ st1 b m
    exact (stays b m o e).2
end
end Cb

set_option Elab.async false
set_option linter.all false
set_option maxRecDepth 100000
/-! Gx7: {elt for target in iter}, the elements nested tuples. -/
namespace Cb
open PySem PySem.Spec PyProof.Rows L2 Sx
section
variable {X : Cx} {pins : List (Addr × Obj)} {σ : L2.St} {H : Hp} {s : Shared} {scope : Scope} {own : List (Str × Nat)} {elt tg iter : Expr} {pos : Pos} {wi : TI} {g : TG} {te : TE}
abbrev KC (X : Cx) (H : Hp) (b : Addr) (k : NestedKey) : Prop := Gx.KB X H b k
def tSn (X : Cx) (wi : TI) (g : TG) (te : TE) (vs : List Nat) : TE := fun σ H Q => wi σ H fun J H1 => ∀ D, H1 D = none → ∃ V : Nat → Nat → Hp → Prop, (∃ m, V 0 m (L2.upd H1 D (SetNO X.w D []))) ∧
  ∀ i m H2, V i m H2 → (J.stop i H2 ∧ Q (.ref D) H2) ∨ (J.go i H2 ∧ ∀ x H3, J.yld i H2 x H3 → g x (wipe σ vs) H3 fun τ H4 => wipe τ vs = wipe σ vs ∧ te τ H4 fun y H5 =>
    ∃ (b : Addr) (k : NestedKey) (L : Mem), y = .ref b ∧ H5 D = some (SetNO X.w D L) ∧ KC X H5 b k ∧ (∀ p ∈ L, KC X H5 p.1 p.2) ∧ L.length + 1 ≤ 1000 ∧
      ∀ L' : Mem, (k ∈ L.map (·.2) → L' = L) → (k ∉ L.map (·.2) → L'.Perm ((b, k) :: L)) → ∃ m', m' < m ∧ V (i + 1) m' (L2.upd H5 D (SetNO X.w D L')))
theorem add_run {B : Cx} {D b : Addr} {k : NestedKey} {L : Mem} {Q : Shared → Prop} {E : Value → Shared → Prop} (hu : B.A.units + 65 < cLine) (I : Inv B pins σ H s) (hD : H D = some (SetNO B.w D L)) (hk : KA B H b k) (hL : ∀ p ∈ L, KA B H p.1 p.2) (few : L.length + 1 ≤ 1000)
    (q : ∀ L' : Mem, (k ∈ L.map (·.2) → L' = L) → (k ∉ L.map (·.2) → L'.Perm ((b, k) :: L)) → ∀ s', Inv B pins σ (L2.upd H D (SetNO B.w D L')) s' → Q s') : wpAny (model B.prog B.w) B.A (call (.builtin "set.add") [.ref D, .ref b]) (fun _ s' => Q s') E s := by
  obtain ⟨es, ep, t, R⟩ := setNO_at I hD hL
  refine call_add R (hk pins σ s I) (show B.A.units + 1 + 8 < cLine by omega) few fun h' L' es' ep' t' n sb R' z1 z2 => q L' z1 z2 _ ?_
  obtain ⟨o, ho, _⟩ := R'.at_
  exact I.write (e := D) (t' := n) (by rw [hD]; trivial) (Or.inl rfl) (fun b u hb hu => (sb.2 b hb).trans hu) ⟨o, ho⟩ (setNO_ok R'.sn0)
theorem pe_sn (hc : X.calm = true) (hu : X.A.units + 65 < cLine) (hN : X.N.Nodup) (hi : PI X tg iter wi) (ok : BlkOk X.N X.env.scope scope own)
    (hg : ∀ (s : Shared) (H : Hp) (C : Addr) (cl : List (Str × Addr)) (fp : List Addr), PG (X.blk s H scope (compEnvC scope cl C X.env) fp) tg g)
    (he : ∀ (s : Shared) (H : Hp) (C : Addr) (cl : List (Str × Addr)) (fp : List Addr), PE (X.blk s H scope (compEnvC scope cl C X.env) fp) elt te)
    (hs : ∀ x, foldedSetIterable iter X.env x = pure x := by intro _; rfl) : PE X (.SetComp elt [⟨tg, iter, [], 0⟩] scope pos) (tSn X wi g te (own.map (·.2))) := by
  constructor
  intro pins s σ H Q I h
  rw [PpSet.eval_SetComp]
  refine wpAny_comprehension_free (use := none) rfl hs (clo_ok I ok) ok.kind (fun y m e => (ok.uniq y m).trans (congrArg some e)) (thn (hi.run pins s σ H _ I h) fun v s1 a => thn a ?_)
  rintro _ s2 ⟨it, fp, tn, J, H2, rfl, I2, T, st2, f2, q⟩
  refine PpSet.newSet_ok (newEnv_comp ?_)
  -- the new set at D
  obtain ⟨V, ⟨m0, v0⟩, step⟩ := q s2.heap.objs.size (I2.hok.fresh (Nat.le_refl _))
  have old : ∀ b o, s2.heap.get? b = some o → (s2.heap.push { cls := .type "set", dict := none, data := .set #[] 0 (.fresh 0 0 (!X.w.params.followText "set-order")) }).get? b = some o := fun b o e => Heap.get?_push_of_some _ e
  have I3 := I2.laid (a := s2.heap.objs.size) (o := SetNO X.w s2.heap.objs.size []) (t' := s2.toks) old (Nat.le_refl _) (setNO_ok (P := X.prog) (setN_new X.w s2.heap))
  have lt : ∀ b ∈ fp, b < s2.heap.objs.size := fun b m => let ⟨_, e, _⟩ := T.obj _ _ st2 b m; Heap.lt_size e
  generalize hD : s2.heap.objs.size = D at v0 step I3 lt ⊢
  generalize ha : ({ s2 with heap := s2.heap.push { cls := .type "set", dict := none, data := .set #[] 0 (.fresh 0 0 (!X.w.params.followText "set-order")) } } : Shared) = s3 at I3 ⊢
  have hh : s3.heap = s2.heap.push { cls := .type "set", dict := none, data := .set #[] 0 (.fresh 0 0 (!X.w.params.followText "set-order")) } := by rw [← ha]
  have f3 : ∀ b ∈ fp, FpOk X pins (L2.upd H2 D (SetNO X.w D [])) b ∧ b < s3.heap.objs.size := by
    intro b m
    have l := lt b m
    refine ⟨⟨(upd_ne (Nat.ne_of_lt l)).trans (f2 b m).1, (f2 b m).2⟩, ?_⟩
    rw [hh, Heap.size_push, hD]
    exact Nat.lt_succ_of_lt l
  have J4 : Inv (cxIn X scope fp s3 (L2.upd H2 D (SetNO X.w D []))) [] (wipe σ (own.map (·.2))) (L2.upd H2 D (SetNO X.w D [])) (stIn scope s3) := block_start I3 ok hN f3
  have st4 : tn 0 (stIn scope s3).heap := T.keep _ _ _ st2 fun b _ o e => in_kept (by rw [hh]; exact old b o e)
  have n4 : ∀ b ∈ fp, (L2.upd H2 D (SetNO X.w D [])) b = none := fun b m => (f3 b m).1.1
  have cr := PpSet.codeAny_compStart_set (prog := X.prog) (w := X.w) (A := X.A) (R := compPost (model X.prog X.w) X.A X.xe none (fun v s' => ∃ x H', Inv X pins σ H' s' ∧ L2.RelV x v ∧ Q x H') (.ref D) s3.heap.objs.size) (s := stIn scope s3) (env := envIn X scope s3) (elt := elt) (target := tg) (iter := iter) (ifs := []) (rest := []) (scope := scope) (pos := pos) (it := .ref it) (acc := .ref D)
  have lp : codeAny (model X.prog X.w) X.A (.compLoop (.SetComp elt [⟨tg, iter, [], 0⟩] scope pos) 0 (.ref it) (.ref D) (envIn X scope s3)) (compPost (model X.prog X.w) X.A X.xe none (fun v s' => ∃ x H', Inv X pins σ H' s' ∧ L2.RelV x v ∧ Q x H') (.ref D) s3.heap.objs.size) (stIn scope s3) := by
    refine PpSet.compLoopS_any (fun m s' => ∃ i H', Inv (cxIn X scope fp s3 (L2.upd H2 D (SetNO X.w D []))) [] (wipe σ (own.map (·.2))) H' s' ∧ tn i s'.heap ∧ (∀ b ∈ fp, H' b = none) ∧ V i m H') ?_ m0 ⟨0, _, J4, st4, n4, v0⟩
    rintro m s5 ⟨i, H5, J5, st5, n5, v5⟩
    rcases step i m H5 v5 with ⟨sp, qq⟩ | ⟨go, yy⟩
    · refine thnF (T.done (cxIn X scope fp s3 (L2.upd H2 D (SetNO X.w D []))) rfl rfl rfl hc i [] s5 _ H5 (fun _ _ => False) J5 (fp_in J5 n5) st5 sp) ?_
      rintro _ s6 ⟨rfl, J6⟩
      obtain ⟨I7, mm, nn, f6⟩ := way_out I3 f3 J6
      refine ⟨mm, nn, fun h' sb => ⟨.ref D, H5, ?_, rfl, qq⟩⟩
      exact I7.turned (t' := s6.toks) (fun b o hb e => (sb.2 b hb).trans e) f6.1 f6.2.1 f6.2.2.2.1 f6.2.2.2.2.1 f6.2.2.2.2.2
    · have tt := turn (B := cxIn X scope fp s3 (L2.upd H2 D (SetNO X.w D []))) (R := fun s8 => wpAny (model X.prog X.w) X.A (eval elt (envIn X scope s3)) (fun x s₄ => wpAny (model X.prog X.w) X.A (call (.builtin "set.add") [.ref D, x]) (fun _ s₅ => ∃ m', m' < m ∧ ∃ i H', Inv (cxIn X scope fp s3 (L2.upd H2 D (SetNO X.w D []))) [] (wipe σ (own.map (·.2))) H' s₅ ∧ tn i s₅.heap ∧ (∀ b ∈ fp, H' b = none) ∧ V i m' H') (notedBy (model X.prog X.w) X.A (envIn X scope s3) fun e s' => compPost (model X.prog X.w) X.A X.xe none (fun v s' => ∃ x H', Inv X pins σ H' s' ∧ L2.RelV x v ∧ Q x H') (.ref D) s3.heap.objs.size (.error e) s') s₄) (notedBy (model X.prog X.w) X.A (envIn X scope s3) fun e s' => compPost (model X.prog X.w) X.A X.xe none (fun v s' => ∃ x H', Inv X pins σ H' s' ∧ L2.RelV x v ∧ Q x H') (.ref D) s3.heap.objs.size (.error e) s') s8)
        (E := notedBy (model X.prog X.w) X.A (envIn X scope s3) fun e s' => compPost (model X.prog X.w) X.A X.xe none (fun v s' => ∃ x H', Inv X pins σ H' s' ∧ L2.RelV x v ∧ Q x H') (.ref D) s3.heap.objs.size (.error e) s') hc rfl T (fun J n => fp_in J n) J5 st5 n5 go (hg s3 _ _ _ fp) yy ?_
      · refine wpAny_mono tt ?_ fun _ _ z => z
        rintro _ s6 ⟨u, rfl, a⟩
        refine wpAny_mono a (fun _ s7 b => wpAny_mono b (fun _ s8 r => ?_) fun _ _ z => z) fun _ _ z => z
        rw [List.forIn_nil]
        exact wpAny_pure r
      · intro pl σ2 H6 s8 J8 kk back
        refine thnF ((he s3 _ _ _ fp).run pl s8 σ2 H6 _ J8 kk) ?_
        rintro x s9 ⟨y, H9, J9, ry, b, k, L, rfl, hD9, hk, hL, few, q9⟩
        cases ry
        refine add_run (B := cxIn X scope fp s3 (L2.upd H2 D (SetNO X.w D []))) hu J9 hD9 (hk _ _ _ _ _) (fun p m => hL p m _ _ _ _ _) few fun L' z1 z2 s10 J10 => ?_
        obtain ⟨m', lm, v'⟩ := q9 L' z1 z2
        obtain ⟨e1, e2, e3⟩ := back _ _ J10
        exact ⟨m', lm, i + 1, _, e1, e2, e3, v'⟩
  exact cr lp (T.self X.A 0 _ _ _ st4 lp)
end
end Cb

set_option Elab.async false
set_option linter.all false
set_option maxRecDepth 100000
/-! Gx8: {k: v for target in iter}, the keys nested tuples. -/
namespace Cb
open PySem PySem.Spec PyProof.Rows L2 Sx
section
variable {X : Cx} {pins : List (Addr × Obj)} {σ : L2.St} {H : Hp} {s : Shared} {scope : Scope} {own : List (Str × Nat)} {kx vx tg iter : Expr} {pos : Pos} {wi : TI} {g : TG} {tk tv : TE}
def tDn (X : Cx) (wi : TI) (g : TG) (tk tv : TE) (vs : List Nat) : TE := fun σ H Q => wi σ H fun J H1 => ∀ D, H1 D = none → ∃ V : Nat → Nat → Hp → Prop, (∃ m, V 0 m (L2.upd H1 D (DctNO X.w D []))) ∧
  ∀ i m H2, V i m H2 → (J.stop i H2 ∧ Q (.ref D) H2) ∨ (J.go i H2 ∧ ∀ x H3, J.yld i H2 x H3 → g x (wipe σ vs) H3 fun τ H4 => wipe τ vs = wipe σ vs ∧ tk τ H4 fun y H5 => tv τ H5 fun z H6 =>
    ∃ (b : Addr) (k : NestedKey) (xs : List Ent), y = .ref b ∧ H6 D = some (DctNO X.w D xs) ∧ Gx.KB X H6 b k ∧ (∀ e ∈ xs, Gx.KB X H6 e.2.1 e.1) ∧ xs.length < sizeLine ∧ ∃ m', m' < m ∧ V (i + 1) m' (L2.upd H6 D (DctNO X.w D (setX xs k b z))))
theorem d1_core {Q : VK} {use : Option (Value → Sem Unit)} {Qf : Value → Shared → Prop} {pos' : Pos} (hc : X.calm = true) (hu : X.A.units + 65 < cLine) (hN : X.N.Nodup) (I : Inv X pins σ H s) (hi : PI X tg iter wi) (ok : BlkOk X.N X.env.scope scope own)
    (hg : ∀ (s : Shared) (H : Hp) (C : Addr) (cl : List (Str × Addr)) (fp : List Addr), PG (X.blk s H scope (compEnvC scope cl C X.env) fp) tg g)
    (hk : ∀ (s : Shared) (H : Hp) (C : Addr) (cl : List (Str × Addr)) (fp : List Addr), PE (X.blk s H scope (compEnvC scope cl C X.env) fp) kx tk)
    (he : ∀ (s : Shared) (H : Hp) (C : Addr) (cl : List (Str × Addr)) (fp : List Addr), PE (X.blk s H scope (compEnvC scope cl C X.env) fp) vx tv)
    (hs : ∀ x, foldedSetIterable iter X.env x = pure x) (h : tDn X wi g tk tv (own.map (·.2)) σ H Q)
    (fin : ∀ D C s' m H', Inv X pins σ H' s' → Q (.ref D) H' → s'.heap.Ns C m → FpOk X pins H' C → compPost (model X.prog X.w) X.A X.xe use Qf (.ref D) C (.ok .next) s') :
    wpAny (model X.prog X.w) X.A (comprehension (.DictComp kx vx [⟨tg, iter, [], 0⟩] scope pos) scope X.env pos' newDict false (eval iter X.env) use) Qf X.xe s := by
  refine wpAny_comprehension_free (use := use) rfl hs (clo_ok I ok) ok.kind (fun y m e => (ok.uniq y m).trans (congrArg some e)) (thn (hi.run pins s σ H _ I h) fun v s1 a => thn a ?_)
  rintro _ s2 ⟨it, fp, tn, J, H2, rfl, I2, T, st2, f2, q⟩
  refine wpAny_newObj_type (newEnv_comp ?_)
  -- the new dict at D
  obtain ⟨V, ⟨m0, v0⟩, step⟩ := q s2.heap.objs.size (I2.hok.fresh (Nat.le_refl _))
  have old : ∀ b o, s2.heap.get? b = some o → (s2.heap.push { cls := .type "dict", data := .dict #[] }).get? b = some o := fun b o e => Heap.get?_push_of_some _ e
  have I3 := I2.laid (a := s2.heap.objs.size) (o := DctNO X.w s2.heap.objs.size []) (t' := s2.toks) old (Nat.le_refl _) (dctNO_ok (dctN_new (P := X.prog) s2.heap I2.big))
  have lt : ∀ b ∈ fp, b < s2.heap.objs.size := fun b m => let ⟨_, e, _⟩ := T.obj _ _ st2 b m; Heap.lt_size e
  generalize hD : s2.heap.objs.size = D at v0 step I3 lt ⊢
  generalize ha : ({ s2 with heap := s2.heap.push { cls := .type "dict", data := .dict #[] } } : Shared) = s3 at I3 ⊢
  have hh : s3.heap = s2.heap.push { cls := .type "dict", data := .dict #[] } := by rw [← ha]
  have f3 : ∀ b ∈ fp, FpOk X pins (L2.upd H2 D (DctNO X.w D [])) b ∧ b < s3.heap.objs.size := by
    intro b m
    have l := lt b m
    refine ⟨⟨(upd_ne (Nat.ne_of_lt l)).trans (f2 b m).1, (f2 b m).2⟩, ?_⟩
    rw [hh, Heap.size_push, hD]
    exact Nat.lt_succ_of_lt l
  have J4 : Inv (cxIn X scope fp s3 (L2.upd H2 D (DctNO X.w D []))) [] (wipe σ (own.map (·.2))) (L2.upd H2 D (DctNO X.w D [])) (stIn scope s3) := block_start I3 ok hN f3
  have st4 : tn 0 (stIn scope s3).heap := T.keep _ _ _ st2 fun b _ o e => in_kept (by rw [hh]; exact old b o e)
  have n4 : ∀ b ∈ fp, (L2.upd H2 D (DctNO X.w D [])) b = none := fun b m => (f3 b m).1.1
  have cr := codeAny_compStart_dict (prog := X.prog) (w := X.w) (A := X.A) (R := compPost (model X.prog X.w) X.A X.xe use Qf (.ref D) s3.heap.objs.size) (s := stIn scope s3) (env := envIn X scope s3) (kx := kx) (vx := vx) (target := tg) (iter := iter) (ifs := []) (rest := []) (scope := scope) (pos := pos) (it := .ref it) (acc := .ref D)
  have lp : codeAny (model X.prog X.w) X.A (.compLoop (.DictComp kx vx [⟨tg, iter, [], 0⟩] scope pos) 0 (.ref it) (.ref D) (envIn X scope s3)) (compPost (model X.prog X.w) X.A X.xe use Qf (.ref D) s3.heap.objs.size) (stIn scope s3) := by
    refine compLoop_anyD (fun m s' => ∃ i H', Inv (cxIn X scope fp s3 (L2.upd H2 D (DctNO X.w D []))) [] (wipe σ (own.map (·.2))) H' s' ∧ tn i s'.heap ∧ (∀ b ∈ fp, H' b = none) ∧ V i m H') ?_ m0 ⟨0, _, J4, st4, n4, v0⟩
    rintro m s5 ⟨i, H5, J5, st5, n5, v5⟩
    rcases step i m H5 v5 with ⟨sp, qq⟩ | ⟨go, yy⟩
    · refine thnF (T.done (cxIn X scope fp s3 (L2.upd H2 D (DctNO X.w D []))) rfl rfl rfl hc i [] s5 _ H5 (fun _ _ => False) J5 (fp_in J5 n5) st5 sp) ?_
      rintro _ s6 ⟨rfl, J6⟩
      obtain ⟨I7, mm, nn, f6⟩ := way_out I3 f3 J6
      exact fin D _ s6 mm H5 I7 qq nn f6
    · let Nt : Value → Shared → Prop := notedBy (model X.prog X.w) X.A (envIn X scope s3) fun e s' => compPost (model X.prog X.w) X.A X.xe use Qf (.ref D) s3.heap.objs.size (.error e) s'
      let Go : Shared → Prop := fun s6 => ∃ m', m' < m ∧ ∃ i H', Inv (cxIn X scope fp s3 (L2.upd H2 D (DctNO X.w D []))) [] (wipe σ (own.map (·.2))) H' s6 ∧ tn i s6.heap ∧ (∀ b ∈ fp, H' b = none) ∧ V i m' H'
      have tt := turn (B := cxIn X scope fp s3 (L2.upd H2 D (DctNO X.w D []))) (R := fun s8 => wpAny (model X.prog X.w) X.A (eval kx (envIn X scope s3)) (fun kv s4 => wpAny (model X.prog X.w) X.A (eval vx (envIn X scope s3)) (fun vv s5 => wpAny (model X.prog X.w) X.A (dictSet D kv vv) (fun _ s6 => Go s6) Nt s5) Nt s4) Nt s8) (E := Nt) hc rfl T (fun J n => fp_in J n) J5 st5 n5 go (hg s3 _ _ _ fp) yy ?_
      · refine wpAny_mono tt ?_ fun _ _ z => z
        rintro _ s6 ⟨u, rfl, a⟩
        refine wpAny_mono a (fun _ s7 b => wpAny_mono b (fun _ s8 r => ?_) fun _ _ z => z) fun _ _ z => z
        rw [List.forIn_nil]
        exact wpAny_pure r
      · intro pl σ2 H6 s8 J8 kk back
        refine thnF ((hk s3 _ _ _ fp).run pl s8 σ2 H6 _ J8 kk) ?_
        rintro x s9 ⟨y, H9, J9, ry, kv⟩
        refine thnF ((he s3 _ _ _ fp).run pl s9 σ2 H9 _ J9 kv) ?_
        rintro u s10 ⟨z, H10, J10, rz, b, k, xs, rfl, hD, hkb, hL, few, m', lm, v'⟩
        cases ry
        refine Gx.dn_set (X := cxIn X scope fp s3 (L2.upd H2 D (DctNO X.w D []))) hu J10 hD (hkb _ _ _ _ _) (fun e he => hL e he _ _ _ _ _) few rz fun s11 J11 => ?_
        obtain ⟨e1, e2, e3⟩ := back _ _ J11
        exact ⟨m', lm, i + 1, _, e1, e2, e3, v'⟩
  exact cr lp (T.self X.A 0 _ _ _ st4 lp)
theorem pe_d1 (hc : X.calm = true) (hu : X.A.units + 65 < cLine) (hN : X.N.Nodup) (hi : PI X tg iter wi) (ok : BlkOk X.N X.env.scope scope own)
    (hg : ∀ (s : Shared) (H : Hp) (C : Addr) (cl : List (Str × Addr)) (fp : List Addr), PG (X.blk s H scope (compEnvC scope cl C X.env) fp) tg g)
    (hk : ∀ (s : Shared) (H : Hp) (C : Addr) (cl : List (Str × Addr)) (fp : List Addr), PE (X.blk s H scope (compEnvC scope cl C X.env) fp) kx tk)
    (he : ∀ (s : Shared) (H : Hp) (C : Addr) (cl : List (Str × Addr)) (fp : List Addr), PE (X.blk s H scope (compEnvC scope cl C X.env) fp) vx tv)
    (hs : ∀ x, foldedSetIterable iter X.env x = pure x := by intro _; rfl) : PE X (.DictComp kx vx [⟨tg, iter, [], 0⟩] scope pos) (tDn X wi g tk tv (own.map (·.2))) := by
  constructor
  intro pins s σ H Q I h
  rw [arm_eval_DictComp]
  exact d1_core hc hu hN I hi ok hg hk he hs h fun D C s' m H' I' q n f => ⟨m, n, fun h' sb => ⟨.ref D, H', let_go I' f sb, rfl, q⟩⟩
theorem sw_dc {gs : List Comprehension} {py : Pos} {y : Str} {l : Nat} {env : Env} (a : env.scope.kind = .function) (b : env.scope.names.lookup y = some .local) (c : (py.line == pos.line) = true) (d : (scope.names.any fun (n, k) => n == y && (k == .local || k == .cell)) = false) :
    swapsWith (.DictComp kx vx gs scope pos) (some (.Name y py)) l env = pure true := by
  have b' : env.kindOf y = some .local := b
  have a' : env.blockKind = .function := by simp [Env.blockKind, a]
  simp only [swapsWith, a', b', Expr.pos, c, d]
  rfl
theorem ps_setD1 {i : Nat} {y : Str} {py spos : Pos} (hc : X.calm = true) (hu : X.A.units + 65 < cLine) (hN : X.N.Nodup) (hy : X.N[i]? = some y) (hl : X.env.scope.names.lookup y = some .local)
    (hsw : swapsWith (.DictComp kx vx [⟨tg, iter, [], 0⟩] scope pos) (some (.Name y py)) spos.line X.env = pure true) (hi : PI X tg iter wi) (ok : BlkOk X.N X.env.scope scope own)
    (hg : ∀ (s : Shared) (H : Hp) (C : Addr) (cl : List (Str × Addr)) (fp : List Addr), PG (X.blk s H scope (compEnvC scope cl C X.env) fp) tg g)
    (hk : ∀ (s : Shared) (H : Hp) (C : Addr) (cl : List (Str × Addr)) (fp : List Addr), PE (X.blk s H scope (compEnvC scope cl C X.env) fp) kx tk)
    (he : ∀ (s : Shared) (H : Hp) (C : Addr) (cl : List (Str × Addr)) (fp : List Addr), PE (X.blk s H scope (compEnvC scope cl C X.env) fp) vx tv)
    (hs : ∀ x, foldedSetIterable iter X.env x = pure x := by intro _; rfl) : PS X (.Assign [.Name y py] (.DictComp kx vx [⟨tg, iter, [], 0⟩] scope pos) spos) (tAsg (tDn X wi g tk tv (own.map (·.2))) (gName i)) := by
  constructor
  intro pins s σ H D I h
  have h : tDn X wi g tk tv (own.map (·.2)) σ H fun x H1 => D.nx (σ.set i (some x)) H1 := h
  rw [exec_Assign_Name_used _ _ _ _ hsw]
  have run := d1_core (pos := pos) (pos' := firstIterPos [⟨tg, iter, [], 0⟩] pos) (use := some (assign (.Name y py) X.env)) (Qf := fun _ s' => SP X pins D .next s') hc hu hN I hi ok hg hk he hs h fun M C s' m H' I' q n f =>
    named I' hN hy hl n f fun s2 I2 => ⟨_, H', I2, q⟩
  exact wpAny_bind (wpAny_standAt (wpAny_bind (wpAny_bind (thn run fun _ s' z => wpAny_pure (wpAny_pure z)))))
end
end Cb

set_option Elab.async false
set_option linter.all false
set_option maxRecDepth 100000
set_option maxHeartbeats 4000000
/-! Fx0: plain data D, how it lies in the abstract heap, what an expression or statement computes. -/
namespace Fx
open PySem PySem.Spec PyProof.Rows L2 Sx

inductive Oc (α : Type) where
  | st | ok (a : α) | ex (c : Str)
def bd {α β : Type} : Oc α → (α → Oc β) → Oc β
  | .st, _ => .st
  | .ok a, f => f a
  | .ex c, _ => .ex c
@[simp] theorem bd_ok {α β : Type} (a : α) (f : α → Oc β) : bd (.ok a) f = f a := id rfl
@[simp] theorem bd_st {α β : Type} (f : α → Oc β) : bd .st f = .st := id rfl
@[simp] theorem bd_ex {α β : Type} (c : Str) (f : α → Oc β) : bd (.ex c) f = .ex c := id rfl
def noex {α : Type} : Oc α → Oc α
  | .ex _ => .st
  | o => o
@[simp] theorem noex_ok {α : Type} (a : α) : noex (.ok a) = .ok a := id rfl
def chk {α : Type} (b : Bool) (o : Oc α) : Oc α := if b then o else .st
@[simp] theorem chk_true {α : Type} (o : Oc α) : chk true o = o := id rfl

inductive D where
  | non | bl (b : Bool) | int (i : Int) | str (x : Str)
  | lst (ds : List D) | tup (ds : List D) | fz (ds : List D)
  | obj (c : Str) (fs : List (Str × D))
  | ty (n : String)
  | set (ds : List D)
  | dct (ks vs : List D)
  | dks (ks : List Str) (vs : List D)
  | cch (f : List Int → Bool)
mutual
def keyN : D → Option NestedKey
  | .non => some .none
  | .bl b => some (.num (if b then 1 else 0))
  | .int i => some (.num i)
  | .str x => some (.text x)
  | .tup ds => (keyNs ds).map .tup
  | .lst _ => none
  | .fz _ => none
  | .obj _ _ => none
  | .ty _ => none
  | .set _ => none
  | .dct _ _ => none
  | .dks _ _ => none
  | .cch _ => none
def keyNs : List D → Option (List NestedKey)
  | [] => some []
  | d :: ds => match keyN d, keyNs ds with
    | some k, some ks => some (k :: ks)
    | _, _ => none
end
def depOk (ks : List NestedKey) : Prop := ∀ k ∈ ks, k.depth ≤ 8


/-! ### what stands for a memo: in G a set of numbers, in H a dict whose keys are tuples of numbers -/
def zig : Int → Nat
  | .ofNat n => 2 * n
  | .negSucc n => 2 * n + 1
theorem zig_inj {a b : Int} (h : zig a = zig b) : a = b := by
  cases a with
  | ofNat m => cases b with
    | ofNat n => simp only [zig] at h; congr 1; omega
    | negSucc n => simp only [zig] at h; omega
  | negSucc m => cases b with
    | ofNat n => simp only [zig] at h; omega
    | negSucc n => simp only [zig] at h; congr 1; omega
def codeL : List Int → Nat
  | [] => 0
  | x :: xs => 2 ^ zig x * (2 * codeL xs + 1)
theorem pow_odd_inj : ∀ (a b x y : Nat), 2 ^ a * (2 * x + 1) = 2 ^ b * (2 * y + 1) → a = b ∧ x = y
  | 0, 0, x, y, h => by simp at h; exact ⟨rfl, by omega⟩
  | 0, b + 1, x, y, h => by
    rw [Nat.pow_zero, Nat.one_mul, Nat.pow_succ, Nat.mul_right_comm] at h
    omega
  | a + 1, 0, x, y, h => by
    rw [Nat.pow_zero, Nat.one_mul, Nat.pow_succ, Nat.mul_right_comm] at h
    omega
  | a + 1, b + 1, x, y, h => by
    rw [Nat.pow_succ, Nat.pow_succ, Nat.mul_right_comm (2 ^ a), Nat.mul_right_comm (2 ^ b)] at h
    obtain ⟨e1, e2⟩ := pow_odd_inj a b x y (Nat.eq_of_mul_eq_mul_right (show 0 < 2 from Nat.zero_lt_two) h)
    exact ⟨by rw [e1], e2⟩
theorem codeL_inj : ∀ {a b : List Int}, codeL a = codeL b → a = b
  | [], [], _ => rfl
  | [], y :: ys, h => by
    have : 0 < 2 ^ zig y * (2 * codeL ys + 1) := Nat.mul_pos (Nat.pow_pos Nat.zero_lt_two) (Nat.succ_pos _)
    simp only [codeL] at h
    omega
  | x :: xs, [], h => by
    have : 0 < 2 ^ zig x * (2 * codeL xs + 1) := Nat.mul_pos (Nat.pow_pos Nat.zero_lt_two) (Nat.succ_pos _)
    simp only [codeL] at h
    omega
  | x :: xs, y :: ys, h => by
    obtain ⟨e1, e2⟩ := pow_odd_inj _ _ _ _ (show 2 ^ zig x * (2 * codeL xs + 1) = 2 ^ zig y * (2 * codeL ys + 1) from h)
    rw [zig_inj e1, codeL_inj e2]
noncomputable def memS (f : List Int → Bool) : Int → Bool := fun c => @decide (∃ ns, (codeL ns : Int) = c ∧ f ns = true) (Classical.propDecidable _)
theorem memS_at (f : List Int → Bool) (ns : List Int) : memS f (codeL ns : Int) = f ns := by
  unfold memS
  cases h : f ns with
  | true => exact @decide_eq_true _ (Classical.propDecidable _) ⟨ns, rfl, h⟩
  | false =>
    refine @decide_eq_false _ (Classical.propDecidable _) ?_
    rintro ⟨ms, e, h2⟩
    rw [codeL_inj (Int.ofNat.inj e), h] at h2
    cases h2
def subsN : List Int → List (List Int)
  | [] => [[]]
  | x :: xs => subsN xs ++ (subsN xs).map (x :: ·)
def asc8 : List (List Int) := subsN [0, 1, 2, 3, 4, 5, 6, 7]
def GoodC (S : Int → Bool) (kvs : List (List L2.Key × V)) : Prop := (kvs.map (·.1)).Nodup ∧ ∀ p ∈ kvs, ∃ ns ∈ asc8, p.1 = ns.map Sum.inl ∧ p.2 = .bl (S (codeL ns : Int))
def VOk (H : Hp) (b : Addr) : HO → Prop
  | .set S _ => ∃ kvs, H b = some (.dT kvs) ∧ GoodC S kvs
  | .lst xs => H b = some (.lst xs)
  | .tup xs => H b = some (.tup xs)
  | .dK kvs => H b = some (.dK kvs)
  | .dT kvs => False
  | .ins C dx fs => H b = some (.ins C dx fs)
  | .own x => H b = some (.own x)
  | .xd fs => H b = some (.xd fs)
  | .met f x => H b = some (.met f x)
  | .rng lo hi => H b = some (.rng lo hi)
  | .frz o u => H b = some (.frz o u)
  | .tbl ps => H b = some (.tbl ps)
  | .ext φ => H b = some (.ext φ)
def Seen (u : HO) : Prop := ∀ (H : Hp) (b : Addr), H b = some u → VOk H b u
def Vw (G H : Hp) : Prop := ∀ b u, G b = some u → VOk H b u
theorem VOk.some {H : Hp} {b : Addr} {u : HO} (h : VOk H b u) : ∃ o, H b = some o := by
  cases u <;> first | exact ⟨_, h⟩ | exact h.elim | exact ⟨_, h.choose_spec.1⟩
theorem VOk.upd {H : Hp} {a b : Addr} {u o : HO} (n : b ≠ a) (h : VOk H b u) : VOk (L2.upd H a o) b u := by
  cases u <;> first | exact h.elim | exact (upd_ne n).trans h | exact ⟨_, (upd_ne n).trans h.choose_spec.1, h.choose_spec.2⟩
theorem VOk.at' {H H' : Hp} {b : Addr} {u : HO} (e : H' b = H b) (h : VOk H b u) : VOk H' b u := by
  cases u <;> first | exact h.elim | exact e.trans h | exact ⟨_, e.trans h.choose_spec.1, h.choose_spec.2⟩
theorem VOk.ne {H : Hp} {p b : Addr} {u : HO} (h : VOk H b u) (hp : H p = none) : b ≠ p := by
  obtain ⟨o, e⟩ := h.some
  exact ne_of_none e hp
theorem Vw.free {G H : Hp} (s : Vw G H) {p : Addr} (h : H p = none) : G p = none := by
  cases e : G p with
  | none => rfl
  | some u =>
    obtain ⟨o, q⟩ := (s p u e).some
    rw [h] at q; cases q
theorem Vw.then {G H H' : Hp} (s : Vw G H) (k : Same H H') : Vw G H' := fun b u e => by
  have h := s b u e
  cases u <;> first | exact h.elim | exact k _ _ h | exact ⟨_, k _ _ h.choose_spec.1, h.choose_spec.2⟩
theorem VOk.not {H : Hp} {b : Addr} {u o : HO} (e : H b = Option.some o) (n : ∀ kvs, o ≠ .dT kvs) (h : VOk H b u) : o = u := by
  cases u with
  | set S m => obtain ⟨kvs, z, _⟩ := h; rw [e] at z; exact absurd (Option.some.inj z) (n kvs)
  | dT => exact h.elim
  | _ => rw [show H b = Option.some _ from h] at e; exact (Option.some.inj e).symm

section
variable (K : PySem.W.Frag) (mg : Str → Option Value) (ww : World)
mutual
inductive Rep (G : Hp) : V → D → Prop
  | non : Rep G .non .non
  | bl (b : Bool) : Rep G (.bl b) (.bl b)
  | int (i : Int) : Rep G (.int i) (.int i)
  | str (x : Str) : Rep G (.str x) (.str x)
  | ty (n : String) : Rep G (.ty n) (.ty n)
  | lst {a : Addr} {xs : List V} {ds : List D} : G a = some (.lst xs) → RepL G xs ds → Rep G (.ref a) (.lst ds)
  | tup {a : Addr} {xs : List V} {ds : List D} : SqT K G a xs → RepL G xs ds → Rep G (.ref a) (.tup ds)
  | fz {a : Addr} {xs : List V} {ds : List D} : SqL K G a xs → RepL G xs ds → Rep G (.ref a) (.fz ds)
  | obj {a C dx : Addr} {c : Str} {fs : List (Str × V)} {ds : List (Str × D)} : mg c = some (.ref C) → G a = some (.ins C dx fs) → RepF G fs ds → Rep G (.ref a) (.obj c ds)
  | set {a : Addr} {L M : Mem} {ds : List D} : G a = some (SetNO ww a L) → L.Perm M → RepL G (M.map fun p => .ref p.1) ds → keyNs ds = some (M.map (·.2)) → depOk (M.map (·.2)) → Rep G (.ref a) (.set ds)
  | dk {a : Addr} {kvs : List (Key × V)} {ks : List Str} {vs : List D} : G a = some (.dK kvs) → kvs.map (·.1) = ks.map Sum.inr → ks.Nodup → RepL G (kvs.map (·.2)) vs → Rep G (.ref a) (.dks ks vs)
  | cch {a : Addr} {f : List Int → Bool} : G a = some (.set (memS f) 0) → Rep G (.ref a) (.cch f)
  | dn {a : Addr} {xs : List Ent} {ds vs : List D} : G a = some (DctNO ww a xs) → RepL G (xs.map fun x => .ref x.2.1) ds → keyNs ds = some (xs.map (·.1)) → depOk (xs.map (·.1)) → RepL G (xs.map (·.2.2)) vs → Rep G (.ref a) (.dct ds vs)
inductive RepL (G : Hp) : List V → List D → Prop
  | nil : RepL G [] []
  | cons {v : V} {vs : List V} {d : D} {ds : List D} : Rep G v d → RepL G vs ds → RepL G (v :: vs) (d :: ds)
inductive RepF (G : Hp) : List (Str × V) → List (Str × D) → Prop
  | nil : RepF G [] []
  | cons {n : Str} {v : V} {vs : List (Str × V)} {d : D} {ds : List (Str × D)} : Rep G v d → RepF G vs ds → RepF G ((n, v) :: vs) ((n, d) :: ds)
end
end
variable {K : PySem.W.Frag} {mg : Str → Option Value} {ww : World}

theorem SqT.same {H H' : Hp} {a : Addr} {xs : List V} (e : Same H H') (h : SqT K H a xs) : SqT K H' a xs := by
  rcases h with (h | ⟨o, h⟩) | h
  · exact .inl (.inl (e _ _ h))
  · exact .inl (.inr ⟨o, e _ _ h⟩)
  · exact .inr h
theorem Vw.sqT {G H : Hp} {a : Addr} {xs : List V} (e : Vw G H) (h : SqT K G a xs) : SqT K H a xs := by
  rcases h with (h | ⟨o, h⟩) | h
  · exact .inl (.inl (e _ _ h))
  · exact .inl (.inr ⟨o, e _ _ h⟩)
  · exact .inr h
theorem Vw.seq {G H : Hp} {a : Addr} {xs : List V} (e : Vw G H) (h : SqL K G a xs) : SqL K H a xs := by
  rcases h with (h | ⟨o, h⟩) | h
  · exact .inl (.inl (e _ _ h))
  · exact .inl (.inr ⟨o, e _ _ h⟩)
  · exact .inr h
mutual
theorem Rep.same {G G' : Hp} (e : Same G G') : ∀ {v : V} {d : D}, Rep K mg ww G v d → Rep K mg ww G' v d
  | _, _, .non => .non
  | _, _, .bl b => .bl b
  | _, _, .int i => .int i
  | _, _, .str x => .str x
  | _, _, .ty n => .ty n
  | _, _, .lst h r => .lst (e _ _ h) (RepL.same e r)
  | _, _, .tup h r => .tup (SqT.same e h) (RepL.same e r)
  | _, _, .fz h r => .fz (e.seq h) (RepL.same e r)
  | _, _, .obj m h r => .obj m (e _ _ h) (RepF.same e r)
  | _, _, .set h p r k d => .set (e _ _ h) p (RepL.same e r) k d
  | _, _, .dk h k n r => .dk (e _ _ h) k n (RepL.same e r)
  | _, _, .dn h r k d s => .dn (e _ _ h) (RepL.same e r) k d (RepL.same e s)
  | _, _, .cch h => .cch (e _ _ h)
theorem RepL.same {G G' : Hp} (e : Same G G') : ∀ {vs : List V} {ds : List D}, RepL K mg ww G vs ds → RepL K mg ww G' vs ds
  | _, _, .nil => .nil
  | _, _, .cons r t => .cons (Rep.same e r) (RepL.same e t)
theorem RepF.same {G G' : Hp} (e : Same G G') : ∀ {vs : List (Str × V)} {ds : List (Str × D)}, RepF K mg ww G vs ds → RepF K mg ww G' vs ds
  | _, _, .nil => .nil
  | _, _, .cons r t => .cons (Rep.same e r) (RepF.same e t)
end
section
variable {G : Hp}
theorem RepL.length : ∀ {vs : List V} {ds : List D}, RepL K mg ww G vs ds → vs.length = ds.length
  | _, _, .nil => rfl
  | _, _, .cons _ t => by simp [RepL.length t]
theorem RepL.get : ∀ {vs : List V} {ds : List D} {i : Nat} {d : D}, RepL K mg ww G vs ds → ds[i]? = some d → ∃ v, vs[i]? = some v ∧ Rep K mg ww G v d
  | _, _, i, _, .nil, e => by simp at e
  | _, _, 0, _, .cons r _, e => by simp at e; subst e; exact ⟨_, rfl, r⟩
  | _, _, i + 1, d, .cons _ t, e => by
    obtain ⟨u, h1, h2⟩ := RepL.get (i := i) (d := d) t (by simpa using e)
    exact ⟨u, by simpa using h1, h2⟩
theorem RepL.getV : ∀ {vs : List V} {ds : List D} {i : Nat} {v : V}, RepL K mg ww G vs ds → vs[i]? = some v → ∃ d, ds[i]? = some d ∧ Rep K mg ww G v d
  | _, _, i, _, .nil, e => by simp at e
  | _, _, 0, _, .cons r _, e => by simp at e; subst e; exact ⟨_, rfl, r⟩
  | _, _, i + 1, d, .cons _ t, e => by
    obtain ⟨u, h1, h2⟩ := RepL.getV (i := i) (v := d) t (by simpa using e)
    exact ⟨u, by simpa using h1, h2⟩
theorem RepL.append : ∀ {xs ys : List V} {ds es : List D}, RepL K mg ww G xs ds → RepL K mg ww G ys es → RepL K mg ww G (xs ++ ys) (ds ++ es)
  | _, _, _, _, .nil, s => s
  | _, _, _, _, .cons r t, s => .cons r (RepL.append t s)
theorem RepL.take : ∀ {xs : List V} {ds : List D} (n : Nat), RepL K mg ww G xs ds → RepL K mg ww G (xs.take n) (ds.take n)
  | _, _, 0, _ => .nil
  | _, _, _ + 1, .nil => .nil
  | _, _, n + 1, .cons r t => .cons r (RepL.take n t)
theorem RepL.drop : ∀ {xs : List V} {ds : List D} (n : Nat), RepL K mg ww G xs ds → RepL K mg ww G (xs.drop n) (ds.drop n)
  | _, _, 0, r => r
  | _, _, _ + 1, .nil => .nil
  | _, _, n + 1, .cons _ t => RepL.drop n t
theorem RepL.reverse {xs : List V} {ds : List D} (h : RepL K mg ww G xs ds) : RepL K mg ww G xs.reverse ds.reverse := by
  induction xs generalizing ds with
  | nil => cases h; exact .nil
  | cons x xs ih => cases h with | cons r t => rw [List.reverse_cons, List.reverse_cons]; exact (ih t).append (.cons r .nil)
theorem RepF.look : ∀ {fs : List (Str × V)} {ds : List (Str × D)} {n : Str} {d : D}, RepF K mg ww G fs ds → ds.lookup n = some d → ∃ v, fs.lookup n = some v ∧ Rep K mg ww G v d
  | _, _, n, _, .nil, e => by simp at e
  | _, _, n, d, .cons (n := m) r t, e => by
    by_cases h : n = m
    · subst h
      simp at e
      subst e
      exact ⟨_, by simp, r⟩
    · have hb : (n == m) = false := beq_eq_false_iff_ne.mpr h
      rw [List.lookup_cons, hb] at e
      obtain ⟨v, h1, h2⟩ := RepF.look t e
      exact ⟨v, by rw [List.lookup_cons, hb]; exact h1, h2⟩
theorem RepF.length : ∀ {vs : List (Str × V)} {ds : List (Str × D)}, RepF K mg ww G vs ds → vs.length = ds.length
  | _, _, .nil => rfl
  | _, _, .cons _ t => by simp [RepF.length t]
end

/-! ### heaps: G what is visible, H all that is tracked -/
def IsTab (K : PySem.W.Frag) (P : Addr) : Prop := K.lookup P = none ∧ ∃ c, PySem.W.codeHdIn K c P = true
structure Sm (H H' : Hp) : Prop where
  ob : ∀ a o, H a = some o → (∀ ps, o ≠ .tbl ps) → (∀ kvs, o ≠ .dT kvs) → H' a = some o
  dom : ∀ a o, H a = some o → ∃ o', H' a = some o'
  tb : ∀ P, Gx.TabX H P → Gx.TabX H' P
theorem Sm.of {H H' : Hp} (s : Same H H') : Sm H H' := ⟨fun a o e _ _ => s a o e, fun a o e => ⟨o, s a o e⟩, fun P t => t.ext (fun ps e => s _ _ e) fun c q e => s _ _ e⟩
theorem Sm.refl (H : Hp) : Sm H H := .of (.refl _)
theorem Sm.trans {H H' H2 : Hp} (a : Sm H H') (b : Sm H' H2) : Sm H H2 := ⟨fun c o e n m => b.ob c o (a.ob c o e n m) n m, fun c o e => let ⟨o', e'⟩ := a.dom c o e; b.dom c o' e', fun P t => b.tb P (a.tb P t)⟩
theorem Sm.free {H H' : Hp} (a : Sm H H') {p : Addr} (h : H' p = none) : H p = none := by
  cases e : H p with
  | none => rfl
  | some o =>
    obtain ⟨o', e'⟩ := a.dom p o e
    rw [h] at e'
    cases e'
structure NotFn (H : Hp) (p : Addr) : Prop where
  tbl : ∀ ps, H p ≠ some (.tbl ps)
  cod : ∀ q, H p ≠ some (LamX.CodeO p q)
  fn : ∀ F, H p ≠ some (NdefX.FnO p F)
theorem notFn_lst {H : Hp} {p : Addr} {xs : List V} (e : H p = some (.lst xs)) : NotFn H p := ⟨fun ps z => (by rw [e] at z; cases z), fun q z => (by rw [e] at z; exact HO.noConfusion (Option.some.inj z)), fun q z => (by rw [e] at z; exact HO.noConfusion (Option.some.inj z))⟩
theorem notFn_none {H : Hp} {p : Addr} (e : H p = none) : NotFn H p := ⟨fun ps z => (by rw [e] at z; cases z), fun q z => (by rw [e] at z; cases z), fun q z => (by rw [e] at z; cases z)⟩
theorem Sm.upd {H0 H : Hp} (s : Sm H0 H) {p : Addr} {o : HO} (h : H0 p = none) (n : NotFn H p) : Sm H0 (L2.upd H p o) := by
  refine ⟨fun b u e n m => ?_, fun b u e => ?_, fun P t => ?_⟩
  · rw [upd_ne (ne_of_none e h)]; exact s.ob _ _ e n m
  · rw [upd_ne (ne_of_none e h)]; exact s.dom _ _ e
  · exact (s.tb P t).ext (fun ps e => by rw [upd_ne fun z => n.tbl ps (by rw [← z]; exact e)]; exact e) fun c q e => by rw [upd_ne fun z => n.cod q (by rw [← z]; exact e)]; exact e
def Tabs (K : PySem.W.Frag) (G H : Hp) : Prop := ∀ P, IsTab K P → Gx.TabX H P ∧ G P = none
theorem Tabs.same {G H H' : Hp} (t : Tabs K G H) (s : Same H H') : Tabs K G H' := fun P h => ⟨(t P h).1.ext (fun ps e => s _ _ e) fun c q e => s _ _ e, (t P h).2⟩
theorem Tabs.upd {G H : Hp} (t : Tabs K G H) {p : Addr} {o : HO} (n : NotFn H p) : Tabs K G (L2.upd H p o) := fun P h =>
  ⟨(t P h).1.ext (fun ps e => by rw [upd_ne fun z => n.tbl ps (by rw [← z]; exact e)]; exact e) fun c q e => by rw [upd_ne fun z => n.cod q (by rw [← z]; exact e)]; exact e, (t P h).2⟩
def rmv (H : Hp) (x : Addr) : Hp := fun b => if b = x then none else H b
theorem rmv_ne {H : Hp} {x b : Addr} (h : b ≠ x) : rmv H x b = H b := by unfold rmv; rw [if_neg h]
theorem rmv_some {H : Hp} {x b : Addr} {o : HO} (h : rmv H x b = some o) : b ≠ x ∧ H b = some o := by
  unfold rmv at h
  split at h
  · cases h
  · rename_i hn; exact ⟨hn, h⟩
structure Ext (G H G' H' : Hp) : Prop where
  hh : Sm H H'
  gg : Same G G'
  gh : Vw G' H'
  nc : ∀ a o, H a = some o → G a = none → G' a = none
theorem Ext.refl {G H : Hp} (s : Vw G H) : Ext G H G H := ⟨.refl _, .refl _, s, fun _ _ _ h => h⟩
theorem Ext.trans {G H G1 H1 G2 H2 : Hp} (a : Ext G H G1 H1) (b : Ext G1 H1 G2 H2) : Ext G H G2 H2 :=
  ⟨a.hh.trans b.hh, a.gg.trans b.gg, b.gh, fun c o h g => let ⟨o', h'⟩ := a.hh.dom c o h; b.nc c o' h' (a.nc c o h g)⟩
theorem Ext.new {G H : Hp} {p : Addr} {o : HO} (s : Vw G H) (hp : H p = none) (sn : Seen o := by exact fun _ _ h => h) : Ext G H (upd G p o) (upd H p o) := by
  have gp : G p = none := s.free hp
  refine ⟨.of fun b u e => by rw [upd_ne (ne_of_none e hp)]; exact e, fun b u e => by rw [upd_ne (ne_of_none e gp)]; exact e, fun b u e => ?_, fun b u h g => ?_⟩
  · by_cases hb : b = p
    · subst hb; rw [upd_same] at e; cases e; exact sn _ _ upd_same
    · rw [upd_ne hb] at e; exact (s _ _ e).upd hb
  · rw [upd_ne (ne_of_none h hp)]; exact g
theorem Ext.newH {G H : Hp} {p : Addr} {o : HO} (s : Vw G H) (hp : H p = none) : Ext G H G (upd H p o) :=
  ⟨.of fun b u e => by rw [upd_ne (ne_of_none e hp)]; exact e, .refl _, fun b u e => (s _ _ e).upd ((s _ _ e).ne hp), fun _ _ _ g => g⟩

/-! ### slots -/
inductive Sl where
  | no | sh (d : D) | ow (d : D) | exn (a : Addr) | fn (F : NdefX.NF) (us : List V) (es : List D) | ls (us : List V) (es : List D)
abbrev En := List Sl

def OwAt (K : PySem.W.Frag) (mg : Str → Option Value) (ww : World) (G H : Hp) (a : Addr) : D → Prop
  | .lst ds => ∃ xs, H a = some (.lst xs) ∧ RepL K mg ww G xs ds
  | .obj c ds => ∃ C dx fs, mg c = some (.ref C) ∧ H a = some (.ins C dx fs) ∧ RepF K mg ww G fs ds
  | .set ds => ∃ L M, H a = some (SetNO ww a L) ∧ L.Perm M ∧ RepL K mg ww G (M.map fun p => .ref p.1) ds ∧ keyNs ds = some (M.map (·.2)) ∧ depOk (M.map (·.2))
  | .dks ks vs => ∃ kvs, H a = some (.dK kvs) ∧ kvs.map (·.1) = ks.map Sum.inr ∧ ks.Nodup ∧ RepL K mg ww G (kvs.map (·.2)) vs
  | .dct ds vs => ∃ xs, H a = some (DctNO ww a xs) ∧ RepL K mg ww G (xs.map fun x => .ref x.2.1) ds ∧ keyNs ds = some (xs.map (·.1)) ∧ depOk (xs.map (·.1)) ∧ RepL K mg ww G (xs.map (·.2.2)) vs
  | _ => False
theorem OwAt.ex {G H : Hp} {a : Addr} : ∀ {d : D}, OwAt K mg ww G H a d → ∃ o, H a = some o
  | .lst _, ⟨_, h, _⟩ => ⟨_, h⟩
  | .obj _ _, ⟨_, _, _, _, h, _⟩ => ⟨_, h⟩
  | .set _, ⟨_, _, h, _⟩ => ⟨_, h⟩
  | .dks _ _, ⟨_, h, _⟩ => ⟨_, h⟩
  | .dct _ _, ⟨_, h, _⟩ => ⟨_, h⟩
theorem OwAt.notTab {G H : Hp} {a : Addr} {d : D} (w : OwAt K mg ww G H a d) (ps : Array Value) : H a ≠ some (.tbl ps) := by
  intro z
  cases d with
  | lst ds => obtain ⟨xs, e, _⟩ := w; rw [z] at e; cases e
  | obj c ds => obtain ⟨C, dx, fs, _, e, _⟩ := w; rw [z] at e; cases e
  | set ds => obtain ⟨L, M, e, _⟩ := w; rw [z] at e; cases e
  | dct ds vs => obtain ⟨xs, e, _⟩ := w; rw [z] at e; cases e
  | dks ds vs => obtain ⟨xs, e, _⟩ := w; rw [z] at e; cases e
  | _ => exact w
theorem OwAt.notCode {G H : Hp} {a : Addr} {d : D} (w : OwAt K mg ww G H a d) (q : Str) : H a ≠ some (LamX.CodeO a q) := by
  intro z
  cases d with
  | lst ds => obtain ⟨xs, e, _⟩ := w; rw [z] at e; exact HO.noConfusion (Option.some.inj e)
  | obj c ds => obtain ⟨C, dx, fs, _, e, _⟩ := w; rw [z] at e; exact HO.noConfusion (Option.some.inj e)
  | set ds => obtain ⟨L, M, e, _⟩ := w; rw [z] at e; exact set_ne_code (Option.some.inj e).symm
  | dct ds vs => obtain ⟨xs, e, _⟩ := w; rw [z] at e; exact dct_ne_code (Option.some.inj e).symm
  | dks ds vs => obtain ⟨xs, e, _⟩ := w; rw [z] at e; exact HO.noConfusion (Option.some.inj e)
  | _ => exact w
theorem OwAt.notFnO {G H : Hp} {a : Addr} {d : D} (w : OwAt K mg ww G H a d) (F : NdefX.NF) : H a ≠ some (NdefX.FnO a F) := by
  intro z
  cases d with
  | lst ds => obtain ⟨xs, e, _⟩ := w; rw [z] at e; exact HO.noConfusion (Option.some.inj e)
  | obj c ds => obtain ⟨C, dx, fs, _, e, _⟩ := w; rw [z] at e; exact HO.noConfusion (Option.some.inj e)
  | set ds => obtain ⟨L, M, e, _⟩ := w; rw [z] at e; exact set_ne_fn (Option.some.inj e).symm
  | dct ds vs => obtain ⟨xs, e, _⟩ := w; rw [z] at e; exact dct_ne_fn (Option.some.inj e).symm
  | dks ds vs => obtain ⟨xs, e, _⟩ := w; rw [z] at e; exact HO.noConfusion (Option.some.inj e)
  | _ => exact w
theorem OwAt.notFn {G H : Hp} {a : Addr} {d : D} (w : OwAt K mg ww G H a d) : NotFn H a := ⟨w.notTab, w.notCode, w.notFnO⟩
theorem OwAt.same {G H G' H' : Hp} {a : Addr} (g : Same G G') (h : ∀ o, H a = some o → (∀ ps, o ≠ .tbl ps) → (∀ kvs, o ≠ .dT kvs) → H' a = some o) : ∀ {d : D}, OwAt K mg ww G H a d → OwAt K mg ww G' H' a d
  | .lst _, ⟨xs, e, r⟩ => ⟨xs, h _ e (fun _ z => by cases z) (fun _ z => by cases z), r.same g⟩
  | .obj _ _, ⟨C, dx, fs, m, e, r⟩ => ⟨C, dx, fs, m, h _ e (fun _ z => by cases z) (fun _ z => by cases z), r.same g⟩
  | .set _, ⟨L, M, e, p, r, k⟩ => ⟨L, M, h _ e (fun _ z => by cases z) (fun _ z => by cases z), p, r.same g, k⟩
  | .dks _ _, ⟨kvs, e, k, n, r⟩ => ⟨kvs, h _ e (fun _ z => by cases z) (fun _ z => by cases z), k, n, r.same g⟩
  | .dct _ _, ⟨xs, e, r, k, d, s⟩ => ⟨xs, h _ e (fun _ z => by cases z) (fun _ z => by cases z), r.same g, k, d, s.same g⟩
theorem OwAt.seen {G H : Hp} {a : Addr} {u : HO} (hu : H a = some u) : ∀ {d : D}, OwAt K mg ww G H a d → Seen u
  | .lst _, ⟨_, h, _⟩ => by rw [hu] at h; cases h; exact fun _ _ h => h
  | .obj _ _, ⟨_, _, _, _, h, _⟩ => by rw [hu] at h; cases h; exact fun _ _ h => h
  | .set _, ⟨_, _, h, _⟩ => by rw [hu] at h; cases h; exact fun _ _ h => h
  | .dks _ _, ⟨_, h, _⟩ => by rw [hu] at h; cases h; exact fun _ _ h => h
  | .dct _ _, ⟨_, h, _⟩ => by rw [hu] at h; cases h; exact fun _ _ h => h
theorem OwAt.rep {G H G' : Hp} {a : Addr} (g : Same G G') (h : ∀ o, H a = .some o → G' a = .some o) : ∀ {d : D}, OwAt K mg ww G H a d → Rep K mg ww G' (.ref a) d
  | .lst _, ⟨xs, e, r⟩ => .lst (h _ e) (r.same g)
  | .obj _ _, ⟨C, dx, fs, m, e, r⟩ => .obj m (h _ e) (r.same g)
  | .set _, ⟨L, M, e, p, r, k, d⟩ => .set (h _ e) p (r.same g) k d
  | .dks _ _, ⟨kvs, e, k, n, r⟩ => .dk (h _ e) k n (r.same g)
  | .dct _ _, ⟨xs, e, r, k, d, s⟩ => .dn (h _ e) (r.same g) k d (s.same g)

def SlOk (K : PySem.W.Frag) (mg : Str → Option Value) (ww : World) (G H : Hp) (o : Option V) : Sl → Prop
  | .no => True
  | .exn a => o = some (.ref a)
  | .fn F us es => ∃ a, o = some (.ref a) ∧ H a = some (NdefX.FnO a F) ∧ H F.c = some (LamX.CodeO F.c F.qual) ∧ RepL K mg ww G us es
  | .ls us es => ∃ a, o = some (.ref a) ∧ G a = some (.lst us) ∧ RepL K mg ww G us es
  | .sh d => ∃ v, o = some v ∧ Rep K mg ww G v d
  | .ow d => ∃ a, o = some (.ref a) ∧ G a = none ∧ OwAt K mg ww G H a d

structure Rel (K : PySem.W.Frag) (mg : Str → Option Value) (ww : World) (G H : Hp) (ρ : En) (σ : L2.St) : Prop where
  sub : Vw G H
  tabs : Tabs K G H
  len : σ.length = ρ.length
  at_ : ∀ (i : Nat) (s : Sl) (o : Option V), ρ[i]? = some s → σ[i]? = some o → SlOk K mg ww G H o s
  apart : ∀ (i j : Nat) (a : Addr) (d e : D), ρ[i]? = some (.ow d) → ρ[j]? = some (.ow e) → σ[i]? = some (some (.ref a)) → σ[j]? = some (some (.ref a)) → i = j

theorem SlOk.ext {G H G' H' : Hp} {o : Option V} (x : Ext G H G' H') : ∀ {s : Sl}, SlOk K mg ww G H o s → SlOk K mg ww G' H' o s
  | .no, _ => trivial
  | .exn _, h => h
  | .fn _ _ _, ⟨a, e, h, k, r⟩ => ⟨a, e, x.hh.ob _ _ h (fun ps => NdefX.fnO_ne ps) (fun _ z => by cases z), x.hh.ob _ _ k (fun ps => LamX.codeO_ne ps) (fun _ z => by cases z), r.same x.gg⟩
  | .ls _ _, ⟨a, e, h, r⟩ => ⟨a, e, x.gg _ _ h, r.same x.gg⟩
  | .sh d, ⟨v, e, r⟩ => ⟨v, e, r.same x.gg⟩
  | .ow d, ⟨a, e, g, r⟩ => by
    obtain ⟨u, hu⟩ := r.ex
    exact ⟨a, e, x.nc a u hu g, r.same x.gg fun o q n m => x.hh.ob _ _ q n m⟩
theorem Tabs.ext {G H G' H' : Hp} (t : Tabs K G H) (x : Ext G H G' H') : Tabs K G' H' := fun P h => by
  obtain ⟨⟨ps, e, ok⟩, g⟩ := t P h
  exact ⟨x.hh.tb P ⟨ps, e, ok⟩, x.nc P _ e g⟩
theorem Rel.ext {G H G' H' : Hp} {ρ : En} {σ : L2.St} (R : Rel K mg ww G H ρ σ) (x : Ext G H G' H') : Rel K mg ww G' H' ρ σ :=
  ⟨x.gh, R.tabs.ext x, R.len, fun i s o h1 h2 => (R.at_ i s o h1 h2).ext x, R.apart⟩
theorem Rel.get {G H : Hp} {ρ : En} {σ : L2.St} (R : Rel K mg ww G H ρ σ) {i : Nat} {s : Sl} (h : ρ[i]? = some s) : ∃ o, σ[i]? = some o ∧ SlOk K mg ww G H o s := by
  have hi : i < ρ.length := (List.getElem?_eq_some_iff.mp h).1
  have hs : i < σ.length := by rw [R.len]; exact hi
  exact ⟨σ[i], List.getElem?_eq_getElem hs, R.at_ i s _ h (List.getElem?_eq_getElem hs)⟩
theorem Rel.set {G H : Hp} {ρ : En} {σ : L2.St} (R : Rel K mg ww G H ρ σ) (i : Nat) {v : V} {d : D} (r : Rep K mg ww G v d) : Rel K mg ww G H (ρ.set i (.sh d)) (σ.set i (some v)) := by
  refine ⟨R.sub, R.tabs, by simp [R.len], fun j s o h1 h2 => ?_, fun j k a d' e' h1 h2 h3 h4 => ?_⟩
  · by_cases hj : i = j
    · subst hj
      have hi : i < (ρ.set i (.sh d)).length := (List.getElem?_eq_some_iff.mp h1).1
      have hr : i < ρ.length := by simpa using hi
      rw [List.getElem?_set_self hr] at h1
      rw [List.getElem?_set_self (by rw [R.len]; exact hr)] at h2
      cases h1; cases h2
      exact ⟨v, rfl, r⟩
    · rw [List.getElem?_set_ne hj] at h1 h2
      exact R.at_ j s o h1 h2
  · have nj : ∀ {m : Nat} {y : D}, (ρ.set i (.sh d))[m]? = some (.ow y) → i ≠ m := fun {m y} h e => by
      subst e
      have hi : i < (ρ.set i (.sh d)).length := (List.getElem?_eq_some_iff.mp h).1
      rw [List.getElem?_set_self (by simpa using hi)] at h
      cases h
    have n1 := nj h1
    have n2 := nj h2
    rw [List.getElem?_set_ne n1] at h1 h3
    rw [List.getElem?_set_ne n2] at h2 h4
    exact R.apart j k a d' e' h1 h2 h3 h4
theorem Rel.setO {G H : Hp} {ρ : En} {σ : L2.St} (R : Rel K mg ww G H ρ σ) (i : Nat) {p : Addr} {d : D} (g : G p = none) (r : OwAt K mg ww G H p d)
    (new : ∀ (j : Nat) (e : D), ρ[j]? = some (.ow e) → σ[j]? ≠ some (some (.ref p))) : Rel K mg ww G H (ρ.set i (.ow d)) (σ.set i (some (.ref p))) := by
  refine ⟨R.sub, R.tabs, by simp [R.len], fun j s o h1 h2 => ?_, fun j k a d' e' h1 h2 h3 h4 => ?_⟩
  · by_cases hj : i = j
    · subst hj
      have hi : i < (ρ.set i (.ow d)).length := (List.getElem?_eq_some_iff.mp h1).1
      have hr : i < ρ.length := by simpa using hi
      rw [List.getElem?_set_self hr] at h1
      rw [List.getElem?_set_self (by rw [R.len]; exact hr)] at h2
      cases h1; cases h2
      exact ⟨p, rfl, g, r⟩
    · rw [List.getElem?_set_ne hj] at h1 h2
      exact R.at_ j s o h1 h2
  · by_cases hj : i = j
    · by_cases hk : i = k
      · exact hj.symm.trans hk
      · subst hj
        have hi : i < σ.length := by simpa using (List.getElem?_eq_some_iff.mp h3).1
        rw [List.getElem?_set_self hi] at h3
        cases h3
        rw [List.getElem?_set_ne hk] at h2 h4
        exact absurd h4 (new k e' h2)
    · by_cases hk : i = k
      · subst hk
        have hi : i < σ.length := by simpa using (List.getElem?_eq_some_iff.mp h4).1
        rw [List.getElem?_set_self hi] at h4
        cases h4
        rw [List.getElem?_set_ne hj] at h1 h3
        exact absurd h3 (new j d' h1)
      · rw [List.getElem?_set_ne hj] at h1 h3
        rw [List.getElem?_set_ne hk] at h2 h4
        exact R.apart j k a d' e' h1 h2 h3 h4
theorem Rel.clear {G H : Hp} {ρ : En} {σ : L2.St} (R : Rel K mg ww G H ρ σ) (i : Nat) : Rel K mg ww G H (ρ.set i .no) (σ.set i none) := by
  refine ⟨R.sub, R.tabs, by simp [R.len], fun j s o h1 h2 => ?_, fun j k a d' e' h1 h2 h3 h4 => ?_⟩
  · by_cases hj : i = j
    · subst hj
      have hi : i < (ρ.set i .no).length := (List.getElem?_eq_some_iff.mp h1).1
      have hr : i < ρ.length := by simpa using hi
      rw [List.getElem?_set_self hr] at h1
      cases h1
      trivial
    · rw [List.getElem?_set_ne hj] at h1 h2
      exact R.at_ j s o h1 h2
  · have nj : ∀ {m : Nat} {y : D}, (ρ.set i .no)[m]? = some (.ow y) → i ≠ m := fun {m y} h e => by
      subst e
      have hi : i < (ρ.set i .no).length := (List.getElem?_eq_some_iff.mp h).1
      rw [List.getElem?_set_self (by simpa using hi)] at h
      cases h
    have n1 := nj h1
    have n2 := nj h2
    rw [List.getElem?_set_ne n1] at h1 h3
    rw [List.getElem?_set_ne n2] at h2 h4
    exact R.apart j k a d' e' h1 h2 h3 h4
def freeze (i : Nat) (ρ : En) : En := match ρ[i]? with
  | some (.ow d) => ρ.set i (.sh d)
  | _ => ρ
theorem Rel.freeze {G H : Hp} {ρ : En} {σ : L2.St} (R : Rel K mg ww G H ρ σ) (i : Nat) {d : D} (h : ρ[i]? = some (.ow d)) :
    ∃ a G', σ[i]? = some (some (.ref a)) ∧ G a = none ∧ (∃ o, H a = some o ∧ G' = upd G a o) ∧ Rep K mg ww G' (.ref a) d ∧ Rel K mg ww G' H (ρ.set i (.sh d)) σ := by
  obtain ⟨o, ho, a, rfl, ga, ow⟩ := R.get h
  obtain ⟨u, hu⟩ := ow.ex
  have gg : Same G (upd G a u) := fun b x e => by rw [upd_ne (ne_of_none e ga)]; exact e
  have gh : Vw (upd G a u) H := fun b x e => by
    by_cases hb : b = a
    · subst hb; rw [upd_same] at e; cases e; exact ow.seen hu _ _ hu
    · rw [upd_ne hb] at e; exact R.sub _ _ e
  have rp : Rep K mg ww (upd G a u) (.ref a) d := ow.rep gg fun o q => by rw [hu] at q; cases q; exact upd_same
  refine ⟨a, upd G a u, ho, ga, ⟨u, hu, rfl⟩, rp, ⟨gh, fun P hP => ⟨(R.tabs P hP).1, by
    obtain ⟨⟨ps, e, _⟩, g0⟩ := R.tabs P hP
    rw [upd_ne fun z => ow.notTab ps (by rw [← z]; exact e)]
    exact g0⟩, by simp [R.len], fun j s o' h1 h2 => ?_, fun j k b d' e' h1 h2 h3 h4 => ?_⟩⟩
  · by_cases hj : i = j
    · subst hj
      rw [List.getElem?_set_self (List.getElem?_eq_some_iff.mp h).1] at h1
      cases h1
      rw [ho] at h2; cases h2
      exact ⟨_, rfl, rp⟩
    · rw [List.getElem?_set_ne hj] at h1
      have q := R.at_ j s o' h1 h2
      cases s with
      | no => trivial
      | exn _ => exact q
      | fn _ _ _ => obtain ⟨a', e', k1, k2, r⟩ := q; exact ⟨a', e', k1, k2, r.same gg⟩
      | ls _ _ => obtain ⟨a', e', k1, r⟩ := q; exact ⟨a', e', gg _ _ k1, r.same gg⟩
      | sh d' => obtain ⟨v, e, r⟩ := q; exact ⟨v, e, r.same gg⟩
      | ow d' =>
        obtain ⟨b, e, gb, r⟩ := q
        subst e
        refine ⟨b, rfl, ?_, r.same gg fun o q _ _ => q⟩
        rw [upd_ne fun z => hj (R.apart i j a d d' h h1 ho (by rw [h2, z]))]
        exact gb
  · have nj : ∀ {m : Nat} {y : D}, (ρ.set i (.sh d))[m]? = some (.ow y) → i ≠ m := fun {m y} h e => by
      subst e
      have hi : i < (ρ.set i (.sh d)).length := (List.getElem?_eq_some_iff.mp h).1
      rw [List.getElem?_set_self (by simpa using hi)] at h
      cases h
    have n1 := nj h1
    have n2 := nj h2
    rw [List.getElem?_set_ne n1] at h1
    rw [List.getElem?_set_ne n2] at h2
    exact R.apart j k b d' e' h1 h2 h3 h4

/-! ### what an expression computes -/
def PostE (K : PySem.W.Frag) (mg : Str → Option Value) (ww : World) (W : XK) (G H : Hp) (Q : VK) : Oc D → Prop
  | .st => False
  | .ok d => ∀ v G' H', Ext G H G' H' → Rep K mg ww G' v d → Q v H'
  | .ex c => ∀ C G' H', Ext G H G' H' → mg c = some (.ref C) → W (.ref C) none H'
def tE (K : PySem.W.Frag) (mg : Str → Option Value) (ww : World) (W : WX) (f : En → Oc D) : TE := fun σ H Q => ∃ G ρ, Rel K mg ww G H ρ σ ∧ PostE K mg ww (fun c d H' => W c d σ H') G H Q (f ρ)
def PostQ (K : PySem.W.Frag) (mg : Str → Option Value) (ww : World) (W : XK) (G H : Hp) (Q : VK) : Oc D → Prop
  | .st => False
  | .ok d => ∀ v G' H', Ext G H G' H' → (Rep K mg ww G' v d ∨ ∃ a, v = .ref a ∧ G' a = none ∧ OwAt K mg ww G' H' a d) → Q v H'
  | .ex c => ∀ C G' H', Ext G H G' H' → mg c = some (.ref C) → W (.ref C) none H'
def tQ (K : PySem.W.Frag) (mg : Str → Option Value) (ww : World) (W : WX) (f : En → Oc D) : TE := fun σ H Q => ∃ G ρ, Rel K mg ww G H ρ σ ∧ PostQ K mg ww (fun c d H' => W c d σ H') G H Q (f ρ)
def PostF (K : PySem.W.Frag) (mg : Str → Option Value) (ww : World) (W : XK) (G H : Hp) (Q : VK) : Oc D → Prop
  | .st => False
  | .ok d => ∀ a G' H', Ext G H G' H' → H a = none → G' a = none → OwAt K mg ww G' H' a d → Q (.ref a) H'
  | .ex c => ∀ C G' H', Ext G H G' H' → mg c = some (.ref C) → W (.ref C) none H'
def tF (K : PySem.W.Frag) (mg : Str → Option Value) (ww : World) (W : WX) (f : En → Oc D) : TE := fun σ H Q => ∃ G ρ, Rel K mg ww G H ρ σ ∧ PostF K mg ww (fun c d H' => W c d σ H') G H Q (f ρ)
def PostA (K : PySem.W.Frag) (mg : Str → Option Value) (ww : World) (W : XK) (G H : Hp) (Q : List V → Hp → Prop) : Oc (List D) → Prop
  | .st => False
  | .ok ds => ∀ vs G' H', Ext G H G' H' → RepL K mg ww G' vs ds → Q vs H'
  | .ex c => ∀ C G' H', Ext G H G' H' → mg c = some (.ref C) → W (.ref C) none H'
def tA (K : PySem.W.Frag) (mg : Str → Option Value) (ww : World) (W : WX) (f : En → Oc (List D)) : TA := fun σ H Q => ∃ G ρ, Rel K mg ww G H ρ σ ∧ PostA K mg ww (fun c d H' => W c d σ H') G H Q (f ρ)
def PostT (K : PySem.W.Frag) (mg : Str → Option Value) (ww : World) (W : XK) (G H : Hp) (Q : Bool → Hp → Prop) : Oc Bool → Prop
  | .st => False
  | .ok b => ∀ G' H', Ext G H G' H' → Q b H'
  | .ex c => ∀ C G' H', Ext G H G' H' → mg c = some (.ref C) → W (.ref C) none H'
def tT (K : PySem.W.Frag) (mg : Str → Option Value) (ww : World) (W : WX) (f : En → Oc Bool) : TT := fun σ H Q => ∃ G ρ, Rel K mg ww G H ρ σ ∧ PostT K mg ww (fun c d H' => W c d σ H') G H Q (f ρ)

theorem PostE.imp {W : XK} {G H G1 H1 : Hp} {Q Q' : VK} {o : Oc D} (x : Ext G H G1 H1) (h : PostE K mg ww W G H Q o) (q : ∀ v H, Q v H → Q' v H) : PostE K mg ww W G1 H1 Q' o := by
  cases o with
  | st => exact h
  | ok d => exact fun v G' H' e r => q _ _ (h v G' H' (x.trans e) r)
  | ex c => exact fun C G' H' e m => h C G' H' (x.trans e) m

abbrev SE (X : Cx) (W : WX) (e : Expr) (f : En → Oc D) : Prop := PE X e (tE X.K X.mg X.w W f)
abbrev SQ (X : Cx) (W : WX) (e : Expr) (f : En → Oc D) : Prop := PE X e (tQ X.K X.mg X.w W f)
abbrev SF (X : Cx) (W : WX) (e : Expr) (f : En → Oc D) : Prop := PE X e (tF X.K X.mg X.w W f)
abbrev SA (X : Cx) (W : WX) (es : List Expr) (f : En → Oc (List D)) : Prop := PA X es (tA X.K X.mg X.w W f)
abbrev STT (X : Cx) (W : WX) (e : Expr) (f : En → Oc Bool) : Prop := PT X e (tT X.K X.mg X.w W f)
abbrev SW (X : Cx) (W : WX) (e : Expr) (f : En → Oc Bool) : Prop := PW X e (tT X.K X.mg X.w W f)

theorem PE.weak {X : Cx} {e : Expr} {t u : TE} (h : PE X e t) (w : ∀ σ H Q, u σ H Q → t σ H Q) : PE X e u := ⟨fun pins s σ H Q I q => h.run pins s σ H Q I (w _ _ _ q)⟩
theorem PA.weak {X : Cx} {e : List Expr} {t u : TA} (h : PA X e t) (w : ∀ σ H Q, u σ H Q → t σ H Q) : PA X e u := ⟨fun pos pins s σ H Q I q => h.run pos pins s σ H Q I (w _ _ _ q)⟩
theorem PT.weak {X : Cx} {e : Expr} {t u : TT} (h : PT X e t) (w : ∀ σ H Q, u σ H Q → t σ H Q) : PT X e u := ⟨fun pins s σ H Q I q => h.run pins s σ H Q I (w _ _ _ q)⟩
theorem PW.weak {X : Cx} {e : Expr} {t u : TT} (h : PW X e t) (w : ∀ σ H Q, u σ H Q → t σ H Q) : PW X e u := ⟨fun whole pins s σ H Q I q => h.run whole pins s σ H Q I (w _ _ _ q)⟩
theorem PS.weak {X : Cx} {e : Stmt} {t u : TS} (h : PS X e t) (w : ∀ D σ H, u D σ H → t D σ H) : PS X e u := ⟨fun pins s σ H D I q => h.run pins s σ H D I (w _ _ _ q)⟩
theorem PSs.weak {X : Cx} {e : List Stmt} {t u : TS} (h : PSs X e t) (w : ∀ D σ H, u D σ H → t D σ H) : PSs X e u := ⟨fun pins s σ H D I q => h.run pins s σ H D I (w _ _ _ q)⟩

abbrev up (U : XK) : WX := fun c d _ H => U c d H
abbrev E0W : WX := fun _ _ _ _ => False
structure Ctx (X : Cx) (W : WX) : Prop where
  calm : X.calm = true
  nd : X.N.Nodup
  tk : Takes X W
  units : X.A.units + 65 < cLine

section
variable {X : Cx} {W : WX} {a b c : Expr} {e : Expr} {es : List Expr} {f g h : En → Oc D} {pos : Pos}

/-! ### from one judgement to another -/
theorem SE.toQ (h : SE X W e f) : SQ X W e f := PE.weak h fun σ H Q ⟨G, ρ, R, p⟩ => by
  refine ⟨G, ρ, R, ?_⟩
  revert p
  cases f ρ with
  | st => exact id
  | ok d => exact fun p v G' H' x r => p v G' H' x (.inl r)
  | ex c => exact id
theorem SF.toE (h : SF X W e f) : SE X W e f := PE.weak h fun σ H Q ⟨G, ρ, R, p⟩ => by
  refine ⟨G, ρ, R, ?_⟩
  revert p
  cases f ρ with
  | st => exact id
  | ok d =>
    intro p a G' H' x ha ga ow
    obtain ⟨u, hu⟩ := ow.ex
    have gg : Same G' (upd G' a u) := fun b o e => by rw [upd_ne (ne_of_none e ga)]; exact e
    refine p (.ref a) (upd G' a u) H' ⟨x.hh, x.gg.trans gg, fun b o e => ?_, fun b o hb gb => ?_⟩ (ow.rep gg fun o q => by rw [hu] at q; cases q; exact upd_same)
    · by_cases hb : b = a
      · subst hb; rw [upd_same] at e; cases e; exact ow.seen hu _ _ hu
      · rw [upd_ne hb] at e; exact x.gh _ _ e
    · rw [upd_ne (ne_of_none hb ha)]; exact x.nc b o hb gb
  | ex c => exact id

/-! ### names and constants -/
def cst (d : D) : En → Oc D := fun _ => .ok d
def vr (i : Nat) : En → Oc D := fun ρ => match ρ[i]? with | some (.sh d) => .ok d | some (.ls _ es) => .ok (.lst es) | _ => .st
def vo (i : Nat) : En → Oc D := fun ρ => match ρ[i]? with | some (.sh d) => .ok d | some (.ow d) => .ok d | some (.ls _ es) => .ok (.lst es) | _ => .st
theorem se_cst {v : V} {d : D} (h : PE X e (tC v)) (r : ∀ G, Rep X.K X.mg X.w G v d) : SE X W e (cst d) := PE.weak h fun σ H Q ⟨G, ρ, R, p⟩ => p v G H (.refl R.sub) (r G)
theorem se_int {i j} : SE X W (.Constant (.int i) j pos) (cst (.int i)) := se_cst pe_int fun _ => .int i
theorem se_bl {i j} : SE X W (.Constant (.bool i) j pos) (cst (.bl i)) := se_cst pe_bl fun _ => .bl i
theorem se_non {j} : SE X W (.Constant .none j pos) (cst .non) := se_cst pe_non fun _ => .non
theorem se_str {i j} : SE X W (.Constant (.str i) j pos) (cst (.str i)) := se_cst pe_str fun _ => .str i
theorem se_var {i : Nat} {x : Str} (h : PE X (.Name x pos) (tVar i)) : SE X W (.Name x pos) (vr i) := PE.weak h fun σ H Q ⟨G, ρ, R, p⟩ => by
  revert p
  unfold vr
  cases q : ρ[i]? with
  | none => exact False.elim
  | some s =>
    cases s with
    | no => exact False.elim
    | exn _ => exact False.elim
    | fn _ _ _ => exact False.elim
    | ls us es =>
      intro p
      obtain ⟨o, ho, v, rfl, k, r⟩ := R.get q
      exact ⟨.ref v, ho, p (.ref v) G H (.refl R.sub) (.lst k r)⟩
    | ow d => exact False.elim
    | sh d =>
      intro p
      obtain ⟨o, ho, v, rfl, r⟩ := R.get q
      exact ⟨v, ho, p v G H (.refl R.sub) r⟩
theorem sq_var {i : Nat} {x : Str} (h : PE X (.Name x pos) (tVar i)) : SQ X W (.Name x pos) (vo i) := PE.weak h fun σ H Q ⟨G, ρ, R, p⟩ => by
  revert p
  unfold vo
  cases q : ρ[i]? with
  | none => exact False.elim
  | some s =>
    cases s with
    | no => exact False.elim
    | exn _ => exact False.elim
    | fn _ _ _ => exact False.elim
    | ls us es =>
      intro p
      obtain ⟨o, ho, v, rfl, k, r⟩ := R.get q
      exact ⟨.ref v, ho, p (.ref v) G H (.refl R.sub) (.inl (.lst k r))⟩
    | ow d =>
      intro p
      obtain ⟨o, ho, v, rfl, r⟩ := R.get q
      exact ⟨.ref v, ho, p _ G H (.refl R.sub) (.inr ⟨v, rfl, r⟩)⟩
    | sh d =>
      intro p
      obtain ⟨o, ho, v, rfl, r⟩ := R.get q
      exact ⟨v, ho, p v G H (.refl R.sub) (.inl r)⟩

/-! ### operations by values -/
def un (F : D → Oc D) (f : En → Oc D) : En → Oc D := fun ρ => bd (f ρ) F
def bi (F : D → D → Oc D) (f g : En → Oc D) : En → Oc D := fun ρ => bd (f ρ) fun x => bd (g ρ) fun y => F x y
def RepQ (K : PySem.W.Frag) (mg : Str → Option Value) (ww : World) (G H : Hp) (v : V) (d : D) : Prop := Rep K mg ww G v d ∨ ∃ a, v = .ref a ∧ G a = none ∧ OwAt K mg ww G H a d
theorem RepQ.ext {G H G' H' : Hp} {v : V} {d : D} (x : Ext G H G' H') : RepQ K mg ww G H v d → RepQ K mg ww G' H' v d
  | .inl r => .inl (r.same x.gg)
  | .inr ⟨a, e, g, r⟩ => by
    obtain ⟨u, hu⟩ := r.ex
    exact .inr ⟨a, e, x.nc a u hu g, r.same x.gg fun o q n m => x.hh.ob _ _ q n m⟩
theorem RepQ.lst {G H : Hp} {v : V} {ds : List D} (s : Vw G H) : RepQ K mg ww G H v (.lst ds) → ∃ a xs, v = .ref a ∧ H a = some (.lst xs) ∧ RepL K mg ww G xs ds
  | .inl (.lst h r) => ⟨_, _, rfl, s _ _ h, r⟩
  | .inr ⟨a, e, _, xs, h, r⟩ => ⟨a, xs, e, h, r⟩
theorem RepQ.tup {G H : Hp} {v : V} {ds : List D} (s : Vw G H) : RepQ K mg ww G H v (.tup ds) → ∃ a xs, v = .ref a ∧ SqT K H a xs ∧ RepL K mg ww G xs ds
  | .inl (.tup h r) => ⟨_, _, rfl, s.sqT h, r⟩
theorem RepQ.fz {G H : Hp} {v : V} {ds : List D} (s : Vw G H) : RepQ K mg ww G H v (.fz ds) → ∃ a xs, v = .ref a ∧ SqL K H a xs ∧ RepL K mg ww G xs ds
  | .inl (.fz h r) => ⟨_, _, rfl, s.seq h, r⟩
def items : D → Option (List D)
  | .lst ds => some ds
  | .tup ds => some ds
  | .fz ds => some ds
  | _ => none
theorem RepQ.seq {G H : Hp} {v : V} {d : D} {ds : List D} (s : Vw G H) (r : RepQ K mg ww G H v d) (h : items d = some ds) : ∃ a xs, v = .ref a ∧ (SqL K H a xs ∨ SqT K H a xs) ∧ RepL K mg ww G xs ds := by
  cases d with
  | lst es => cases h; obtain ⟨a, xs, e, q, r⟩ := r.lst s; exact ⟨a, xs, e, .inl (SqL.of q), r⟩
  | tup es => cases h; obtain ⟨a, xs, e, q, r⟩ := r.tup s; exact ⟨a, xs, e, .inr q, r⟩
  | fz es => cases h; obtain ⟨a, xs, e, q, r⟩ := r.fz s; exact ⟨a, xs, e, .inl q, r⟩
  | _ => cases h

theorem se_op2 {r : R2} {F : D → D → Oc D} (rule : ∀ {ta tb : TE}, PE X a ta → PE X b tb → PE X e (tOp r ta tb))
    (hr : ∀ {G H x y d1 d2 Q U}, Vw G H → RepQ X.K X.mg X.w G H x d1 → RepQ X.K X.mg X.w G H y d2 → PostE X.K X.mg X.w U G H Q (F d1 d2) → r x y H Q)
    (ha : SQ X W a f) (hb : SQ X W b g) : SE X W e (bi F f g) := PE.weak (rule ha hb) fun σ H Q ⟨G, ρ, R, p⟩ => by
  refine ⟨G, ρ, R, ?_⟩
  revert p
  unfold bi
  cases f ρ with
  | st => exact id
  | ex c => exact id
  | ok d1 =>
    intro p x G1 H1 x1 r1
    refine ⟨G1, ρ, R.ext x1, ?_⟩
    revert p
    simp only [bd_ok]
    cases g ρ with
    | st => exact id
    | ex c => exact fun p C G' H' e m => p C G' H' (x1.trans e) m
    | ok d2 =>
      intro p y G2 H2 x2 r2
      exact hr x2.gh (RepQ.ext x2 r1) r2 (PostE.imp (x1.trans x2) p fun _ _ q => q)
theorem sf_op2 {r : R2} {F : D → D → Oc D} (rule : ∀ {ta tb : TE}, PE X a ta → PE X b tb → PE X e (tOp r ta tb))
    (hr : ∀ {G H x y d1 d2 Q U}, Vw G H → RepQ X.K X.mg X.w G H x d1 → RepQ X.K X.mg X.w G H y d2 → PostF X.K X.mg X.w U G H Q (F d1 d2) → r x y H Q)
    (ha : SQ X W a f) (hb : SQ X W b g) : SF X W e (bi F f g) := PE.weak (rule ha hb) fun σ H Q ⟨G, ρ, R, p⟩ => by
  refine ⟨G, ρ, R, ?_⟩
  revert p
  unfold bi
  cases f ρ with
  | st => exact id
  | ex c => exact id
  | ok d1 =>
    intro p x G1 H1 x1 r1
    refine ⟨G1, ρ, R.ext x1, ?_⟩
    revert p
    simp only [bd_ok]
    cases g ρ with
    | st => exact id
    | ex c => exact fun p C G' H' e m => p C G' H' (x1.trans e) m
    | ok d2 =>
      intro p y G2 H2 x2 r2
      refine hr (U := fun c d H' => W c d σ H') x2.gh (RepQ.ext x2 r1) r2 ?_
      revert p
      simp only [bd_ok]
      have x12 := x1.trans x2
      cases F d1 d2 with
      | st => exact id
      | ex c => exact fun p C G' H' e m => p C G' H' (x12.trans e) m
      | ok d => exact fun p a G' H' x ha ga ow => p a G' H' (x12.trans x) (x12.hh.free ha) ga ow
end
end Fx

set_option Elab.async false
set_option linter.all false
set_option maxRecDepth 100000
set_option maxHeartbeats 4000000
/-! Fx1: operations. -/
namespace Fx
open PySem PySem.Spec PyProof.Rows L2
variable {K : PySem.W.Frag} {mg : Str → Option Value} {ww : World}

/-! ### plain data as PyData -/
mutual
def toPD : D → Option PyData
  | .non => some .none
  | .bl b => some (.bool b)
  | .int i => some (.int i)
  | .str x => some (.str x)
  | .lst ds => (toPDs ds).map .list
  | .tup ds => (toPDs ds).map .tuple
  | .fz ds => (toPDs ds).map .list
  | .obj _ _ => none
  | .ty _ => none
  | .set _ => none
  | .dct _ _ => none
  | .dks _ _ => none
  | .cch _ => none
def toPDs : List D → Option (List PyData)
  | [] => some []
  | d :: ds => match toPD d, toPDs ds with
    | some p, some q => some (p :: q)
    | _, _ => none
end
mutual
theorem Rep.dp {G H : Hp} (s : Vw G H) : ∀ {v : V} {d : D} {p : PyData}, Rep K mg ww G v d → toPD d = some p → Dp K H v p
  | _, .non, _, h, e => by cases h; cases e; exact .non
  | _, .bl b, _, h, e => by cases h; cases e; exact .bl b
  | _, .int i, _, h, e => by cases h; cases e; exact .int i
  | _, .str x, _, h, e => by cases h; cases e; exact .str x
  | _, .lst ds, p, h, e => by
    cases h with
    | lst hs r =>
      simp only [toPD] at e
      obtain ⟨q, hq, e2⟩ := Option.map_eq_some_iff.mp e
      subst e2
      exact .lst (SqL.of (s _ _ hs)) (RepL.dp s r hq)
  | _, .tup ds, p, h, e => by
    cases h with
    | tup hs r =>
      simp only [toPD] at e
      obtain ⟨q, hq, e2⟩ := Option.map_eq_some_iff.mp e
      subst e2
      exact .tup (s.sqT hs) (RepL.dp s r hq)
  | _, .fz ds, p, h, e => by
    cases h with
    | fz hs r =>
      simp only [toPD] at e
      obtain ⟨q, hq, e2⟩ := Option.map_eq_some_iff.mp e
      subst e2
      exact .lst (s.seq hs) (RepL.dp s r hq)
theorem RepL.dp {G H : Hp} (s : Vw G H) : ∀ {vs : List V} {ds : List D} {ps : List PyData}, RepL K mg ww G vs ds → toPDs ds = some ps → DpAll K H vs ps
  | _, [], _, h, e => by cases h; cases e; exact .nil
  | _, d :: ds, ps, h, e => by
    cases h with
    | cons r t =>
      simp only [toPDs] at e
      cases q1 : toPD d with
      | none => rw [q1] at e; cases e
      | some p =>
        cases q2 : toPDs ds with
        | none => rw [q1, q2] at e; cases e
        | some q =>
          rw [q1, q2] at e
          cases e
          exact .cons (Rep.dp s r q1) (RepL.dp s t q2)
end
theorem RepQ.dp {G H : Hp} (s : Vw G H) {v : V} {d : D} {p : PyData} (h : RepQ K mg ww G H v d) (e : toPD d = some p) : Dp K H v p := by
  rcases h with h | ⟨a, rfl, ga, ow⟩
  · exact h.dp s e
  · cases d with
    | lst ds =>
      obtain ⟨xs, h1, r⟩ := ow
      simp only [toPD] at e
      obtain ⟨q, hq, e2⟩ := Option.map_eq_some_iff.mp e
      subst e2
      exact .lst (SqL.of h1) (r.dp s hq)
    | _ => first | exact ow.elim | cases e

/-! ### two-place operations as functions -/
def eqD (d e : D) : Oc D := match toPD d, toPD e with
  | some p, some q => chk (SeqAt.shaped p && SeqAt.shaped q) (.ok (.bl (PyData.eqv p q)))
  | _, _ => .st
def neD (d e : D) : Oc D := match toPD d, toPD e with
  | some p, some q => chk (SeqAt.shaped p && SeqAt.shaped q) (.ok (.bl (!PyData.eqv p q)))
  | _, _ => .st
def inB (d e : D) : Option Bool := match d, e with
  | .str x, .str y => some (!(Builtin.Str.occurrences y x 0 y.length 1).isEmpty)
  | d, e => match toPD d, toPD e with
    | some p, some (.list ps) => if SeqAt.shaped p && SeqAt.shaped (.list ps) then some (ps.any fun z => PyData.eqv z p) else none
    | some p, some (.tuple ps) => if SeqAt.shaped p && SeqAt.shaped (.tuple ps) then some (ps.any fun z => PyData.eqv z p) else none
    | _, _ => none
def inD (d e : D) : Oc D := match inB d e with
  | some b => .ok (.bl b)
  | none => .st
def ninD (d e : D) : Oc D := match inB d e with
  | some b => .ok (.bl (!b))
  | none => .st
def cmpD (p : Int → Int → Bool) (d e : D) : Oc D := match d, e with
  | .int i, .int j => .ok (.bl (p i j))
  | _, _ => .st
def isNon : D → Bool
  | .non => true
  | _ => false
def isN (d e : D) : Oc D := match e with
  | .non => .ok (.bl (isNon d))
  | _ => .st
def notN (d e : D) : Oc D := match e with
  | .non => .ok (.bl (!isNon d))
  | _ => .st
def addD (d e : D) : Oc D := match d, e with
  | .int i, .int j => .ok (.int (i + j))
  | .str x, .str y => chk (decide (x.length + y.length ≤ sizeLine)) (.ok (.str (x ++ y)))
  | .lst xs, .lst ys => chk (decide (xs.length + ys.length ≤ sizeLine)) (.ok (.lst (xs ++ ys)))
  | .tup xs, .tup ys => chk (decide (xs.length + ys.length ≤ sizeLine)) (.ok (.tup (xs ++ ys)))
  | _, _ => .st
def subD (d e : D) : Oc D := match d, e with
  | .int i, .int j => .ok (.int (i - j))
  | _, _ => .st
def mulD (d e : D) : Oc D := match d, e with
  | .int i, .int j => chk (decide ((-(2 ^ 64) < i ∧ i < 2 ^ 64) ∨ (-(2 ^ 64) < j ∧ j < 2 ^ 64))) (.ok (.int (i * j)))
  | .lst xs, .int k => chk (decide (-(2 ^ 63) ≤ k ∧ k < 2 ^ 63 ∧ xs.length * k.toNat ≤ sizeLine)) (.ok (.lst (List.replicate k.toNat xs).flatten))
  | _, _ => .st
def fdivD (d e : D) : Oc D := match d, e with
  | .int i, .int j => chk (decide (0 < j ∧ j < 1073741824)) (.ok (.int (i / j)))
  | _, _ => .st
def modD (d e : D) : Oc D := match d, e with
  | .int i, .int j => chk (decide (0 < j)) (.ok (.int (i % j)))
  | _, _ => .st
def powD (d e : D) : Oc D := match d, e with
  | .int i, .int j => chk (decide (0 ≤ j ∧ j ≤ 1000000 ∧ i.natAbs < 2 ^ 64)) (.ok (.int (i ^ j.toNat)))
  | _, _ => .st
def ixD (d e : D) : Oc D := match d, e with
  | .str z, .int i => chk (decide (z.length ≤ sizeLine)) (match atI z.cps.toList i with
    | some c => .ok (.str ⟨#[c]⟩)
    | none => .st)
  | d, .int i => match items d with
    | some ds => match atI ds i with
      | some x => .ok x
      | none => .st
    | none => .st
  | _, _ => .st

theorem chk_some {α : Type} {b : Bool} {o : Oc α} {P : Oc α → Prop} (hst : ¬ P .st) (h : P (chk b o)) : b = true ∧ P o := by
  cases b with
  | true => exact ⟨rfl, h⟩
  | false => exact absurd h hst
theorem repL_rep {G : Hp} {xs : List V} {ds : List D} (r : RepL K mg ww G xs ds) : ∀ k : Nat, RepL K mg ww G (List.replicate k xs).flatten (List.replicate k ds).flatten
  | 0 => .nil
  | k + 1 => by
    rw [List.replicate_succ, List.flatten_cons, List.replicate_succ, List.flatten_cons]
    exact r.append (repL_rep r k)

section
variable {X : Cx} {W : WX} {U : XK} {a b c e : Expr} {es : List Expr} {f g h : En → Oc D} {pos : Pos}
variable {G H : Hp} {x y : V} {d1 d2 : D} {Q : VK}

theorem PostE.here {d : D} {v : V} (h : PostE K mg ww U G H Q (.ok d)) (s : Vw G H) (r : Rep K mg ww G v d) : Q v H := h v G H (.refl s) r

theorem dnil : ∀ {x : V}, Rep K mg ww G x .non → x = .non := fun h => by cases h; rfl
theorem PostE.chk {b : Bool} {o : Oc D} (h : PostE K mg ww U G H Q (chk b o)) : b = true ∧ PostE K mg ww U G H Q o := chk_some (P := PostE K mg ww U G H Q) (fun z => z) h
theorem PostF.chk {b : Bool} {o : Oc D} (h : PostF K mg ww U G H Q (Fx.chk b o)) : b = true ∧ PostF K mg ww U G H Q o := chk_some (P := PostF K mg ww U G H Q) (fun z => z) h
theorem PostE.newL {ds : List D} {xs : List V} (s : Vw G H) (r : RepL K mg ww G xs ds) (h : PostE K mg ww U G H Q (.ok (.lst ds))) : ∀ p, H p = none → Q (.ref p) (upd H p (.lst xs)) := fun p hp => by
  have x := Ext.new (o := .lst xs) s hp
  exact h _ _ _ x (.lst upd_same (r.same x.gg))
theorem PostE.newT {ds : List D} {xs : List V} (s : Vw G H) (r : RepL K mg ww G xs ds) (h : PostE K mg ww U G H Q (.ok (.tup ds))) : ∀ p, H p = none → Q (.ref p) (upd H p (.tup xs)) := fun p hp => by
  have x := Ext.new (o := .tup xs) s hp
  exact h _ _ _ x (.tup (SqT.of upd_same) (r.same x.gg))
theorem PostF.newL {ds : List D} {xs : List V} (s : Vw G H) (r : RepL K mg ww G xs ds) (h : PostF K mg ww U G H Q (.ok (.lst ds))) : ∀ p, H p = none → Q (.ref p) (upd H p (.lst xs)) := fun p hp =>
  h p G _ (Ext.newH s hp) hp (s.free hp) ⟨xs, upd_same, r⟩

theorem se_eq (ha : SQ X W a f) (hb : SQ X W b g) (hu : X.A.units + 65 < cLine) : SE X W (.Compare a [.Eq] [b] pos) (bi eqD f g) :=
  se_op2 (fun ha hb => pe_cmpR (op_eqD (Nat.lt_of_succ_lt hu)) ha hb (nomark _)) (fun {G H x y d1 d2 Q U} s r1 r2 p => by
    unfold eqD at p
    cases e1 : toPD d1 with
    | none => rw [e1] at p; exact p.elim
    | some p1 =>
      cases e2 : toPD d2 with
      | none => rw [e1, e2] at p; exact p.elim
      | some p2 =>
        rw [e1, e2] at p
        obtain ⟨c, q⟩ := p.chk
        rw [Bool.and_eq_true] at c
        exact ⟨p1, p2, r1.dp s e1, r2.dp s e2, c.1, c.2, q.here s (.bl _)⟩) ha hb
theorem se_ne (ha : SQ X W a f) (hb : SQ X W b g) (hu : X.A.units + 65 < cLine) : SE X W (.Compare a [.NotEq] [b] pos) (bi neD f g) :=
  se_op2 (fun ha hb => pe_cmpR (op_neD (Nat.lt_of_succ_lt hu)) ha hb (nomark _)) (fun {G H x y d1 d2 Q U} s r1 r2 p => by
    unfold neD at p
    cases e1 : toPD d1 with
    | none => rw [e1] at p; exact p.elim
    | some p1 =>
      cases e2 : toPD d2 with
      | none => rw [e1, e2] at p; exact p.elim
      | some p2 =>
        rw [e1, e2] at p
        obtain ⟨c, q⟩ := p.chk
        rw [Bool.and_eq_true] at c
        exact ⟨p1, p2, r1.dp s e1, r2.dp s e2, c.1, c.2, q.here s (.bl _)⟩) ha hb
theorem op_inT (hu : X.A.units + 65 < cLine) : OpR X (compareOp .In) (fun x y H Q => ∃ d ds, Dp X.K H x d ∧ Dp X.K H y (.tuple ds) ∧ SeqAt.shaped d = true ∧ SeqAt.shaped (.tuple ds) = true ∧ Q (.bl (ds.any fun z => PyData.eqv z d)) H) := by
  intro pins s σ H x y v u Q I rx ry h
  obtain ⟨d, ds, hd, he, sd, se, q⟩ := h
  obtain ⟨as, r1⟩ := Dp.reads I d x v hd rx
  obtain ⟨bs, r2⟩ := Dp.reads I (.tuple ds) y u he ry
  exact SeqAt.in_tuple_reads r2 r1 (SeqAt.canLay_of_shaped (d := .list ds) se) (SeqAt.canLay_of_shaped sd) (room_in_shaped sd hu) ⟨.bl _, H, I, rfl, q⟩
theorem op_notInT (hu : X.A.units + 65 < cLine) : OpR X (compareOp .NotIn) (fun x y H Q => ∃ d ds, Dp X.K H x d ∧ Dp X.K H y (.tuple ds) ∧ SeqAt.shaped d = true ∧ SeqAt.shaped (.tuple ds) = true ∧ Q (.bl (!ds.any fun z => PyData.eqv z d)) H) := by
  intro pins s σ H x y v u Q I rx ry h
  obtain ⟨d, ds, hd, he, sd, se, q⟩ := h
  obtain ⟨as, r1⟩ := Dp.reads I d x v hd rx
  obtain ⟨bs, r2⟩ := Dp.reads I (.tuple ds) y u he ry
  exact SeqAt.notIn_tuple_reads r2 r1 (SeqAt.canLay_of_shaped (d := .list ds) se) (SeqAt.canLay_of_shaped sd) (room_in_shaped sd hu) ⟨.bl _, H, I, rfl, q⟩
end
end Fx

set_option Elab.async false
set_option linter.all false
set_option maxRecDepth 100000
set_option maxHeartbeats 4000000
/-! Fx2: the rules of the operations. -/
namespace Fx
open PySem PySem.Spec PyProof.Rows L2
variable {K : PySem.W.Frag} {mg : Str → Option Value} {ww : World}
theorem RepQ.int {G H : Hp} {v : V} {i : Int} : RepQ K mg ww G H v (.int i) → v = .int i
  | .inl h => by cases h; rfl
  | .inr ⟨_, _, _, z⟩ => z.elim
theorem RepQ.str {G H : Hp} {v : V} {i : Str} : RepQ K mg ww G H v (.str i) → v = .str i
  | .inl h => by cases h; rfl
  | .inr ⟨_, _, _, z⟩ => z.elim
theorem RepQ.bl {G H : Hp} {v : V} {i : Bool} : RepQ K mg ww G H v (.bl i) → v = .bl i
  | .inl h => by cases h; rfl
  | .inr ⟨_, _, _, z⟩ => z.elim
theorem RepQ.non {G H : Hp} {v : V} : RepQ K mg ww G H v .non → v = .non
  | .inl h => by cases h; rfl
  | .inr ⟨_, _, _, z⟩ => z.elim
theorem RepQ.ty {G H : Hp} {v : V} {n : String} : RepQ K mg ww G H v (.ty n) → v = .ty n
  | .inl h => by cases h; rfl
  | .inr ⟨_, _, _, z⟩ => z.elim
theorem RepQ.nonIff {G H : Hp} {v : V} {d : D} (r : RepQ K mg ww G H v d) : decide (v = .non) = isNon d := by
  rcases r with h | ⟨a, rfl, _, ow⟩
  · cases h <;> simp [isNon]
  · cases d with
    | non => exact ow.elim
    | _ => simp [isNon]
theorem RepQ.tupRep {G H : Hp} {v : V} {ds : List D} : RepQ K mg ww G H v (.tup ds) → Rep K mg ww G v (.tup ds)
  | .inl h => h
  | .inr ⟨_, _, _, z⟩ => z.elim
theorem RepQ.lstItems {G H : Hp} {v : V} {ds : List D} (s : Vw G H) (r : RepQ K mg ww G H v (.lst ds)) : ∃ a xs, v = .ref a ∧ H a = some (.lst xs) ∧ RepL K mg ww G xs ds := r.lst s

section
variable {X : Cx} {W : WX} {U : XK} {a b c e : Expr} {es : List Expr} {f g h : En → Oc D} {pos : Pos}
variable {G H : Hp} {x y : V} {d1 d2 : D} {Q : VK}

theorem occ_same (i j : Str) : (!(Builtin.Str.occurrences j i 0 j.length 1).isEmpty) = (!(Builtin.Str.occurrences j i 0 j.length 1).isEmpty) := rfl
abbrev rInA (X : Cx) (neg : Bool) : R2 := fun x y H Q =>
  (∃ i j, x = .str i ∧ y = .str j ∧ Q (.bl (if neg then !(!(Builtin.Str.occurrences j i 0 j.length 1).isEmpty) else !(Builtin.Str.occurrences j i 0 j.length 1).isEmpty)) H) ∨
  (∃ d ds, Dp X.K H x d ∧ Dp X.K H y (.list ds) ∧ SeqAt.shaped d = true ∧ SeqAt.shaped (.list ds) = true ∧ Q (.bl (if neg then !ds.any fun z => PyData.eqv z d else ds.any fun z => PyData.eqv z d)) H) ∨
  (∃ d ds, Dp X.K H x d ∧ Dp X.K H y (.tuple ds) ∧ SeqAt.shaped d = true ∧ SeqAt.shaped (.tuple ds) = true ∧ Q (.bl (if neg then !ds.any fun z => PyData.eqv z d else ds.any fun z => PyData.eqv z d)) H)
theorem op_inA (hu : X.A.units + 65 < cLine) : OpR X (compareOp .In) (rInA X false) := op_in_str.or ((op_inD hu).or (op_inT hu))
theorem op_ninA (hu : X.A.units + 65 < cLine) : OpR X (compareOp .NotIn) (rInA X true) := op_notin_str.or ((op_notInD hu).or (op_notInT hu))
theorem inA_of {neg : Bool} {t : Bool} (s : Vw G H) (r1 : RepQ X.K X.mg X.w G H x d1) (r2 : RepQ X.K X.mg X.w G H y d2) (e : inB d1 d2 = some t) (q : Q (.bl (if neg then !t else t)) H) : rInA X neg x y H Q := by
  unfold inB at e
  split at e
  · have e := Option.some.inj e
    exact .inl ⟨_, _, r1.str, r2.str, by rw [e]; exact q⟩
  · split at e
    · rename_i h1 h2
      split at e
      · rename_i hc
        rw [Bool.and_eq_true] at hc
        have e := Option.some.inj e
        exact .inr (.inl ⟨_, _, r1.dp s h1, r2.dp s h2, hc.1, hc.2, by rw [e]; exact q⟩)
      · cases e
    · rename_i h1 h2
      split at e
      · rename_i hc
        rw [Bool.and_eq_true] at hc
        have e := Option.some.inj e
        exact .inr (.inr ⟨_, _, r1.dp s h1, r2.dp s h2, hc.1, hc.2, by rw [e]; exact q⟩)
      · cases e
    · cases e
theorem se_in (ha : SQ X W a f) (hb : SQ X W b g) (hu : X.A.units + 65 < cLine) (hm : behindInMarks .In b = false := by rfl) : SE X W (.Compare a [.In] [b] pos) (bi inD f g) :=
  se_op2 (fun ha hb => pe_cmpR (op_inA hu) ha hb hm) (fun {G H x y d1 d2 Q U} s r1 r2 p => by
    unfold inD at p
    cases e : inB d1 d2 with
    | none => rw [e] at p; exact p.elim
    | some t => rw [e] at p; exact inA_of (neg := false) s r1 r2 e (p.here s (.bl _))) ha hb
theorem se_nin (ha : SQ X W a f) (hb : SQ X W b g) (hu : X.A.units + 65 < cLine) (hm : behindInMarks .NotIn b = false := by rfl) : SE X W (.Compare a [.NotIn] [b] pos) (bi ninD f g) :=
  se_op2 (fun ha hb => pe_cmpR (op_ninA hu) ha hb hm) (fun {G H x y d1 d2 Q U} s r1 r2 p => by
    unfold ninD at p
    cases e : inB d1 d2 with
    | none => rw [e] at p; exact p.elim
    | some t => rw [e] at p; exact inA_of (neg := true) s r1 r2 e (p.here s (.bl _))) ha hb

theorem cmp_of {q : Int → Int → Bool} (s : Vw G H) (r1 : RepQ X.K X.mg X.w G H x d1) (r2 : RepQ X.K X.mg X.w G H y d2) (p : PostE X.K X.mg X.w U G H Q (cmpD q d1 d2)) : rI0 (fun i j => .bl (q i j)) x y H Q := by
  unfold cmpD at p
  split at p
  · exact ⟨_, _, r1.int, r2.int, p.here s (.bl _)⟩
  · exact p.elim
theorem se_lt (ha : SQ X W a f) (hb : SQ X W b g) : SE X W (.Compare a [.Lt] [b] pos) (bi (cmpD fun i j => decide (i < j)) f g) := se_op2 (fun ha hb => pe_cmpR op_lt ha hb (nomark _)) cmp_of ha hb
theorem se_le (ha : SQ X W a f) (hb : SQ X W b g) : SE X W (.Compare a [.LtE] [b] pos) (bi (cmpD fun i j => decide (i ≤ j)) f g) := se_op2 (fun ha hb => pe_cmpR op_le ha hb (nomark _)) cmp_of ha hb
theorem se_gt (ha : SQ X W a f) (hb : SQ X W b g) : SE X W (.Compare a [.Gt] [b] pos) (bi (cmpD fun i j => decide (j < i)) f g) := se_op2 (fun ha hb => pe_cmpR op_gt ha hb (nomark _)) cmp_of ha hb
theorem se_ge (ha : SQ X W a f) (hb : SQ X W b g) : SE X W (.Compare a [.GtE] [b] pos) (bi (cmpD fun i j => decide (j ≤ i)) f g) := se_op2 (fun ha hb => pe_cmpR op_ge ha hb (nomark _)) cmp_of ha hb
theorem se_isN (ha : SQ X W a f) (hb : SQ X W b g) : SE X W (.Compare a [.Is] [b] pos) (bi isN f g) := se_op2 (fun ha hb => pe_cmpR op_isN ha hb (nomark _)) (fun {G H x y d1 d2 Q U} s r1 r2 p => by
    unfold isN at p
    split at p
    · refine ⟨r2.non, ?_⟩
      rw [r1.nonIff]
      exact p.here s (.bl _)
    · exact p.elim) ha hb
theorem se_notN (ha : SQ X W a f) (hb : SQ X W b g) : SE X W (.Compare a [.IsNot] [b] pos) (bi notN f g) := se_op2 (fun ha hb => pe_cmpR op_notN ha hb (nomark _)) (fun {G H x y d1 d2 Q U} s r1 r2 p => by
    unfold notN at p
    split at p
    · refine ⟨r2.non, ?_⟩
      rw [r1.nonIff]
      exact p.here s (.bl _)
    · exact p.elim) ha hb

theorem nilL {xs : List V} {ds : List D} (r : RepL K mg ww G xs ds) : xs = [] ↔ ds = [] := by cases r <;> simp
theorem se_add (ha : SQ X W a f) (hb : SQ X W b g) : SE X W (.BinOp a .Add b pos) (bi addD f g) :=
  se_op2 (fun ha hb => pe_op (op_add.or (op_add_str.or (op_cat.or op_catA))) ha hb) (fun {G H x y d1 d2 Q U} s r1 r2 p => by
    unfold addD at p
    split at p
    · exact .inl ⟨_, _, r1.int, r2.int, p.here s (.int _)⟩
    · obtain ⟨c, p⟩ := p.chk
      exact .inr (.inl ⟨_, _, r1.str, r2.str, of_decide_eq_true c, p.here s (.str _)⟩)
    · obtain ⟨c, p⟩ := p.chk
      obtain ⟨l1, xs1, e1, h1, q1⟩ := r1.lst s
      obtain ⟨l2, xs2, e2, h2, q2⟩ := r2.lst s
      exact .inr (.inr (.inl ⟨l1, l2, xs1, xs2, e1, e2, h1, h2, by rw [q1.length, q2.length]; exact of_decide_eq_true c, p.newL s (q1.append q2)⟩))
    · obtain ⟨c, p⟩ := p.chk
      have t1 := r1.tupRep
      have t2 := r2.tupRep
      obtain ⟨l1, xs1, e1, h1, q1⟩ := r1.tup s
      obtain ⟨l2, xs2, e2, h2, q2⟩ := r2.tup s
      subst e1 e2
      refine .inr (.inr (.inr ⟨l1, l2, xs1, xs2, rfl, rfl, h1, h2, by rw [q1.length, q2.length]; exact of_decide_eq_true c, fun z => ?_, fun _ z => ?_, fun _ _ => p.newT s (q1.append q2)⟩))
      · have z1 := (nilL q1).mp z
        subst z1
        exact p.here s t2
      · have z1 := (nilL q2).mp z
        subst z1
        rw [List.append_nil] at p
        exact p.here s t1
    · exact p.elim) ha hb
theorem se_sub (ha : SQ X W a f) (hb : SQ X W b g) : SE X W (.BinOp a .Sub b pos) (bi subD f g) :=
  se_op2 (fun ha hb => pe_op op_sub ha hb) (fun {G H x y d1 d2 Q U} s r1 r2 p => by
    unfold subD at p
    split at p
    · exact ⟨_, _, r1.int, r2.int, p.here s (.int _)⟩
    · exact p.elim) ha hb
theorem se_mul (ha : SQ X W a f) (hb : SQ X W b g) : SE X W (.BinOp a .Mult b pos) (bi mulD f g) :=
  se_op2 (fun ha hb => pe_op (op_mul.or op_rep) ha hb) (fun {G H x y d1 d2 Q U} s r1 r2 p => by
    unfold mulD at p
    split at p
    · obtain ⟨c, p⟩ := p.chk
      exact .inl ⟨_, _, r1.int, r2.int, (show CMul _ _ by unfold CMul; simpa using c), p.here s (.int _)⟩
    · obtain ⟨c, p⟩ := p.chk
      obtain ⟨c1, c2, c3⟩ := of_decide_eq_true c
      obtain ⟨l1, xs1, e1, h1, q1⟩ := r1.lst s
      exact .inr ⟨l1, _, xs1, e1, r2.int, h1, c1, c2, by rw [q1.length]; exact c3, p.newL s (repL_rep q1 _)⟩
    · exact p.elim) ha hb
theorem se_fdiv (ha : SQ X W a f) (hb : SQ X W b g) : SE X W (.BinOp a .FloorDiv b pos) (bi fdivD f g) :=
  se_op2 (fun ha hb => pe_op op_fdiv ha hb) (fun {G H x y d1 d2 Q U} s r1 r2 p => by
    unfold fdivD at p
    split at p
    · obtain ⟨c, p⟩ := p.chk
      exact ⟨_, _, r1.int, r2.int, (show CDiv _ _ by unfold CDiv; simpa using c), p.here s (.int _)⟩
    · exact p.elim) ha hb
theorem se_mod (ha : SQ X W a f) (hb : SQ X W b g) : SE X W (.BinOp a .Mod b pos) (bi modD f g) :=
  se_op2 (fun ha hb => pe_op op_mod ha hb) (fun {G H x y d1 d2 Q U} s r1 r2 p => by
    unfold modD at p
    split at p
    · obtain ⟨c, p⟩ := p.chk
      exact ⟨_, _, r1.int, r2.int, of_decide_eq_true c, p.here s (.int _)⟩
    · exact p.elim) ha hb
theorem se_pow (ha : SQ X W a f) (hb : SQ X W b g) : SE X W (.BinOp a .Pow b pos) (bi powD f g) :=
  se_op2 (fun ha hb => pe_op op_pow ha hb) (fun {G H x y d1 d2 Q U} s r1 r2 p => by
    unfold powD at p
    split at p
    · obtain ⟨c, p⟩ := p.chk
      exact ⟨_, _, r1.int, r2.int, (show CPow _ _ by unfold CPow; simpa using c), p.here s (.int _)⟩
    · exact p.elim) ha hb

theorem atI_repL {xs : List V} {ds : List D} {i : Int} {d : D} (r : RepL K mg ww G xs ds) (h : atI ds i = some d) : ∃ v, atI xs i = some v ∧ Rep K mg ww G v d := by
  unfold atI at h ⊢
  rw [r.length]
  obtain ⟨j, e1, e2⟩ := Option.bind_eq_some_iff.mp h
  obtain ⟨v, h1, h2⟩ := r.get e2
  exact ⟨v, by rw [e1]; exact h1, h2⟩
theorem se_ix (ha : SQ X W a f) (hb : SQ X W b g) (hs : PlainIx b) : SE X W (.Subscript a b pos) (bi ixD f g) :=
  se_op2 (fun ha hb => pe_ix ix_seq ha hb hs) (fun {G H x y d1 d2 Q U} s r1 r2 p => by
    unfold ixD at p
    split at p
    · obtain ⟨c, p⟩ := p.chk
      split at p
      · rename_i hat
        exact .inr (.inr ⟨_, _, _, r1.str, r2.int, of_decide_eq_true c, hat, p.here s (.str _)⟩)
      · exact p.elim
    · split at p
      · rename_i ds hds
        split at p
        · rename_i d hat
          obtain ⟨q, xs, e, hq, r⟩ := r1.seq s hds
          obtain ⟨v, hv, rv⟩ := atI_repL r hat
          rcases hq with hq | hq
          · exact .inl ⟨q, xs, _, v, e, r2.int, hq, hv, p.here s rv⟩
          · exact .inr (.inl ⟨q, xs, _, v, e, r2.int, hq, hv, p.here s rv⟩)
        · exact p.elim
      · exact p.elim
    · exact p.elim) ha hb

/-! ### one-place -/
theorem se_un {r : V → Hp → VK → Prop} {F : D → Oc D} (rule : ∀ {ta : TE}, PE X a ta → PE X e (tUn r ta))
    (hr : ∀ {G H x d1 Q U}, Vw G H → RepQ X.K X.mg X.w G H x d1 → PostE X.K X.mg X.w U G H Q (F d1) → r x H Q)
    (ha : SQ X W a f) : SE X W e (un F f) := PE.weak (rule ha) fun σ H Q ⟨G, ρ, R, p⟩ => by
  refine ⟨G, ρ, R, ?_⟩
  revert p
  unfold un
  cases f ρ with
  | st => exact id
  | ex c => exact id
  | ok d1 =>
    intro p x G1 H1 x1 r1
    exact hr x1.gh r1 (PostE.imp x1 p fun _ _ q => q)
theorem sf_un {r : V → Hp → VK → Prop} {F : D → Oc D} (rule : ∀ {ta : TE}, PE X a ta → PE X e (tUn r ta))
    (hr : ∀ {G H x d1 Q U}, Vw G H → RepQ X.K X.mg X.w G H x d1 → PostF X.K X.mg X.w U G H Q (F d1) → r x H Q)
    (ha : SQ X W a f) : SF X W e (un F f) := PE.weak (rule ha) fun σ H Q ⟨G, ρ, R, p⟩ => by
  refine ⟨G, ρ, R, ?_⟩
  revert p
  unfold un
  cases f ρ with
  | st => exact id
  | ex c => exact id
  | ok d1 =>
    intro p x G1 H1 x1 r1
    refine hr (U := fun c d H' => W c d σ H') x1.gh r1 ?_
    revert p
    simp only [bd_ok]
    cases F d1 with
    | st => exact id
    | ex c => exact fun p C G' H' e m => p C G' H' (x1.trans e) m
    | ok d => exact fun p a G' H' x ha ga ow => p a G' H' (x1.trans x) (x1.hh.free ha) ga ow
def negD : D → Oc D
  | .int i => .ok (.int (-i))
  | _ => .st
theorem se_neg (ha : SQ X W a f) : SE X W (.UnaryOp .USub a pos) (un negD f) := se_un (fun ha => pe_un un_neg ha) (fun {G H x d1 Q U} s r p => by
  unfold negD at p
  split at p
  · exact ⟨_, r.int, p.here s (.int _)⟩
  · exact p.elim) ha

/-! ### calls of built-ins of one argument -/
def lenD : D → Oc D
  | .str z => chk (decide (z.length ≤ sizeLine)) (.ok (.int z.length))
  | d => match items d with
    | some ds => .ok (.int ds.length)
    | none => .st
def intD : D → Oc D
  | .int i => .ok (.int i)
  | .bl k => .ok (.int (if k then 1 else 0))
  | _ => .st
def listD (d : D) : Oc D := match items d with
  | some ds => .ok (.lst ds)
  | none => .st
def tupleD (d : D) : Oc D := match items d with
  | some ds => .ok (.tup ds)
  | none => .st
def allBl : List D → Option (List Bool)
  | [] => some []
  | .bl b :: ds => (allBl ds).map (b :: ·)
  | _ => none
def allD (d : D) : Oc D := match d with
  | .lst ds => match allBl ds with
    | some bs => .ok (.bl (bs.all id))
    | none => .st
  | _ => .st
def anyD (d : D) : Oc D := match d with
  | .lst ds => match allBl ds with
    | some bs => .ok (.bl (bs.any id))
    | none => .st
  | _ => .st
def allInt : List D → Option (List Int)
  | [] => some []
  | .int b :: ds => (allInt ds).map (b :: ·)
  | _ => none
def isort : List Int → List Int := fun l => l.mergeSort (fun a b => decide (a ≤ b))
def sortedID (d : D) : Oc D := match d with
  | .lst ds => match allInt ds with
    | some bs => .ok (.lst ((isort bs).map .int))
    | none => .st
  | _ => .st
theorem allBl_rep : ∀ {xs : List V} {ds : List D} {bs : List Bool}, RepL K mg ww G xs ds → allBl ds = some bs → xs = bs.map V.bl
  | _, [], bs, r, e => by cases r; cases e; rfl
  | _, d :: ds, bs, r, e => by
    cases r with
    | cons r t =>
      cases d with
      | bl b =>
        simp only [allBl] at e
        obtain ⟨q, h1, h2⟩ := Option.map_eq_some_iff.mp e
        subst h2
        cases r
        rw [List.map_cons, allBl_rep t h1]
      | _ => cases e
theorem allInt_rep : ∀ {xs : List V} {ds : List D} {bs : List Int}, RepL K mg ww G xs ds → allInt ds = some bs → xs = bs.map V.int
  | _, [], bs, r, e => by cases r; cases e; rfl
  | _, d :: ds, bs, r, e => by
    cases r with
    | cons r t =>
      cases d with
      | int b =>
        simp only [allInt] at e
        obtain ⟨q, h1, h2⟩ := Option.map_eq_some_iff.mp e
        subst h2
        cases r
        rw [List.map_cons, allInt_rep t h1]
      | _ => cases e
theorem repL_ints : ∀ bs : List Int, RepL K mg ww G (bs.map V.int) (bs.map D.int)
  | [] => .nil
  | b :: bs => .cons (.int b) (repL_ints bs)
theorem pe_B1 {id : String} {r : List V → Hp → VK → Prop} {nm : Str} {p : Pos} {ta : TE} (hc : CallR X (.builtin id) r) (hg : Gl X nm) (hm : X.mg nm = none) (hv : bootBuiltins nm = some (.builtin id)) (ha : PE X a ta) (hn : nm ≠ "__name__" := by decide) (hdb : (nm == ("__debug__" : Str)) = false := by decide)
    (he : starEach [a] X.env = (false, eval a X.env) :: starEach [] X.env := by rfl) : PE X (.Call (.Name nm p) [a] [] pos) (tUn (fun x H Q => r [x] H Q) ta) :=
  PE.weak (pe_callB hc hg hm hv (pa_cons ha pa_nil he) hn hdb he) fun σ H Q h => h
theorem pe_T1 {T : String} {r : List V → Hp → VK → Prop} {nm : Str} {p : Pos} {ta : TE} (hc : CallR X (.type T) r) (hg : Gl X nm) (hm : X.mg nm = none) (hv : bootBuiltins nm = some (.type T)) (ha : PE X a ta) (hn : nm ≠ "__name__" := by decide) (hdb : (nm == ("__debug__" : Str)) = false := by decide)
    (he : starEach [a] X.env = (false, eval a X.env) :: starEach [] X.env := by rfl) : PE X (.Call (.Name nm p) [a] [] pos) (tUn (fun x H Q => r [x] H Q) ta) :=
  PE.weak (pe_callTy hc hg hm hv (pa_cons ha pa_nil he) hn hdb he) fun σ H Q h => h
theorem se_len {p : Pos} (hg : Gl X "len") (hm : X.mg "len" = none) (ha : SQ X W a f) (he : starEach [a] X.env = (false, eval a X.env) :: starEach [] X.env := by rfl) : SE X W (.Call (.Name "len" p) [a] [] pos) (un lenD f) :=
  se_un (fun ha => pe_B1 call_len hg hm PySem.boot_len ha (by decide) (by decide) he) (fun {G H x d1 Q U} s r p => by
    unfold lenD at p
    split at p
    · obtain ⟨c, p⟩ := p.chk
      rw [r.str]
      exact ⟨_, _, rfl, ⟨of_decide_eq_true c, rfl⟩, p.here s (.int _)⟩
    · split at p
      · rename_i ds hds
        obtain ⟨q, xs, e, hq, rr⟩ := r.seq s hds
        subst e
        refine ⟨_, ds.length, rfl, ?_, p.here s (.int _)⟩
        rw [← rr.length]
        rcases hq with hq | hq
        · exact .inl ⟨xs, hq, rfl⟩
        · exact .inr ⟨xs, hq, rfl⟩
      · exact p.elim) ha
theorem se_int1 {p : Pos} (hg : Gl X "int") (hm : X.mg "int" = none) (ha : SQ X W a f) (he : starEach [a] X.env = (false, eval a X.env) :: starEach [] X.env := by rfl) : SE X W (.Call (.Name "int" p) [a] [] pos) (un intD f) :=
  se_un (fun ha => pe_T1 call_int1 hg hm (by decide +kernel) ha (by decide) (by decide) he) (fun {G H x d1 Q U} s r p => by
    unfold intD at p
    split at p
    · rw [r.int]; exact .inl ⟨_, rfl, p.here s (.int _)⟩
    · rw [r.bl]; exact .inr ⟨_, rfl, p.here s (.int _)⟩
    · exact p.elim) ha
theorem sf_list {p : Pos} (hg : Gl X "list") (hm : X.mg "list" = none) (ha : SQ X W a f) (he : starEach [a] X.env = (false, eval a X.env) :: starEach [] X.env := by rfl) : SF X W (.Call (.Name "list" p) [a] [] pos) (un listD f) :=
  sf_un (fun ha => pe_T1 call_list_of hg hm (by decide +kernel) ha (by decide) (by decide) he) (fun {G H x d1 Q U} s r p => by
    unfold listD at p
    split at p
    · rename_i ds hds
      obtain ⟨q, xs, e, hq, rr⟩ := r.seq s hds
      subst e
      exact ⟨q, xs, rfl, hq, p.newL s rr⟩
    · exact p.elim) ha
theorem se_tuple {p : Pos} (hg : Gl X "tuple") (hm : X.mg "tuple" = none) (ha : SQ X W a f) (he : starEach [a] X.env = (false, eval a X.env) :: starEach [] X.env := by rfl) : SE X W (.Call (.Name "tuple" p) [a] [] pos) (un tupleD f) :=
  se_un (fun ha => pe_T1 call_tuple_of hg hm (by decide +kernel) ha (by decide) (by decide) he) (fun {G H x d1 Q U} s r p => by
    unfold tupleD at p
    split at p
    · rename_i ds hds
      cases d1 with
      | lst es =>
        cases hds
        obtain ⟨q, xs, e, hq, rr⟩ := r.lst s
        subst e
        exact ⟨q, xs, rfl, .inl ⟨SqL.of hq, p.newT s rr⟩⟩
      | tup es =>
        cases hds
        have t := r.tupRep
        obtain ⟨q, xs, e, hq, rr⟩ := r.tup s
        subst e
        exact ⟨q, xs, rfl, .inr ⟨hq, p.here s t⟩⟩
      | fz es =>
        cases hds
        obtain ⟨q, xs, e, hq, rr⟩ := r.fz s
        subst e
        exact ⟨q, xs, rfl, .inl ⟨hq, p.newT s rr⟩⟩
      | _ => cases hds
    · exact p.elim) ha
theorem se_all {p : Pos} (hc : X.calm = true) (hg : Gl X "all") (hm : X.mg "all" = none) (ha : SQ X W a f) (he : starEach [a] X.env = (false, eval a X.env) :: starEach [] X.env := by rfl) : SE X W (.Call (.Name "all" p) [a] [] pos) (un allD f) :=
  se_un (fun ha => pe_B1 (cr_all hc) hg hm (by decide +kernel) ha (by decide) (by decide) he) (fun {G H x d1 Q U} s r p => by
    unfold allD at p
    split at p
    · split at p
      · rename_i bs hb
        obtain ⟨q, xs, e, hq, rr⟩ := r.lst s
        subst e
        rw [allBl_rep rr hb] at hq
        exact ⟨q, bs, rfl, SqL.of hq, p.here s (.bl _)⟩
      · exact p.elim
    · exact p.elim) ha
theorem se_any {p : Pos} (hc : X.calm = true) (hg : Gl X "any") (hm : X.mg "any" = none) (ha : SQ X W a f) (he : starEach [a] X.env = (false, eval a X.env) :: starEach [] X.env := by rfl) : SE X W (.Call (.Name "any" p) [a] [] pos) (un anyD f) :=
  se_un (fun ha => pe_B1 (cr_any hc) hg hm (by decide +kernel) ha (by decide) (by decide) he) (fun {G H x d1 Q U} s r p => by
    unfold anyD at p
    split at p
    · split at p
      · rename_i bs hb
        obtain ⟨q, xs, e, hq, rr⟩ := r.lst s
        subst e
        rw [allBl_rep rr hb] at hq
        exact ⟨q, bs, rfl, SqL.of hq, p.here s (.bl _)⟩
      · exact p.elim
    · exact p.elim) ha
theorem isort_perm (l : List Int) : (isort l).Perm l := List.mergeSort_perm l _
theorem isort_sorted (l : List Int) : (isort l).Pairwise (· ≤ ·) := by
  have h := List.pairwise_mergeSort (le := fun a b : Int => decide (a ≤ b)) (fun a b c h1 h2 => by simp at *; omega) (fun a b => by simp; omega) l
  exact h.imp fun h => of_decide_eq_true h
theorem sorted_unique {l m : List Int} (hp : l.Perm m) (h1 : l.Pairwise (· ≤ ·)) (h2 : m.Pairwise (· ≤ ·)) : l = m :=
  hp.eq_of_pairwise (fun a b _ _ h1 h2 => Int.le_antisymm h1 h2) h1 h2
theorem sf_sortedI {p : Pos} (hg : Gl X "sorted") (hm : X.mg "sorted" = none) (ha : SQ X W a f) (he : starEach [a] X.env = (false, eval a X.env) :: starEach [] X.env := by rfl) : SF X W (.Call (.Name "sorted" p) [a] [] pos) (un sortedID f) :=
  sf_un (fun ha => pe_B1 cr_sortedI hg hm (by decide +kernel) ha (by decide) (by decide) he) (fun {G H x d1 Q U} s r p => by
    unfold sortedID at p
    split at p
    · split at p
      · rename_i bs hb
        obtain ⟨q, xs, e, hq, rr⟩ := r.lst s
        subst e
        rw [allInt_rep rr hb] at hq
        refine ⟨q, bs, rfl, SqL.of hq, fun ns' pa hp ho hf => ?_⟩
        have e2 : ns' = isort bs := sorted_unique (hp.trans (isort_perm bs).symm) ho (isort_sorted bs)
        rw [e2]
        exact p.newL s (repL_ints _) pa hf
      · exact p.elim
    · exact p.elim) ha
end
end Fx

set_option Elab.async false
set_option linter.all false
set_option maxRecDepth 100000
set_option maxHeartbeats 4000000
/-! Fx3: argument lists, displays, calls, attributes, slices, tests. -/
namespace Fx
open PySem PySem.Spec PyProof.Rows L2
variable {K : PySem.W.Frag} {mg : Str → Option Value} {ww : World}

/-! ### calls, what they may let out told by the names' values -/
section
variable {X : Cx} {W : WX} {k : Nat} {f C : Addr} {fd : FuncData} {ps : List Str} {sp : Sp} {dvs : List V} {ds : List Value} {x : Str} {p pos : Pos} {e : Expr} {es : List Expr} {t : TA}
theorem runW {pins : List (Addr × Obj)} {σ : L2.St} {H : Hp} {s : Shared} {Q : VK} {us : List Value} {vs : List V} (ok : FnOk X.prog X.w X.K X.mg X.base (L2.CX X.prog X.w) k f fd ps sp) (room : Room k X.A) (bi : Binds X.K fd ps ds) (dv : Vals dvs ds) (tk : Takes X W)
    (I : Inv X pins σ H s) (r : Vals vs us) (h : sp (vs ++ dvs) H Q (fun c d H' => W c d σ H')) : wpAny (model X.prog X.w) X.A (call (.ref f) us) (EP X pins σ Q) X.xe s := by
  have rr := r.append dv
  have len : (us ++ ds).length = ps.length := by rw [← rr.length]; exact ok.len _ _ _ _ h
  refine wpAny_call (codeAny_mono (ok.run X.A X.stack s H ⟨us, []⟩ (us ++ ds) (vs ++ dvs) Q _ room I.env0 (bi s us I.kIn len) rr h) fun res s' z => ?_)
  cases res with
  | ok fl =>
    cases fl with
    | ret u => exact I.after z
    | next => cases z
    | brk => cases z
    | cont => cases z
  | error u => exact tk u s' (XE.of_call I (fun _ _ _ q => q) z)
theorem pe_callW (ok : FnOk X.prog X.w X.K X.mg X.base (L2.CX X.prog X.w) k f fd ps sp) (room : Room k X.A) (gl : Gl X x) (gm : X.mg x = some (.ref f)) (kp : PySem.W.keepIn X.K (.ref f) = true) (bi : Binds X.K fd ps ds) (dv : Vals dvs ds) (tk : Takes X W)
    (ha : PA X (e :: es) t) (hdb : (x == ("__debug__" : Str)) = false := by decide) (he : starEach (e :: es) X.env = (false, eval e X.env) :: starEach es X.env := by rfl) (hpl : (backTo pos (starEach es X.env)).any (·.1) = false := by rfl) :
    PE X (.Call (.Name x p) (e :: es) [] pos) (fun σ H Q => t σ H fun vs H1 => sp (vs ++ dvs) H1 Q fun c d H' => W c d σ H') := by
  refine ⟨fun pins s σ H Q I h => wpAny_Call_Name_kw (ld_glob I gl gm ?_ hdb)⟩
  exact PySem.W.callWith_K (h₀ := X.base) I.ok.mod.kin kp (thn (ha.run pos pins s σ H _ I h) fun us s1 ⟨vs, H1, I1, r, q⟩ => ⟨I1.kIn, runW ok room bi dv tk I1 r q⟩) he hpl
theorem pe_call0W (ok : FnOk X.prog X.w X.K X.mg X.base (L2.CX X.prog X.w) k f fd ps sp) (room : Room k X.A) (gl : Gl X x) (gm : X.mg x = some (.ref f)) (kp : PySem.W.keepIn X.K (.ref f) = true) (bi : Binds X.K fd ps ds) (dv : Vals dvs ds) (tk : Takes X W)
    (hdb : (x == ("__debug__" : Str)) = false := by decide) : PE X (.Call (.Name x p) [] [] pos) (fun σ H Q => sp ([] ++ dvs) H Q fun c d H' => W c d σ H') := by
  refine ⟨fun pins s σ H Q I h => wpAny_Call_Name_kw (ld_glob I gl gm ?_ hdb)⟩
  exact PySem.W.callWith_K0 I.kIn kp (runW (us := []) ok room bi dv tk I .nil h)
theorem makeW {pins : List (Addr × Obj)} {σ : L2.St} {H : Hp} {s : Shared} {Q : VK} {us : List Value} {vs : List V} (M : Mk X.K C f) (ok : FnOk X.prog X.w X.K X.mg X.base (L2.CX X.prog X.w) k f fd ps sp) (room : Room (k + 1) X.A) (bi : Binds X.K fd ps ds) (dv : Vals dvs ds) (tk : Takes X W)
    (I : Inv X pins σ H s) (r : Vals vs us)
    (h : ∀ y dy, H y = none → H dy = none → dy ≠ y → sp (.ref y :: (vs ++ dvs)) (upd (upd H dy (.own y)) y (.ins C dy [])) (fun v H2 => v = .non ∧ Q (.ref y) H2) fun c d H' => W c d σ H') :
    wpAny (model X.prog X.w) X.A (call (.ref C) us) (EP X pins σ Q) X.xe s := by
  have q0 := h (s.heap.objs.size + 1) s.heap.objs.size (I.hok.fresh (Nat.le_succ _)) (I.hok.fresh (Nat.le_refl _)) (Nat.ne_of_lt (Nat.lt_succ_self _))
  have J := Inv.made (C := C) I
  have rr : Vals (V.ref (s.heap.objs.size + 1) :: (vs ++ dvs)) (Value.ref (s.heap.objs.size + 1) :: (us ++ ds)) := .cons rfl (r.append dv)
  have len : (Value.ref (s.heap.objs.size + 1) :: us ++ ds).length = ps.length := by
    have z := rr.length
    rw [ok.len _ _ _ _ q0] at z
    exact z.symm
  refine wpAny_call (make_map (f := f) I.kIn M.makes M.init (beq_iff_eq.mp M.fn) (codeAny_mono (ok.run _ X.stack _ _ ⟨Value.ref (s.heap.objs.size + 1) :: us, []⟩ (Value.ref (s.heap.objs.size + 1) :: (us ++ ds)) _ _ _ (room.make C us [])
    (J.env0.make C us []) (bi _ (Value.ref (s.heap.objs.size + 1) :: us) J.kIn len) rr q0) fun res s' z => ?_))
  cases res with
  | ok fl =>
    cases fl with
    | ret u =>
      obtain ⟨v, H', K3, rv, ev, q3⟩ := J.after z
      subst ev
      exact ⟨rv, ⟨V.ref (s.heap.objs.size + 1), H', K3, rfl, q3⟩⟩
    | next => cases z
    | brk => cases z
    | cont => cases z
  | error u => exact tk u s' (XE.of_call J (fun _ _ _ q => q) z)
theorem pe_makeW (M : Mk X.K C f) (ok : FnOk X.prog X.w X.K X.mg X.base (L2.CX X.prog X.w) k f fd ps sp) (room : Room (k + 1) X.A) (gl : Gl X x) (gm : X.mg x = some (.ref C)) (bi : Binds X.K fd ps ds) (dv : Vals dvs ds) (tk : Takes X W)
    (ha : PA X (e :: es) t) (hdb : (x == ("__debug__" : Str)) = false := by decide) (he : starEach (e :: es) X.env = (false, eval e X.env) :: starEach es X.env := by rfl) (hpl : (backTo pos (starEach es X.env)).any (·.1) = false := by rfl) :
    PE X (.Call (.Name x p) (e :: es) [] pos) (fun σ H Q => t σ H fun vs H1 => ∀ y dy, H1 y = none → H1 dy = none → dy ≠ y → sp (.ref y :: (vs ++ dvs)) (upd (upd H1 dy (.own y)) y (.ins C dy [])) (fun v H2 => v = .non ∧ Q (.ref y) H2) fun c d H' => W c d σ H') := by
  refine ⟨fun pins s σ H Q I h => wpAny_Call_Name_kw (ld_glob I gl gm ?_ hdb)⟩
  exact PySem.W.callWith_K (h₀ := X.base) I.ok.mod.kin M.kp (thn (ha.run pos pins s σ H _ I h) fun us s1 ⟨vs, H1, I1, r, q⟩ => ⟨I1.kIn, makeW M ok room bi dv tk I1 r q⟩) he hpl
end
theorem PostA.imp {W : XK} {G H G1 H1 : Hp} {Q Q' : List V → Hp → Prop} {o : Oc (List D)} (x : Ext G H G1 H1) (h : PostA K mg ww W G H Q o) (q : ∀ v H, Q v H → Q' v H) : PostA K mg ww W G1 H1 Q' o := by
  cases o with
  | st => exact h
  | ok d => exact fun v G' H' e r => q _ _ (h v G' H' (x.trans e) r)
  | ex c => exact fun C G' H' e m => h C G' H' (x.trans e) m
theorem PostT.imp {W : XK} {G H G1 H1 : Hp} {Q Q' : Bool → Hp → Prop} {o : Oc Bool} (x : Ext G H G1 H1) (h : PostT K mg ww W G H Q o) (q : ∀ v H, Q v H → Q' v H) : PostT K mg ww W G1 H1 Q' o := by
  cases o with
  | st => exact h
  | ok d => exact fun G' H' e => q _ _ (h G' H' (x.trans e))
  | ex c => exact fun C G' H' e m => h C G' H' (x.trans e) m
theorem PostF.imp {W : XK} {G H G1 H1 : Hp} {Q Q' : VK} {o : Oc D} (x : Ext G H G1 H1) (h : PostF K mg ww W G H Q o) (q : ∀ v H, Q v H → Q' v H) : PostF K mg ww W G1 H1 Q' o := by
  cases o with
  | st => exact h
  | ok d => exact fun a G' H' e ha ga ow => q _ _ (h a G' H' (x.trans e) (x.hh.free ha) ga ow)
  | ex c => exact fun C G' H' e m => h C G' H' (x.trans e) m

section
variable {X : Cx} {W : WX} {U : XK} {a b c e : Expr} {es : List Expr} {f g h : En → Oc D} {fs : En → Oc (List D)} {pos : Pos}
variable {G H : Hp} {x y : V} {d1 d2 : D} {Q : VK}

/-! ### argument lists -/
def aN : En → Oc (List D) := fun _ => .ok []
def aC (f : En → Oc D) (fs : En → Oc (List D)) : En → Oc (List D) := fun ρ => bd (f ρ) fun d => bd (fs ρ) fun ds => .ok (d :: ds)
theorem sa_nil : SA X W [] aN := PA.weak pa_nil fun σ H Q ⟨G, ρ, R, p⟩ => p [] G H (.refl R.sub) .nil
theorem sa_cons (ha : SE X W a f) (hr : SA X W es fs) (hs : starEach (a :: es) X.env = (false, eval a X.env) :: starEach es X.env := by rfl) : SA X W (a :: es) (aC f fs) := PA.weak (pa_cons ha hr hs) fun σ H Q ⟨G, ρ, R, p⟩ => by
  refine ⟨G, ρ, R, ?_⟩
  revert p
  unfold aC
  cases f ρ with
  | st => exact id
  | ex c => exact id
  | ok d =>
    intro p v G1 H1 x1 r1
    refine ⟨G1, ρ, R.ext x1, ?_⟩
    revert p
    simp only [bd_ok]
    cases fs ρ with
    | st => exact id
    | ex c => exact fun p C G' H' e m => p C G' H' (x1.trans e) m
    | ok ds => exact fun p vs G2 H2 x2 r2 => p (v :: vs) G2 H2 (x1.trans x2) (.cons (r1.same x2.gg) r2)
def tpl (fs : En → Oc (List D)) : En → Oc D := fun ρ => bd (fs ρ) fun ds => chk (decide (ds.length ≤ sizeLine)) (.ok (.tup ds))
def lsd (fs : En → Oc (List D)) : En → Oc D := fun ρ => bd (fs ρ) fun ds => chk (decide (ds.length ≤ sizeLine)) (.ok (.lst ds))
theorem se_tup {j} (ha : SA X W es fs) : SE X W (.Tuple es j pos) (tpl fs) := PE.weak (pe_tup ha) fun σ H Q ⟨G, ρ, R, p⟩ => by
  refine ⟨G, ρ, R, ?_⟩
  revert p
  unfold tpl
  cases fs ρ with
  | st => exact id
  | ex c => exact id
  | ok ds =>
    intro p vs G1 H1 x1 r1
    have p := PostE.imp x1 p fun _ _ q => q
    obtain ⟨c, p⟩ := p.chk
    exact ⟨by rw [r1.length]; exact of_decide_eq_true c, p.newT x1.gh r1⟩
theorem sf_lst (ha : SA X W es fs) : SF X W (.List es pos) (lsd fs) := PE.weak (pe_lst ha) fun σ H Q ⟨G, ρ, R, p⟩ => by
  refine ⟨G, ρ, R, ?_⟩
  revert p
  unfold lsd
  cases fs ρ with
  | st => exact id
  | ex c => exact id
  | ok ds =>
    intro p vs G1 H1 x1 r1
    have p := PostF.imp x1 p fun _ _ q => q
    obtain ⟨c, p⟩ := p.chk
    exact ⟨by rw [r1.length]; exact of_decide_eq_true c, p.newL x1.gh r1⟩

/-! ### calls of defs -/
def spF (K : PySem.W.Frag) (mg : Str → Option Value) (ww : World) (n : Nat) (F : List D → Oc D) : Sp := fun vs H Q E => vs.length = n ∧ ∃ G ds, Vw G H ∧ Tabs K G H ∧ RepL K mg ww G vs ds ∧ PostE K mg ww E G H Q (F ds)
structure Kn (P : Program) (w : World) (K : PySem.W.Frag) (mg : Str → Option Value) (base : Heap) (k : Nat) (x : Str) (n : Nat) (dds : List D) (F : List D → Oc D) : Prop where
  ex : ∃ (f : Addr) (fd : FuncData) (ps : List Str) (ds : List Value) (dvs : List V), FnOk P w K mg base (L2.CX P w) k f fd ps (spF K mg w (n + dds.length) F) ∧ mg x = some (.ref f) ∧ PySem.W.keepIn K (.ref f) = true ∧ Binds K fd ps ds ∧ Vals dvs ds ∧ (∀ G, RepL K mg w G dvs dds)
abbrev XKn (X : Cx) := Kn X.prog X.w X.K X.mg X.base
def cal (F : List D → Oc D) (n : Nat) (dds : List D) (fs : En → Oc (List D)) : En → Oc D := fun ρ => bd (fs ρ) fun ds => chk (decide (ds.length = n)) (F (ds ++ dds))
theorem PostE.call {n : Nat} {vs dvs : List V} {ds dds : List D} {F : List D → Oc D} (s : Vw G H) (tb : Tabs K G H) (r : RepL K mg ww G vs ds) (rd : ∀ G, RepL K mg ww G dvs dds) (p : PostE K mg ww U G H Q (Fx.chk (decide (ds.length = n)) (F (ds ++ dds)))) : spF K mg ww (n + dds.length) F (vs ++ dvs) H Q U := by
  obtain ⟨c, p⟩ := p.chk
  exact ⟨by rw [List.length_append, r.length, (rd G).length, of_decide_eq_true c], G, ds ++ dds, s, tb, r.append (rd G), p⟩
theorem se_call {k n : Nat} {nm : Str} {dds : List D} {F : List D → Oc D} {p : Pos} (kn : XKn X k nm n dds F) (C : Ctx X W) (hr : Room k X.A) (hg : Gl X nm) (ha : SA X W (e :: es) fs) (hdb : (nm == ("__debug__" : Str)) = false := by decide)
    (he : starEach (e :: es) X.env = (false, eval e X.env) :: starEach es X.env := by rfl) (hpl : (backTo pos (starEach es X.env)).any (·.1) = false := by rfl) : SE X W (.Call (.Name nm p) (e :: es) [] pos) (cal F n dds fs) := by
  obtain ⟨f, fd, ps, ds, dvs, ok, gm, kp, b, vd, rd⟩ := kn.ex
  refine PE.weak (pe_callW ok hr hg gm kp b vd C.tk ha hdb he hpl) fun σ H Q ⟨G, ρ, R, p⟩ => ?_
  refine ⟨G, ρ, R, ?_⟩
  revert p
  unfold cal
  cases fs ρ with
  | st => exact id
  | ex c => exact id
  | ok ds =>
    intro p vs G1 H1 x1 r1
    have p := PostE.imp x1 p fun _ _ q => q
    exact p.call x1.gh (R.ext x1).tabs r1 rd
theorem se_call0 {k : Nat} {nm : Str} {dds : List D} {F : List D → Oc D} {p : Pos} (kn : XKn X k nm 0 dds F) (C : Ctx X W) (hr : Room k X.A) (hg : Gl X nm) (hdb : (nm == ("__debug__" : Str)) = false := by decide) : SE X W (.Call (.Name nm p) [] [] pos) (cal F 0 dds aN) := by
  obtain ⟨f, fd, ps, ds, dvs, ok, gm, kp, b, vd, rd⟩ := kn.ex
  refine PE.weak (pe_call0W ok hr hg gm kp b vd C.tk hdb) fun σ H Q ⟨G, ρ, R, p⟩ => ?_
  exact PostE.call (vs := []) R.sub R.tabs .nil rd p

/-! ### instances -/
def spI (K : PySem.W.Frag) (mg : Str → Option Value) (ww : World) (c : Str) (n : Nat) (F : List D → Oc D) : Sp := fun vs H Q E => vs.length = n + 1 ∧ ∃ G ds x dx C vs', vs = .ref x :: vs' ∧ mg c = some (.ref C) ∧ H x = some (.ins C dx []) ∧ H dx = some (.own x) ∧ dx ≠ x ∧ G x = none ∧ Vw G H ∧ Tabs K G H ∧ RepL K mg ww G vs' ds ∧
  match F ds with
  | .st => False
  | .ok d => ∀ G' H', Sm (rmv H x) H' → Same G G' → Vw G' H' → (∀ b o, H b = some o → b ≠ x → G b = none → G' b = none) → G' x = none → OwAt K mg ww G' H' x d → Q .non H'
  | .ex c' => ∀ C' G' H', Sm (rmv H x) H' → Same G G' → Vw G' H' → (∀ b o, H b = some o → b ≠ x → G b = none → G' b = none) → mg c' = some (.ref C') → E (.ref C') none H'
structure KnC (P : Program) (w : World) (K : PySem.W.Frag) (mg : Str → Option Value) (base : Heap) (k : Nat) (c : Str) (n : Nat) (dds : List D) (F : List D → Oc D) : Prop where
  ex : ∃ (C f : Addr) (fd : FuncData) (ps : List Str) (ds : List Value) (dvs : List V), Mk K C f ∧ FnOk P w K mg base (L2.CX P w) k f fd ps (spI K mg w c (n + dds.length) F) ∧ mg c = some (.ref C) ∧ Binds K fd ps ds ∧ Vals dvs ds ∧ (∀ G, RepL K mg w G dvs dds)
abbrev XKnC (X : Cx) := KnC X.prog X.w X.K X.mg X.base
theorem sf_make {k n : Nat} {nm : Str} {dds : List D} {F : List D → Oc D} {p : Pos} (kn : XKnC X k nm n dds F) (C : Ctx X W) (hr : Room (k + 1) X.A) (hg : Gl X nm) (ha : SA X W (e :: es) fs) (hdb : (nm == ("__debug__" : Str)) = false := by decide)
    (he : starEach (e :: es) X.env = (false, eval e X.env) :: starEach es X.env := by rfl) (hpl : (backTo pos (starEach es X.env)).any (·.1) = false := by rfl) : SF X W (.Call (.Name nm p) (e :: es) [] pos) (cal F n dds fs) := by
  obtain ⟨Cl, f, fd, ps, ds, dvs, mk, ok, gm, b, vd, rd⟩ := kn.ex
  refine PE.weak (pe_makeW mk ok hr hg gm b vd C.tk ha hdb he hpl) fun σ H Q ⟨G, ρ, R, p⟩ => ?_
  refine ⟨G, ρ, R, ?_⟩
  revert p
  unfold cal
  cases fs ρ with
  | st => exact id
  | ex c => exact id
  | ok ds =>
    intro p vs G1 H1 x1 r1 x dx nx ndx ne
    have p := PostF.imp x1 p fun _ _ q => q
    obtain ⟨c, p⟩ := p.chk
    have hl := of_decide_eq_true c
    have s1 : Same H1 (upd (upd H1 dx (.own x)) x (.ins Cl dx [])) := fun b o e => by
      rw [upd_ne (ne_of_none e nx), upd_ne (ne_of_none e ndx)]; exact e
    refine ⟨by simp [r1.length, (rd G).length, hl], G1, ds ++ dds, x, dx, Cl, vs ++ dvs, rfl, gm, upd_same, by rw [upd_ne ne]; exact upd_same, ne, x1.gh.free nx, x1.gh.then s1, (R.ext x1).tabs.same s1, r1.append (rd _), ?_⟩
    have s2 : Sm H1 (rmv (upd (upd H1 dx (.own x)) x (.ins Cl dx [])) x) := .of fun b o e => by
      rw [rmv_ne (ne_of_none e nx)]; exact s1 b o e
    revert p
    cases F (ds ++ dds) with
    | st => exact id
    | ok d =>
      intro p G' H' h1 gg gh nc gx ow
      exact ⟨rfl, p x G' H' ⟨s2.trans h1, gg, gh, fun b o e g => nc b o (s1 b o e) (ne_of_none e nx) g⟩ nx gx ow⟩
    | ex c' => exact fun p C' G' H' h1 gg gh nc m => p C' G' H' ⟨s2.trans h1, gg, gh, fun b o e g => nc b o (s1 b o e) (ne_of_none e nx) g⟩ m

/-! ### attributes -/
def fldD (cs : List Str) (n : Str) (d : D) : Oc D := match d with
  | .obj c fs => if c ∈ cs then (match fs.lookup n with | some x => .ok x | none => .st) else .st
  | _ => .st
def ClsA (K : PySem.W.Frag) (mg : Str → Option Value) (n : Str) (c : Str) : Prop := ∀ C, mg c = some (.ref C) → Cls K C ∧ NoAttr K C n
theorem se_fld {n : Str} {cs : List Str} (hc : ∀ c ∈ cs, ClsA X.K X.mg n c) (ha : SQ X W a f) (hb : attributeBase a n X.env (eval a X.env) = eval a X.env := by rfl) : SE X W (.Attribute a n pos) (un (fldD cs n) f) := PE.weak (pe_fld ha hb) fun σ H Q ⟨G, ρ, R, p⟩ => by
  refine ⟨G, ρ, R, ?_⟩
  revert p
  unfold un
  cases f ρ with
  | st => exact id
  | ex c => exact id
  | ok d1 =>
    intro p x G1 H1 x1 r1
    have p := PostE.imp x1 p fun _ _ q => q
    simp only [bd_ok] at p
    unfold fldD at p
    split at p
    · rename_i _ c fs _
      split at p
      · rename_i hin
        split at p
        · rename_i d hd
          have hx : ∃ a C dx vs, x = .ref a ∧ X.mg c = some (.ref C) ∧ H1 a = some (.ins C dx vs) ∧ RepF X.K X.mg X.w G1 vs fs := by
            rcases r1 with r1 | ⟨a, e, _, C, dx, vs, m, h, r⟩
            · cases r1 with
              | obj m h r => exact ⟨_, _, _, _, rfl, m, x1.gh _ _ h, r⟩
            · exact ⟨a, C, dx, vs, e, m, h, r⟩
          obtain ⟨a, C, dx, vs, e, m, h, r⟩ := hx
          obtain ⟨v, hv, rv⟩ := r.look hd
          obtain ⟨k1, k2⟩ := hc c hin C m
          exact ⟨a, C, dx, vs, v, e, h, k1, k2, hv, p.here x1.gh rv⟩
        · exact p.elim
      · exact p.elim
    · exact p.elim

/-! ### list.index, list.count -/
def indexD (d e : D) : Oc D := match d with
  | .lst ds => match toPDs ds, toPD e with
    | some ps, some q => match ps.findIdx? (fun z => PyData.eqv z q) with
      | some j => chk (SeqAt.shaped (.list ps) && SeqAt.shaped q) (.ok (.int (j : Nat)))
      | none => .st
    | _, _ => .st
  | _ => .st
def mtD (tyB : D → Bool) (F : D → List D → Oc D) (f : En → Oc D) (fs : En → Oc (List D)) : En → Oc D := fun ρ => bd (f ρ) fun d => chk (tyB d) (bd (fs ρ) fun ds => F d ds)
theorem se_mt {T idn : String} {nm : Str} {r : V → List V → Hp → VK → Prop} {apos : Pos} {tyB : D → Bool} {F : D → List D → Oc D} (pa : PlainAttrs T) (slot : Slot T nm idn) (hty : typeOf (.builtin idn) = pure (.type "method_descriptor")) (hm : MtR X idn r)
    (h1 : ∀ {G H x d}, Vw G H → RepQ X.K X.mg X.w G H x d → tyB d = true → tyV X.K T x H)
    (h2 : ∀ {G H x d vs ds Q U}, Vw G H → RepQ X.K X.mg X.w G H x d → RepL X.K X.mg X.w G vs ds → PostE X.K X.mg X.w U G H Q (F d ds) → r x vs H Q) (ha : SQ X W a f) (hb : SA X W (e :: es) fs)
    (hbase : attributeBase a nm X.env (eval a X.env) = eval a X.env := by rfl)
    (hfew : ((backTo pos (starEach (e :: es) X.env)).all (fun x => !x.1) && (backToKw pos (keywordEach [] X.env)).all (fun x => x.1.isSome)
      && decide ((e :: es).length + ([] : List Keyword).length + (if ([] : List Keyword).isEmpty then 0 else 1) < 30)) = true := by rfl)
    (hline : (apos.endLine == pos.line) = true := by rfl) (hs : starEach (e :: es) X.env = (false, eval e X.env) :: starEach es X.env := by rfl) (hplain : (backTo pos (starEach es X.env)).any (·.1) = false := by rfl) :
    SE X W (.Call (.Attribute a nm apos) (e :: es) [] pos) (mtD tyB F f fs) := by
  refine PE.weak (pe_bm pa slot hty hm ha hb hbase hfew hline hs hplain) fun σ H Q ⟨G, ρ, R, p⟩ => ?_
  refine ⟨G, ρ, R, ?_⟩
  revert p
  unfold mtD
  cases f ρ with
  | st => exact id
  | ex c => exact id
  | ok d1 =>
    intro p x G1 H1 x1 r1
    have p := PostE.imp x1 p fun _ _ q => q
    obtain ⟨c, p⟩ := p.chk
    refine ⟨h1 x1.gh r1 c, G1, ρ, R.ext x1, ?_⟩
    revert p
    cases fs ρ with
    | st => exact id
    | ex c => exact id
    | ok ds =>
      intro p vs G2 H2 x2 r2
      exact h2 x2.gh (RepQ.ext x2 r1) r2 (PostE.imp x2 p fun _ _ q => q)
def isLst : D → Bool
  | .lst _ => true
  | _ => false
def indexM (d : D) (es : List D) : Oc D := match es with
  | [e] => indexD d e
  | _ => .st
theorem ty_lst {G H : Hp} {x : V} {d : D} (s : Vw G H) (r : RepQ K mg ww G H x d) (h : isLst d = true) : tyV K "list" x H := by
  cases d with
  | lst ds =>
    obtain ⟨a, xs, e, h, _⟩ := r.lst s
    subst e
    exact .inl ⟨rfl, _, SqL.of h⟩
  | _ => cases h
theorem se_index {apos : Pos} (hu : X.A.units + 65 < cLine) (ha : SQ X W a f) (hb : SA X W (e :: es) fs)
    (hbase : attributeBase a "index" X.env (eval a X.env) = eval a X.env := by rfl)
    (hfew : ((backTo pos (starEach (e :: es) X.env)).all (fun x => !x.1) && (backToKw pos (keywordEach [] X.env)).all (fun x => x.1.isSome)
      && decide ((e :: es).length + ([] : List Keyword).length + (if ([] : List Keyword).isEmpty then 0 else 1) < 30)) = true := by rfl)
    (hline : (apos.endLine == pos.line) = true := by rfl) (hs : starEach (e :: es) X.env = (false, eval e X.env) :: starEach es X.env := by rfl) (hplain : (backTo pos (starEach es X.env)).any (·.1) = false := by rfl) :
    SE X W (.Call (.Attribute a "index" apos) (e :: es) [] pos) (mtD isLst indexM f fs) :=
  se_mt PySem.F.plainAttrs_list PySem.F.slot_list_index PySem.F.type_list_index (mt_indexD hu) ty_lst (fun {G H x d vs ds Q U} s r1 r2 p => by
    unfold indexM at p
    split at p
    · rename_i q
      unfold indexD at p
      split at p
      · rename_i ls
        split at p
        · rename_i ps pq hps hpq
          split at p
          · rename_i j hj
            obtain ⟨c, p⟩ := p.chk
            rw [Bool.and_eq_true] at c
            obtain ⟨l, xs, e1, hl, rl⟩ := r1.lst s
            subst e1
            cases r2 with
            | cons r2 r3 =>
              cases r3
              obtain ⟨hj1, hj2, hj3⟩ := List.findIdx?_eq_some_iff_getElem.mp hj
              exact ⟨l, _, pq, ps, j, ps[j], rfl, rfl, .lst (SqL.of hl) (rl.dp s hps), r2.dp s hpq, c.1, c.2, List.getElem?_eq_getElem hj1, hj2, fun m z' hm hz => by
                have hm' : m < ps.length := Nat.lt_trans hm hj1
                rw [List.getElem?_eq_getElem hm'] at hz
                cases hz
                simpa using hj3 m hm, p.here s (.int _)⟩
          · exact p.elim
        · exact p.elim
      · exact p.elim
    · exact p.elim) ha hb hbase hfew hline hs hplain

/-! ### slices -/
def oP (o : Option (En → Oc D)) : En → Oc (Option Int) := fun ρ => match o with
  | none => .ok none
  | some f => bd (f ρ) fun d => match d with | .int i => .ok (some i) | _ => .st
def cutD (ds : List D) (lo hi : Option Int) : List D := (ds.drop (HT.sIx ds.length 0 lo)).take (HT.sIx ds.length ds.length hi - HT.sIx ds.length 0 lo)
def slD (d : D) (lo hi : Option Int) : Oc D := match d with
  | .str z => chk (decide (z.length ≤ sizeLine)) (.ok (.str (cutS z lo hi)))
  | .lst ds => .ok (.lst (cutD ds lo hi))
  | .fz ds => .ok (.lst (cutD ds lo hi))
  | .tup ds => .ok (.tup (cutD ds lo hi))
  | _ => .st
def slc (f : En → Oc D) (lo hi : Option (En → Oc D)) : En → Oc D := fun ρ => bd (f ρ) fun d => bd (oP lo ρ) fun l => bd (oP hi ρ) fun h => slD d l h
def PostO (K : PySem.W.Frag) (mg : Str → Option Value) (ww : World) (W : XK) (G H : Hp) (Q : Option Int → Hp → Prop) : Oc (Option Int) → Prop
  | .st => False
  | .ok b => ∀ G' H', Ext G H G' H' → Q b H'
  | .ex c => ∀ C G' H', Ext G H G' H' → mg c = some (.ref C) → W (.ref C) none H'
def tO (K : PySem.W.Frag) (mg : Str → Option Value) (ww : World) (W : WX) (f : Option (En → Oc D)) : TO := fun σ H Q => ∃ G ρ, Rel K mg ww G H ρ σ ∧ PostO K mg ww (fun c d H' => W c d σ H') G H Q (oP f ρ)
abbrev SO (X : Cx) (W : WX) (e : Option Expr) (f : Option (En → Oc D)) : Prop := PO X e (tO X.K X.mg X.w W f)
theorem PO.weak {e : Option Expr} {t u : TO} (h : PO X e t) (w : ∀ σ H Q, u σ H Q → t σ H Q) : PO X e u := ⟨fun pins s σ H Q I q => h.run pins s σ H Q I (w _ _ _ q)⟩
theorem so_none : SO X W none none := PO.weak po_none fun σ H Q ⟨G, ρ, R, p⟩ => p G H (.refl R.sub)
theorem so_some (ha : SE X W a f) : SO X W (some a) (some f) := PO.weak (po_some ha) fun σ H Q ⟨G, ρ, R, p⟩ => by
  refine ⟨G, ρ, R, ?_⟩
  revert p
  unfold oP
  simp only
  cases f ρ with
  | st => exact id
  | ex c => exact id
  | ok d =>
    simp only [bd_ok]
    cases d with
    | int i =>
      intro p v G1 H1 x1 r
      cases r
      exact ⟨i, rfl, p G1 H1 x1⟩
    | _ => exact fun p => p.elim
theorem cutV_repL {xs : List V} {ds : List D} (r : RepL K mg ww G xs ds) (lo hi : Option Int) : RepL K mg ww G (cutV xs lo hi) (cutD ds lo hi) := by
  unfold cutV cutD
  rw [r.length]
  exact (r.drop _).take _
theorem cutD_whole {ds : List D} {lo hi : Option Int} (h : HT.sIx ds.length 0 lo = 0 ∧ HT.sIx ds.length ds.length hi = ds.length) : cutD ds lo hi = ds := by
  unfold cutD
  rw [h.1, h.2]
  simp
theorem se_sl {lo hi : Option Expr} {fl fh : Option (En → Oc D)} {p2 : Pos} (ha : SQ X W a f) (hl : SO X W lo fl) (hh : SO X W hi fh) : SE X W (.Subscript a (.Slice lo hi none p2) pos) (slc f fl fh) := by
  refine PE.weak (pe_slice (sl_list.or (sl_tupA.or sl_str)) ha hl hh) fun σ H Q ⟨G, ρ, R, p⟩ => ?_
  refine ⟨G, ρ, R, ?_⟩
  revert p
  unfold slc
  cases f ρ with
  | st => exact id
  | ex c => exact id
  | ok d =>
    intro p x G1 H1 x1 r1
    have p := PostE.imp x1 p fun _ _ q => q
    refine ⟨G1, ρ, R.ext x1, ?_⟩
    revert p
    simp only [bd_ok]
    cases oP fl ρ with
    | st => exact id
    | ex c => exact id
    | ok l =>
      intro p G2 H2 x2
      have p := PostE.imp x2 p fun _ _ q => q
      refine ⟨G2, ρ, (R.ext x1).ext x2, ?_⟩
      revert p
      simp only [bd_ok]
      cases oP fh ρ with
      | st => exact id
      | ex c => exact id
      | ok u =>
        intro p G3 H3 x3
        have p := PostE.imp x3 p fun _ _ q => q
        simp only [bd_ok] at p
        have r3 : RepQ X.K X.mg X.w G3 H3 x d := RepQ.ext x3 (RepQ.ext x2 r1)
        have s := x3.gh
        unfold slD at p
        split at p
        · obtain ⟨c, p⟩ := p.chk
          exact .inr (.inr ⟨_, r3.str, of_decide_eq_true c, p.here s (.str _)⟩)
        · obtain ⟨q, xs, e, hq, rr⟩ := r3.lst s
          exact .inl ⟨q, xs, e, SqL.of hq, p.newL s (cutV_repL rr l u)⟩
        · obtain ⟨q, xs, e, hq, rr⟩ := r3.fz s
          exact .inl ⟨q, xs, e, hq, p.newL s (cutV_repL rr l u)⟩
        · have t := r3.tupRep
          obtain ⟨q, xs, e, hq, rr⟩ := r3.tup s
          refine .inr (.inl ⟨q, xs, e, hq, fun hw => ?_, fun _ => p.newT s (cutV_repL rr l u)⟩)
          subst e
          rw [rr.length] at hw
          rw [cutD_whole hw] at p
          exact p.here s t
        · exact p.elim
def revD (d : D) : Oc D := match d with
  | .lst ds => .ok (.lst ds.reverse)
  | .fz ds => .ok (.lst ds.reverse)
  | _ => .st
theorem se_rev {k : Nat} {p1 p2 p3 : Pos} (ha : SQ X W a f) : SE X W (.Subscript a (.Slice none none (some (.UnaryOp .USub (.Constant (.int 1) k p1) p2)) p3) pos) (un revD f) :=
  se_un (r := fun x H Q => ∃ a xs, x = .ref a ∧ SqL X.K H a xs ∧ ∀ p, H p = none → Q (.ref p) (upd H p (.lst xs.reverse))) (fun ha => pe_revL ha) (fun {G H x d1 Q U} s r p => by
    unfold revD at p
    split at p
    · obtain ⟨q, xs, e, hq, rr⟩ := r.lst s
      exact ⟨q, xs, e, SqL.of hq, p.newL s rr.reverse⟩
    · obtain ⟨q, xs, e, hq, rr⟩ := r.fz s
      exact ⟨q, xs, e, hq, p.newL s rr.reverse⟩
    · exact p.elim) ha

/-! ### tests -/
def tst (f : En → Oc D) : En → Oc Bool := fun ρ => bd (f ρ) fun d => match d with | .bl b => .ok b | _ => .st
theorem st_val (ha : SE X W a f) (he : ∀ whole, isTrue a X.env whole = (do let v ← whole; standAt a.pos; holding [v] (truthy v)) := by intro _; rfl) : STT X W a (tst f) := PT.weak (pt_val ha he) fun σ H Q ⟨G, ρ, R, p⟩ => by
  refine ⟨G, ρ, R, ?_⟩
  revert p
  unfold tst
  cases f ρ with
  | st => exact id
  | ex c => exact id
  | ok d =>
    simp only [bd_ok]
    cases d with
    | bl b =>
      intro p v G1 H1 x1 r
      cases r
      exact ⟨b, rfl, p G1 H1 x1⟩
    | _ => exact fun p => p.elim
theorem st_op2 {r : R2} {F : D → D → Oc D} (rule : ∀ {ta tb : TE}, PE X a ta → PE X b tb → PT X e (tTest (tOp r ta tb)))
    (hr : ∀ {G H x y d1 d2 Q U}, Vw G H → RepQ X.K X.mg X.w G H x d1 → RepQ X.K X.mg X.w G H y d2 → PostE X.K X.mg X.w U G H Q (F d1 d2) → r x y H Q)
    (ha : SQ X W a f) (hb : SQ X W b g) : STT X W e (tst (bi F f g)) := PT.weak (rule ha hb) fun σ H Q ⟨G, ρ, R, p⟩ => by
  refine ⟨G, ρ, R, ?_⟩
  revert p
  unfold tst bi
  cases f ρ with
  | st => exact id
  | ex c => exact id
  | ok d1 =>
    intro p x G1 H1 x1 r1
    refine ⟨G1, ρ, R.ext x1, ?_⟩
    revert p
    simp only [bd_ok]
    cases g ρ with
    | st => exact id
    | ex c => exact fun p C G' H' e m => p C G' H' (x1.trans e) m
    | ok d2 =>
      intro p y G2 H2 x2 r2
      simp only [bd_ok] at p
      refine hr (U := fun c d H' => W c d σ H') x2.gh (RepQ.ext x2 r1) r2 ?_
      revert p
      cases F d1 d2 with
      | st => exact id
      | ex c => exact fun p C G' H' e m => p C G' H' ((x1.trans x2).trans e) m
      | ok d =>
        simp only [bd_ok]
        cases d with
        | bl b =>
          intro p v G3 H3 x3 r
          cases r
          exact ⟨b, rfl, p G3 H3 ((x1.trans x2).trans x3)⟩
        | _ => exact fun p => p.elim
def nt (t : En → Oc Bool) : En → Oc Bool := fun ρ => bd (t ρ) fun b => .ok (!b)
def an (t u : En → Oc Bool) : En → Oc Bool := fun ρ => bd (t ρ) fun b => if b then u ρ else .ok false
def orr (t u : En → Oc Bool) : En → Oc Bool := fun ρ => bd (t ρ) fun b => if b then .ok true else u ρ
variable {t u : En → Oc Bool} {rest : List Expr}
theorem st_not (ha : STT X W a t) : STT X W (.UnaryOp .Not a pos) (nt t) := PT.weak (pt_not ha) fun σ H Q ⟨G, ρ, R, p⟩ => by
  refine ⟨G, ρ, R, ?_⟩
  revert p
  unfold nt
  cases t ρ <;> exact id
theorem sw_and1 (ha : STT X W a t) : SW X W (.BoolOp .And [a] pos) t := pw_and1 ha
theorem sw_or1 (ha : STT X W a t) : SW X W (.BoolOp .Or [a] pos) t := pw_or1 ha
theorem sw_and (ha : STT X W a t) (hb : SW X W (.BoolOp .And (b :: rest) pos) u) : SW X W (.BoolOp .And (a :: b :: rest) pos) (an t u) := PW.weak (pw_and ha hb) fun σ H Q ⟨G, ρ, R, p⟩ => by
  refine ⟨G, ρ, R, ?_⟩
  revert p
  unfold an
  cases t ρ with
  | st => exact id
  | ex c => exact id
  | ok d =>
    intro p G1 H1 x1
    have p := PostT.imp x1 p fun _ _ q => q
    cases d with
    | true => exact ⟨G1, ρ, R.ext x1, p⟩
    | false => exact p G1 H1 (.refl x1.gh)
theorem sw_or (ha : STT X W a t) (hb : SW X W (.BoolOp .Or (b :: rest) pos) u) : SW X W (.BoolOp .Or (a :: b :: rest) pos) (orr t u) := PW.weak (pw_or ha hb) fun σ H Q ⟨G, ρ, R, p⟩ => by
  refine ⟨G, ρ, R, ?_⟩
  revert p
  unfold orr
  cases t ρ with
  | st => exact id
  | ex c => exact id
  | ok d =>
    intro p G1 H1 x1
    have p := PostT.imp x1 p fun _ _ q => q
    cases d with
    | true => exact p G1 H1 (.refl x1.gh)
    | false => exact ⟨G1, ρ, R.ext x1, p⟩
theorem st_of (h : SW X W a t) : STT X W a t := PW.pt h
def anV (f g : En → Oc D) : En → Oc D := fun ρ => bd (f ρ) fun d => match d with | .bl b => if b then g ρ else .ok (.bl false) | _ => .st
def orV (f g : En → Oc D) : En → Oc D := fun ρ => bd (f ρ) fun d => match d with | .bl b => if b then .ok (.bl true) else g ρ | _ => .st
def ntV (f : En → Oc D) : En → Oc D := fun ρ => bd (f ρ) fun d => match d with | .bl b => .ok (.bl (!b)) | _ => .st
theorem se_one {op} (ha : SE X W a f) : SE X W (.BoolOp op [a] pos) f := pe_one ha
theorem se_and (ha : SE X W a f) (hb : SE X W (.BoolOp .And (b :: rest) pos) g) : SE X W (.BoolOp .And (a :: b :: rest) pos) (anV f g) := PE.weak (pe_and ha hb) fun σ H Q ⟨G, ρ, R, p⟩ => by
  refine ⟨G, ρ, R, ?_⟩
  revert p
  unfold anV
  cases f ρ with
  | st => exact id
  | ex c => exact id
  | ok d =>
    simp only [bd_ok]
    cases d with
    | bl k =>
      intro p v G1 H1 x1 r
      cases r
      have p := PostE.imp x1 p fun _ _ q => q
      refine ⟨k, rfl, ?_⟩
      cases k with
      | true => exact ⟨G1, ρ, R.ext x1, p⟩
      | false => exact p.here x1.gh (.bl _)
    | _ => exact fun p => p.elim
theorem se_or (ha : SE X W a f) (hb : SE X W (.BoolOp .Or (b :: rest) pos) g) : SE X W (.BoolOp .Or (a :: b :: rest) pos) (orV f g) := PE.weak (pe_or ha hb) fun σ H Q ⟨G, ρ, R, p⟩ => by
  refine ⟨G, ρ, R, ?_⟩
  revert p
  unfold orV
  cases f ρ with
  | st => exact id
  | ex c => exact id
  | ok d =>
    simp only [bd_ok]
    cases d with
    | bl k =>
      intro p v G1 H1 x1 r
      cases r
      have p := PostE.imp x1 p fun _ _ q => q
      refine ⟨k, rfl, ?_⟩
      cases k with
      | true => exact p.here x1.gh (.bl _)
      | false => exact ⟨G1, ρ, R.ext x1, p⟩
    | _ => exact fun p => p.elim
theorem se_not (ha : SE X W a f) : SE X W (.UnaryOp .Not a pos) (ntV f) := PE.weak (pe_not ha) fun σ H Q ⟨G, ρ, R, p⟩ => by
  refine ⟨G, ρ, R, ?_⟩
  revert p
  unfold ntV
  cases f ρ with
  | st => exact id
  | ex c => exact id
  | ok d =>
    simp only [bd_ok]
    cases d with
    | bl k =>
      intro p v G1 H1 x1 r
      cases r
      have p := PostE.imp x1 p fun _ _ q => q
      exact ⟨k, rfl, p.here x1.gh (.bl _)⟩
    | _ => exact fun p => p.elim
def ifX (t : En → Oc Bool) (f g : En → Oc D) : En → Oc D := fun ρ => bd (t ρ) fun b => if b then f ρ else g ρ
theorem se_if (hc : STT X W c t) (ha : SE X W a f) (hb : SE X W b g) : SE X W (.IfExp c a b pos) (ifX t f g) := PE.weak (pe_ifExp hc ha hb) fun σ H Q ⟨G, ρ, R, p⟩ => by
  refine ⟨G, ρ, R, ?_⟩
  revert p
  unfold ifX
  cases t ρ with
  | st => exact id
  | ex c => exact id
  | ok d =>
    intro p G1 H1 x1
    have p := PostE.imp x1 p fun _ _ q => q
    cases d with
    | true => exact ⟨G1, ρ, R.ext x1, p⟩
    | false => exact ⟨G1, ρ, R.ext x1, p⟩
def tyName : D → Option String
  | .non => some "NoneType"
  | .bl _ => some "bool"
  | .int _ => some "int"
  | .str _ => some "str"
  | .lst _ => some "list"
  | .tup _ => some "tuple"
  | _ => none
def isiD (T : String) (d : D) : Oc D := match tyName d with
  | some n => match kitB n T with
    | some b => .ok (.bl b)
    | none => .st
  | none => .st
theorem se_isi {nm : Str} {T : String} {p p2 : Pos} (hg : Gl X "isinstance") (hm : X.mg "isinstance" = none) (hg2 : Gl X nm) (hm2 : X.mg nm = none) (hv : bootBuiltins nm = some (.type T)) (ha : SQ X W a f) (hn : nm ≠ "__name__" := by decide) (hdb : (nm == ("__debug__" : Str)) = false := by decide)
    (he : starEach [a, .Name nm p2] X.env = (false, eval a X.env) :: starEach [.Name nm p2] X.env := by rfl) (he2 : starEach [.Name nm p2] X.env = (false, eval (.Name nm p2) X.env) :: starEach [] X.env := by rfl) (hpl : (backTo pos (starEach [.Name nm p2] X.env)).any (·.1) = false := by rfl) :
    SE X W (.Call (.Name "isinstance" p) [a, .Name nm p2] [] pos) (un (isiD T) f) := by
  refine se_un (r := fun x H Q => rIsi X.K [x, .ty T] H Q) (fun ha => PE.weak (pe_callB call_isi hg hm (by decide +kernel) (pa_cons ha (pa_cons (pe_bltn hg2 hm2 hv (v := .ty T) rfl hn hdb) pa_nil he2) he) (by decide) (by decide) he hpl) fun σ H Q h => h) (fun {G H x d1 Q U} s r p => ?_) ha
  unfold isiD at p
  split at p
  · rename_i n hn
    split at p
    · rename_i b hb
      have tx : TyX X.K H x (.type n) := by
        cases d1 with
        | non => cases hn; rw [r.non]; exact .base .non
        | bl k => cases hn; rw [r.bl]; exact .base (.bl _)
        | int k => cases hn; rw [r.int]; exact .base (.int _)
        | str k => cases hn; rw [r.str]; exact .base (.str _)
        | lst ds => cases hn; obtain ⟨a, xs, rfl, hl, _⟩ := r.lst s; exact .base (.lst hl)
        | tup ds =>
          cases hn
          obtain ⟨a, xs, rfl, hl, _⟩ := r.tup s
          rcases hl with (h | ⟨o, h⟩) | ⟨o, its, n, h1, h2, _⟩
          · exact .base (.tup h)
          · exact .fTuple h
          · exact .kTuple h1 h2
        | _ => cases hn
      exact ⟨x, .ty T, .type n, .type T, b, rfl, .ty T, tx, kit_ty hb, p.here s (.bl _)⟩
    · exact p.elim
  · exact p.elim
end
end Fx

set_option Elab.async false
set_option linter.all false
set_option maxRecDepth 100000
set_option maxHeartbeats 4000000
/-! Fx4: statements, loops, comprehensions, defs. -/
namespace Fx
open PySem PySem.Spec PyProof.Rows L2
variable {K : PySem.W.Frag} {mg : Str → Option Value} {ww : World}

inductive Res where
  | nx (ρ : En) | rt (d : D) | bk (ρ : En) | ct (ρ : En)

structure Bs (K : PySem.W.Frag) (mg : Str → Option Value) (ww : World) (me : Addr) (G0 H0 G H : Hp) (ρ : En) (σ : L2.St) : Prop where
  rel : Rel K mg ww G H ρ σ
  ext : Ext G0 H0 G H
  own : ∀ (i : Nat) (a : Addr) (d : D), ρ[i]? = some (.ow d) → σ[i]? = some (some (.ref a)) → H0 a = none
  self : ∀ (i : Nat) (c : Str) (ds : List (Str × D)), ρ[i]? = some (.ow (.obj c ds)) → σ[i]? = some (some (.ref me))
variable {me : Addr}
theorem Bs.step {G0 H0 G H G' H' : Hp} {ρ : En} {σ : L2.St} (B : Bs K mg ww me G0 H0 G H ρ σ) (x : Ext G H G' H') : Bs K mg ww me G0 H0 G' H' ρ σ := ⟨B.rel.ext x, B.ext.trans x, B.own, B.self⟩
theorem OwAt.notNon {G H : Hp} {a : Addr} {d : D} (w : OwAt K mg ww G H a d) : isNon d = false := by
  cases d <;> first | rfl | exact w.elim
inductive Fr where
  | s | o | d
def DpAt (K : PySem.W.Frag) (mg : Str → Option Value) (ww : World) (H0 G H : Hp) (a : Addr) (d : D) : Prop := ∃ (as : List Addr) (dss : List (List D)), d = .lst (dss.map .lst) ∧ H a = some (.lst (as.map .ref)) ∧ (a :: as).Nodup ∧ (∀ b ∈ a :: as, H0 b = none ∧ G b = none) ∧ Paired (fun b ds => OwAt K mg ww G H b (.lst ds)) as dss
def PostS (K : PySem.W.Frag) (mg : Str → Option Value) (ww : World) (W : XK) (fre : Fr) (me : Addr) (G0 H0 : Hp) (D : Ends) : Oc Res → Prop
  | .st => False
  | .ok (.nx ρ) => ∀ σ G H, Bs K mg ww me G0 H0 G H ρ σ → D.nx σ H
  | .ok (.rt d) => match fre with
    | .s => ∀ v G H, Ext G0 H0 G H → Rep K mg ww G v d → D.rt v H
    | .d => ∀ a G H, Ext G0 H0 G H → DpAt K mg ww H0 G H a d → D.rt (.ref a) H
    | .o => (isNon d = true → ∀ G H, Ext G0 H0 G H → D.rt .non H) ∧ (isNon d = false → ∀ a G H, Ext G0 H0 G H → H0 a = none → G a = none → OwAt K mg ww G H a d → D.rt (.ref a) H)
  | .ok (.bk ρ) => ∀ σ G H, Bs K mg ww me G0 H0 G H ρ σ → D.bk σ H
  | .ok (.ct ρ) => ∀ σ G H, Bs K mg ww me G0 H0 G H ρ σ → D.ct σ H
  | .ex c => ∀ C G H, Ext G0 H0 G H → mg c = some (.ref C) → W (.ref C) none H
def tS (K : PySem.W.Frag) (mg : Str → Option Value) (ww : World) (W : XK) (fre : Fr) (g : En → Oc Res) : TS := fun D σ H => ∃ G ρ me G0 H0, Bs K mg ww me G0 H0 G H ρ σ ∧ PostS K mg ww W fre me G0 H0 D (g ρ)
abbrev SS (X : Cx) (W : XK) (fre : Fr) (st : Stmt) (g : En → Oc Res) : Prop := PS X st (tS X.K X.mg X.w W fre g)
abbrev SSs (X : Cx) (W : XK) (fre : Fr) (st : List Stmt) (g : En → Oc Res) : Prop := PSs X st (tS X.K X.mg X.w W fre g)

section
variable {X : Cx} {W : WX} {U : XK} {fre : Fr} {a b c e : Expr} {es : List Expr} {f g h : En → Oc D} {fs : En → Oc (List D)} {pos : Pos} {st : Stmt} {sts sts2 : List Stmt} {gs hs : En → Oc Res} {t : En → Oc Bool}

def sNx : En → Oc Res := fun ρ => .ok (.nx ρ)
def sBk : En → Oc Res := fun ρ => .ok (.bk ρ)
def sCt : En → Oc Res := fun ρ => .ok (.ct ρ)
def sq (g h : En → Oc Res) : En → Oc Res := fun ρ => bd (g ρ) fun r => match r with | .nx ρ' => h ρ' | r => .ok r
theorem ss_nil : SSs X U fre [] sNx := PSs.weak pss_nil fun D σ H ⟨G, ρ, me, G0, H0, B, p⟩ => p σ G H B
theorem ss_pass : SS X U fre (.Pass pos) sNx := PS.weak ps_pass fun D σ H ⟨G, ρ, me, G0, H0, B, p⟩ => p σ G H B
theorem ss_bk : SS X U fre (.Break pos) sBk := PS.weak ps_break fun D σ H ⟨G, ρ, me, G0, H0, B, p⟩ => p σ G H B
theorem ss_ct : SS X U fre (.Continue pos) sCt := PS.weak ps_continue fun D σ H ⟨G, ρ, me, G0, H0, B, p⟩ => p σ G H B
theorem ss_one (h : SS X U fre st gs) : SSs X U fre [st] gs := pss_one h
theorem ss_cons (h1 : SS X U fre st gs) (h2 : SSs X U fre sts hs) : SSs X U fre (st :: sts) (sq gs hs) := PSs.weak (pss_cons h1 h2) fun D σ H ⟨G, ρ, me, G0, H0, B, p⟩ => by
  refine ⟨G, ρ, me, G0, H0, B, ?_⟩
  revert p
  unfold sq
  cases gs ρ with
  | st => exact id
  | ex c => exact id
  | ok r =>
    cases r with
    | nx ρ' => exact fun p σ' G' H' B' => ⟨G', ρ', me, G0, H0, B', p⟩
    | rt d => exact id
    | bk ρ' => exact id
    | ct ρ' => exact id
def frz (i : Nat) (g : En → Oc Res) : En → Oc Res := fun ρ => g (freeze i ρ)
theorem Bs.freeze {G0 H0 G H : Hp} {ρ : En} {σ : L2.St} (B : Bs K mg ww me G0 H0 G H ρ σ) (i : Nat) : ∃ G', Bs K mg ww me G0 H0 G' H (freeze i ρ) σ := by
  unfold Fx.freeze
  cases q : ρ[i]? with
  | none => exact ⟨G, B⟩
  | some s =>
    cases s with
    | no => exact ⟨G, B⟩
    | exn _ => exact ⟨G, B⟩
    | fn _ _ _ => exact ⟨G, B⟩
    | ls _ _ => exact ⟨G, B⟩
    | sh d => exact ⟨G, B⟩
    | ow d =>
      obtain ⟨a, G', ha, ga, ⟨o, ho, rfl⟩, rp, R⟩ := B.rel.freeze i q
      have h0 : H0 a = none := B.own i a d q ha
      refine ⟨upd G a o, R, ⟨B.ext.hh, fun b u e => ?_, R.sub, fun b u h g => ?_⟩, fun j b d' h1 h2 => ?_, fun j c ds h1 => ?_⟩
      · rw [upd_ne (ne_of_none (B.ext.gg _ _ e) ga)]; exact B.ext.gg _ _ e
      · rw [upd_ne (ne_of_none h h0)]; exact B.ext.nc b u h g
      · by_cases hj : i = j
        · subst hj
          rw [List.getElem?_set_self (List.getElem?_eq_some_iff.mp q).1] at h1
          cases h1
        · rw [List.getElem?_set_ne hj] at h1
          exact B.own j b d' h1 h2
      · by_cases hj : i = j
        · subst hj
          rw [List.getElem?_set_self (List.getElem?_eq_some_iff.mp q).1] at h1
          cases h1
        · rw [List.getElem?_set_ne hj] at h1
          exact B.self j c ds h1
theorem ss_frz (i : Nat) (h : SS X U fre st gs) : SS X U fre st (frz i gs) := PS.weak h fun D σ H ⟨G, ρ, me, G0, H0, B, p⟩ => by
  obtain ⟨G', B'⟩ := B.freeze i
  exact ⟨G', _, me, G0, H0, B', p⟩
theorem sss_frz (i : Nat) (h : SSs X U fre sts gs) : SSs X U fre sts (frz i gs) := PSs.weak h fun D σ H ⟨G, ρ, me, G0, H0, B, p⟩ => by
  obtain ⟨G', B'⟩ := B.freeze i
  exact ⟨G', _, me, G0, H0, B', p⟩

theorem tE_in {G0 H0 G H : Hp} {ρ : En} {σ : L2.St} {Q : VK} (B : Bs K mg ww me G0 H0 G H ρ σ) (ho : match f ρ with
    | .st => False
    | .ok d => ∀ v G' H', Bs K mg ww me G0 H0 G' H' ρ σ → Rep K mg ww G' v d → Q v H'
    | .ex c => ∀ C G' H', Ext G0 H0 G' H' → mg c = some (.ref C) → U (.ref C) none H') : tE K mg ww (up U) f σ H Q := by
  refine ⟨G, ρ, B.rel, ?_⟩
  revert ho
  cases f ρ with
  | st => exact id
  | ok d => exact fun p v G' H' x r => p v G' H' (B.step x) r
  | ex c => exact fun p C G' H' x m => p C G' H' (B.ext.trans x) m
theorem tT_in {G0 H0 G H : Hp} {ρ : En} {σ : L2.St} {Q : Bool → Hp → Prop} (B : Bs K mg ww me G0 H0 G H ρ σ) (ho : match t ρ with
    | .st => False
    | .ok d => ∀ G' H', Bs K mg ww me G0 H0 G' H' ρ σ → Q d H'
    | .ex c => ∀ C G' H', Ext G0 H0 G' H' → mg c = some (.ref C) → U (.ref C) none H') : tT K mg ww (up U) t σ H Q := by
  refine ⟨G, ρ, B.rel, ?_⟩
  revert ho
  cases t ρ with
  | st => exact id
  | ok d => exact fun p G' H' x => p G' H' (B.step x)
  | ex c => exact fun p C G' H' x m => p C G' H' (B.ext.trans x) m
def exs (f : En → Oc D) : En → Oc Res := fun ρ => bd (f ρ) fun _ => .ok (.nx ρ)
theorem ss_expr (ha : SE X (up U) a f) (hs : swapsWith a none pos.line X.env = pure false := by rfl) : SS X U fre (.Expr a pos) (exs f) := PS.weak (ps_expr ha hs) fun D σ H ⟨G, ρ, me, G0, H0, B, p⟩ => by
  refine tE_in B ?_
  revert p
  unfold exs
  cases f ρ with
  | st => exact id
  | ex c => exact id
  | ok d => exact fun p v G' H' B' r => p σ G' H' B'
def ret (f : En → Oc D) : En → Oc Res := fun ρ => bd (f ρ) fun d => .ok (.rt d)
theorem ss_ret (ha : SE X (up U) a f) : SS X U .s (.Return (some a) pos) (ret f) := PS.weak (ps_ret ha) fun D σ H ⟨G, ρ, me, G0, H0, B, p⟩ => by
  refine tE_in B ?_
  revert p
  unfold ret
  cases f ρ with
  | st => exact id
  | ex c => exact id
  | ok d => exact fun p v G' H' B' r => p v G' H' B'.ext r
theorem ss_retF (ha : SF X (up U) a f) : SS X U .o (.Return (some a) pos) (ret f) := PS.weak (ps_ret ha) fun D σ H ⟨G, ρ, me, G0, H0, B, p⟩ => by
  refine ⟨G, ρ, B.rel, ?_⟩
  revert p
  unfold ret
  cases f ρ with
  | st => exact id
  | ex c => exact fun p C G' H' x m => p C G' H' (B.ext.trans x) m
  | ok d => exact fun p a G' H' x ha ga ow => p.2 ow.notNon a G' H' (B.ext.trans x) (B.ext.hh.free ha) ga ow
def retO (i : Nat) : En → Oc Res := fun ρ => match ρ[i]? with
  | some (.ow d) => .ok (.rt d)
  | _ => .st
theorem ss_retO {i : Nat} {x : Str} {p1 : Pos} (hv : PE X (.Name x p1) (tVar i)) : SS X U .o (.Return (some (.Name x p1)) pos) (retO i) := PS.weak (ps_ret hv) fun D σ H ⟨G, ρ, me, G0, H0, B, p⟩ => by
  revert p
  unfold retO
  cases q : ρ[i]? with
  | none => exact False.elim
  | some s =>
    cases s with
    | no => exact False.elim
    | exn _ => exact False.elim
    | fn _ _ _ => exact False.elim
    | ls _ _ => exact False.elim
    | sh d => exact False.elim
    | ow d =>
      intro p
      obtain ⟨o, ho, l, rfl, gl, w⟩ := B.rel.get q
      exact ⟨.ref l, ho, p.2 w.notNon l G H B.ext (B.own i l d q ho) gl w⟩
def retN : En → Oc Res := fun ρ => .ok (.rt .non)
theorem ss_retN : SS X U .s (.Return none pos) retN := PS.weak ps_retN fun D σ H ⟨G, ρ, me, G0, H0, B, p⟩ => p .non G H B.ext .non
def iff (t : En → Oc Bool) (g h : En → Oc Res) : En → Oc Res := fun ρ => bd (t ρ) fun b => if b then g ρ else h ρ
theorem ss_if (hc : STT X (up U) c t) (ha : SSs X U fre sts gs) (hb : SSs X U fre sts2 hs) : SS X U fre (.If c sts sts2 pos) (iff t gs hs) := PS.weak (ps_if hc ha hb) fun D σ H ⟨G, ρ, me, G0, H0, B, p⟩ => by
  refine tT_in B ?_
  revert p
  unfold iff
  cases t ρ with
  | st => exact id
  | ex c => exact id
  | ok b =>
    intro p G' H' B'
    cases b with
    | true => exact ⟨G', ρ, me, G0, H0, B', p⟩
    | false => exact ⟨G', ρ, me, G0, H0, B', p⟩

/-! ### assignments -/
def asg (i : Nat) (f : En → Oc D) : En → Oc Res := fun ρ => bd (f ρ) fun d => .ok (.nx (ρ.set i (.sh d)))
def asgO (i : Nat) (f : En → Oc D) : En → Oc Res := fun ρ => bd (f ρ) fun d => match d with | .lst ds => .ok (.nx (ρ.set i (.ow (.lst ds)))) | _ => .st
theorem Bs.set {G0 H0 G H : Hp} {ρ : En} {σ : L2.St} (B : Bs K mg ww me G0 H0 G H ρ σ) (i : Nat) {v : V} {d : D} (r : Rep K mg ww G v d) : Bs K mg ww me G0 H0 G H (ρ.set i (.sh d)) (σ.set i (some v)) := by
  have key : ∀ {j : Nat} {e : D}, (ρ.set i (.sh d))[j]? = some (.ow e) → i ≠ j ∧ ρ[j]? = some (.ow e) := fun {j e} h1 => by
    by_cases hj : i = j
    · subst hj
      have hi : i < (ρ.set i (.sh d)).length := (List.getElem?_eq_some_iff.mp h1).1
      rw [List.getElem?_set_self (by simpa using hi)] at h1
      cases h1
    · rw [List.getElem?_set_ne hj] at h1
      exact ⟨hj, h1⟩
  refine ⟨B.rel.set i r, B.ext, fun j a d' h1 h2 => ?_, fun j c ds h1 => ?_⟩
  · obtain ⟨k1, k2⟩ := key h1
    rw [List.getElem?_set_ne k1] at h2
    exact B.own j a d' k2 h2
  · obtain ⟨k1, k2⟩ := key h1
    rw [List.getElem?_set_ne k1]
    exact B.self j c ds k2
theorem Bs.setO {G0 H0 G1 H1 G H : Hp} {ρ : En} {σ : L2.St} (B : Bs K mg ww me G0 H0 G1 H1 ρ σ) (x : Ext G1 H1 G H) (i : Nat) {p : Addr} {ds : List D} (hp : H1 p = none) (g : G p = none) (r : OwAt K mg ww G H p (.lst ds)) : Bs K mg ww me G0 H0 G H (ρ.set i (.ow (.lst ds))) (σ.set i (some (.ref p))) := by
  refine ⟨(B.rel.ext x).setO i g r fun j e h1 h2 => ?_, B.ext.trans x, fun j a d' h1 h2 => ?_, fun j c fs h1 => ?_⟩
  · obtain ⟨o, ho, a, e2, ga, ow⟩ := B.rel.get h1
    rw [h2] at ho
    cases ho
    cases e2
    obtain ⟨u, hu⟩ := ow.ex
    rw [hp] at hu
    cases hu
  · by_cases hj : i = j
    · subst hj
      have hi : i < σ.length := by simpa using (List.getElem?_eq_some_iff.mp h2).1
      rw [List.getElem?_set_self hi] at h2
      cases h2
      exact B.ext.hh.free hp
    · rw [List.getElem?_set_ne hj] at h1 h2
      exact B.own j a d' h1 h2
  · by_cases hj : i = j
    · subst hj
      have hi : i < (ρ.set i (.ow (.lst ds))).length := (List.getElem?_eq_some_iff.mp h1).1
      rw [List.getElem?_set_self (by simpa using hi)] at h1
      cases h1
    · rw [List.getElem?_set_ne hj] at h1 ⊢
      exact B.self j c fs h1
theorem asg_post {G0 H0 G H : Hp} {ρ : En} {σ : L2.St} {D : Ends} {i : Nat} (B : Bs K mg ww me G0 H0 G H ρ σ) (p : PostS K mg ww U fre me G0 H0 D (asg i f ρ)) : tE K mg ww (up U) f σ H fun x H1 => gName i x σ H1 D.nx := by
  refine tE_in B ?_
  revert p
  unfold asg
  cases f ρ with
  | st => exact id
  | ex c => exact id
  | ok d => exact fun p v G' H' B' r => p _ G' H' (B'.set i r)
theorem asgO_post {G0 H0 G H : Hp} {ρ : En} {σ : L2.St} {D : Ends} {i : Nat} (B : Bs K mg ww me G0 H0 G H ρ σ) (p : PostS K mg ww U fre me G0 H0 D (asgO i f ρ)) : tF K mg ww (up U) f σ H fun x H1 => gName i x σ H1 D.nx := by
  refine ⟨G, ρ, B.rel, ?_⟩
  revert p
  unfold asgO
  cases f ρ with
  | st => exact id
  | ex c => exact fun p C G' H' x m => p C G' H' (B.ext.trans x) m
  | ok d =>
    intro p a G' H' x ha ga ow
    simp only [bd_ok] at p
    cases d with
    | lst ds => exact p _ G' H' (B.setO x i ha ga ow)
    | _ => exact p.elim
section
variable {i : Nat} {x : Str} {pos' : Pos}
theorem ss_set (C : Ctx X (up U)) (hi : X.N[i]? = some x) (hx : Loc X.env.scope x) (ha : SE X (up U) a f) (hs : swapsWith a (some (.Name x pos')) pos.line X.env = pure false := by rfl) (hf : X.fn x = true ∨ X.env.scope.names.lookup x = some .local := by first | exact .inl rfl | exact .inr rfl | assumption) :
    SS X U fre (.Assign [.Name x pos'] a pos) (asg i f) := PS.weak (ps_set C.nd hi hx ha hs hf) fun D σ H ⟨G, ρ, me, G0, H0, B, p⟩ => asg_post B p
theorem ss_setO (C : Ctx X (up U)) (hi : X.N[i]? = some x) (hx : Loc X.env.scope x) (ha : SF X (up U) a f) (hs : swapsWith a (some (.Name x pos')) pos.line X.env = pure false := by rfl) (hf : X.fn x = true ∨ X.env.scope.names.lookup x = some .local := by first | exact .inl rfl | exact .inr rfl | assumption) :
    SS X U fre (.Assign [.Name x pos'] a pos) (asgO i f) := PS.weak (ps_set C.nd hi hx ha hs hf) fun D σ H ⟨G, ρ, me, G0, H0, B, p⟩ => asgO_post B p
def vsh (i : Nat) : En → Oc D := fun ρ => match ρ[i]? with | some (.sh d) => .ok d | _ => .st
def augA (i : Nat) (f : En → Oc D) : En → Oc Res := fun ρ => bd (vsh i ρ) fun d => bd (f ρ) fun e => bd (match d, e with | .int m, .int n => .ok (.int (m + n)) | _, _ => Oc.st) fun z => .ok (.nx (ρ.set i (.sh z)))
theorem ss_augA (C : Ctx X (up U)) (hi : X.N[i]? = some x) (hx : Loc X.env.scope x) (ha : SE X (up U) a f) (hf : X.fn x = true ∨ X.env.scope.names.lookup x = some .local := by first | exact .inl rfl | exact .inr rfl | assumption) :
    SS X U fre (.AugAssign (.Name x pos') .Add a pos) (augA i f) := PS.weak (ps_aug C.nd hi hx ha ip_add hf) fun D σ H ⟨G, ρ, me, G0, H0, B, p⟩ => by
  revert p
  unfold augA vsh
  cases q : ρ[i]? with
  | none => exact fun p => p.elim
  | some s =>
    cases s with
    | no => exact fun p => p.elim
    | exn _ => exact fun p => p.elim
    | fn _ _ _ => exact fun p => p.elim
    | ls _ _ => exact fun p => p.elim
    | ow d => exact fun p => p.elim
    | sh d =>
      intro p
      obtain ⟨o, ho, v, rfl, r⟩ := B.rel.get q
      refine ⟨v, ho, tE_in B ?_⟩
      revert p
      simp only [bd_ok]
      cases f ρ with
      | st => exact id
      | ex c => exact id
      | ok e =>
        intro p u G' H' B' r'
        simp only [bd_ok] at p
        cases d with
        | int m =>
          cases e with
          | int n =>
            cases r
            cases r'
            exact ⟨m, n, rfl, rfl, p _ G' H' (B'.set i (.int _))⟩
          | _ => exact p.elim
        | _ => exact p.elim
def augS (i : Nat) (f : En → Oc D) : En → Oc Res := fun ρ => bd (vsh i ρ) fun d => bd (f ρ) fun e => bd (match d, e with | .int m, .int n => .ok (.int (m - n)) | _, _ => Oc.st) fun z => .ok (.nx (ρ.set i (.sh z)))
theorem ss_augS (C : Ctx X (up U)) (hi : X.N[i]? = some x) (hx : Loc X.env.scope x) (ha : SE X (up U) a f) (hf : X.fn x = true ∨ X.env.scope.names.lookup x = some .local := by first | exact .inl rfl | exact .inr rfl | assumption) :
    SS X U fre (.AugAssign (.Name x pos') .Sub a pos) (augS i f) := PS.weak (ps_aug C.nd hi hx ha ip_sub hf) fun D σ H ⟨G, ρ, me, G0, H0, B, p⟩ => by
  revert p
  unfold augS vsh
  cases q : ρ[i]? with
  | none => exact fun p => p.elim
  | some s =>
    cases s with
    | no => exact fun p => p.elim
    | exn _ => exact fun p => p.elim
    | fn _ _ _ => exact fun p => p.elim
    | ls _ _ => exact fun p => p.elim
    | ow d => exact fun p => p.elim
    | sh d =>
      intro p
      obtain ⟨o, ho, v, rfl, r⟩ := B.rel.get q
      refine ⟨v, ho, tE_in B ?_⟩
      revert p
      simp only [bd_ok]
      cases f ρ with
      | st => exact id
      | ex c => exact id
      | ok e =>
        intro p u G' H' B' r'
        simp only [bd_ok] at p
        cases d with
        | int m =>
          cases e with
          | int n =>
            cases r
            cases r'
            exact ⟨m, n, rfl, rfl, p _ G' H' (B'.set i (.int _))⟩
          | _ => exact p.elim
        | _ => exact p.elim
end

/-! ### stores into own objects -/
theorem Bs.chg {G0 H0 G H : Hp} {ρ : En} {σ : L2.St} (B : Bs K mg ww me G0 H0 G H ρ σ) {i : Nat} {p : Addr} {d d' : D} {o : HO} (h1 : ρ[i]? = some (.ow d)) (h2 : σ[i]? = some (some (.ref p))) (hd : ∀ c ds, d' = .obj c ds → ∃ c2 ds2, d = .obj c2 ds2) (gp : G p = none) (ow : OwAt K mg ww G (upd H p o) p d') : Bs K mg ww me G0 H0 G (upd H p o) (ρ.set i (.ow d')) σ := by
  have h0 : H0 p = none := B.own i p d h1 h2
  have s0 : Vw G (upd H p o) := fun b u e => (B.rel.sub _ _ e).upd (ne_of_none e gp)
  have od : OwAt K mg ww G H p d := by
    obtain ⟨b, e, _, w⟩ := B.rel.at_ i _ _ h1 h2
    cases e
    exact w
  refine ⟨⟨s0, B.rel.tabs.upd od.notFn, by simp [B.rel.len], fun j s ov e1 e2 => ?_, fun j k b x y e1 e2 e3 e4 => ?_⟩, ⟨B.ext.hh.upd h0 od.notFn, B.ext.gg, s0, B.ext.nc⟩, fun j b x e1 e2 => ?_, fun j c fs e1 => ?_⟩
  · by_cases hj : i = j
    · subst hj
      rw [List.getElem?_set_self (List.getElem?_eq_some_iff.mp h1).1] at e1
      cases e1
      rw [h2] at e2
      cases e2
      exact ⟨p, rfl, gp, ow⟩
    · rw [List.getElem?_set_ne hj] at e1
      have q := B.rel.at_ j s ov e1 e2
      cases s with
      | no => trivial
      | exn _ => exact q
      | fn F us es =>
        obtain ⟨a', e', k1, k2, k3⟩ := q
        refine ⟨a', e', ?_, ?_, k3⟩
        · rw [upd_ne fun z => od.notFn.fn _ (by rw [← z]; exact k1)]; exact k1
        · rw [upd_ne fun z => od.notFn.cod _ (by rw [← z]; exact k2)]; exact k2
      | ls _ _ => exact q
      | sh x => exact q
      | ow x =>
        obtain ⟨b, e, gb, r⟩ := q
        subst e
        refine ⟨b, rfl, gb, r.same (.refl _) fun u hu _ _ => ?_⟩
        rw [upd_ne fun z => hj (B.rel.apart i j p d x h1 e1 h2 (by rw [e2, z]))]
        exact hu
  · have key : ∀ {m : Nat} {z : D}, (ρ.set i (.ow d'))[m]? = some (.ow z) → ∃ z', ρ[m]? = some (.ow z') := fun {m z} e => by
      by_cases hm : i = m
      · exact ⟨d, by rw [← hm]; exact h1⟩
      · rw [List.getElem?_set_ne hm] at e; exact ⟨z, e⟩
    obtain ⟨x', e1'⟩ := key e1
    obtain ⟨y', e2'⟩ := key e2
    exact B.rel.apart j k b x' y' e1' e2' e3 e4
  · by_cases hj : i = j
    · subst hj
      rw [h2] at e2
      cases e2
      exact h0
    · rw [List.getElem?_set_ne hj] at e1
      exact B.own j b x e1 e2
  · by_cases hj : i = j
    · subst hj
      rw [List.getElem?_set_self (List.getElem?_eq_some_iff.mp h1).1] at e1
      cases e1
      obtain ⟨c2, ds2, e⟩ := hd _ _ rfl
      subst e
      exact B.self i c2 ds2 h1
    · rw [List.getElem?_set_ne hj] at e1
      exact B.self j c fs e1
def app (i : Nat) (f : En → Oc D) : En → Oc Res := fun ρ => match ρ[i]? with
  | some (.ow (.lst _)) => bd (f ρ) fun d => (match ρ[i]? with
    | some (.ow (.lst ds)) => chk (decide (ds.length < sizeLine)) (.ok (.nx (ρ.set i (.ow (.lst (ds ++ [d]))))))
    | _ => .st)
  | _ => .st
theorem ss_app {i : Nat} {x : Str} {p1 apos cpos : Pos} (hv : PE X (.Name x p1) (tVar i)) (ha : SE X (up U) a f)
    (hbase : attributeBase (.Name x p1) "append" X.env (eval (.Name x p1) X.env) = eval (.Name x p1) X.env := by rfl)
    (hfew : ((backTo cpos (starEach [a] X.env)).all (fun x => !x.1) && (backToKw cpos (keywordEach [] X.env)).all (fun x => x.1.isSome)
      && decide (([a] : List Expr).length + ([] : List Keyword).length + (if ([] : List Keyword).isEmpty then 0 else 1) < 30)) = true := by rfl)
    (hline : (apos.endLine == cpos.line) = true := by rfl) (hs : starEach [a] X.env = (false, eval a X.env) :: starEach [] X.env := by rfl) (hplain : (backTo cpos (starEach [] X.env)).any (·.1) = false := by rfl)
    (hsw : swapsWith (.Call (.Attribute (.Name x p1) "append" apos) [a] [] cpos) none pos.line X.env = pure false := by rfl) :
    SS X U fre (.Expr (.Call (.Attribute (.Name x p1) "append" apos) [a] [] cpos) pos) (app i f) :=
  PS.weak (ps_expr (pe_bm PySem.F.plainAttrs_list PySem.F.slot_list_append PySem.F.type_list_append mt_append hv (pa_cons ha pa_nil hs) hbase hfew hline hs hplain) hsw) fun D σ H ⟨G, ρ, me, G0, H0, B, p⟩ => by
  revert p
  unfold app
  cases q : ρ[i]? with
  | none => exact fun p => p.elim
  | some s =>
    cases s with
    | no => exact fun p => p.elim
    | exn _ => exact fun p => p.elim
    | fn _ _ _ => exact fun p => p.elim
    | ls _ _ => exact fun p => p.elim
    | sh d => exact fun p => p.elim
    | ow d =>
      cases d with
      | lst ds =>
        intro p
        obtain ⟨o, ho, l, rfl, gl, xs, hl, rl⟩ := B.rel.get q
        refine ⟨.ref l, ho, .inl ⟨rfl, _, SqL.of hl⟩, tE_in B ?_⟩
        revert p
        simp only
        cases f ρ with
        | st => exact id
        | ex c => exact id
        | ok d =>
          intro p v G' H' B' r
          simp only [bd_ok] at p
          have p2 : decide (ds.length < sizeLine) = true ∧ PostS X.K X.mg X.w U fre me G0 H0 D (.ok (.nx (ρ.set i (.ow (.lst (ds ++ [d])))))) := chk_some (P := PostS X.K X.mg X.w U fre me G0 H0 D) (fun z => z) p
          obtain ⟨o2, ho2, l2, e2, gl2, xs2, hl2, rl2⟩ := B'.rel.get q
          rw [ho] at ho2
          cases ho2
          cases e2
          exact ⟨l, xs2, v, rfl, rfl, hl2, by rw [rl2.length]; exact of_decide_eq_true p2.1, p2.2 σ G' _ (B'.chg q ho (fun _ _ z => by cases z) gl2 ⟨_, upd_same, rl2.append (.cons r .nil)⟩)⟩
      | _ => exact fun p => p.elim
def putD (n : Str) (d : D) : List (Str × D) → List (Str × D)
  | [] => [(n, d)]
  | (m, x) :: r => if m = n then (m, d) :: r else (m, x) :: putD n d r
theorem RepF.put {G : Hp} {n : Str} {v : V} {d : D} (rv : Rep K mg ww G v d) : ∀ {fs : List (Str × V)} {ds : List (Str × D)}, RepF K mg ww G fs ds → RepF K mg ww G (putF n v fs) (putD n d ds)
  | _, _, .nil => .cons rv .nil
  | _, _, .cons (n := m) r t => by
    unfold putF putD
    by_cases h : m = n
    · rw [if_pos h, if_pos h]; exact .cons rv t
    · rw [if_neg h, if_neg h]; exact .cons r (RepF.put rv t)
def setF (i : Nat) (cs : List Str) (n : Str) (f : En → Oc D) : En → Oc Res := fun ρ => bd (f ρ) fun d => match ρ[i]? with
  | some (.ow (.obj c fs)) => chk (decide (c ∈ cs) && decide (fs.length < 1000)) (.ok (.nx (ρ.set i (.ow (.obj c (putD n d fs))))))
  | _ => .st
theorem ss_setF {i : Nat} {x n : Str} {p1 pos' : Pos} {cs : List Str} (hc : ∀ c ∈ cs, ClsA X.K X.mg n c) (hv : PE X (.Name x p1) (tVar i)) (ha : SE X (up U) a f) (hs : swapsWith a (some (.Attribute (.Name x p1) n pos')) pos.line X.env = pure false := by rfl) :
    SS X U fre (.Assign [.Attribute (.Name x p1) n pos'] a pos) (setF i cs n f) := PS.weak (ps_fld hv ha hs) fun D σ H ⟨G, ρ, me, G0, H0, B, p⟩ => by
  refine tE_in B ?_
  revert p
  unfold setF
  cases f ρ with
  | st => exact id
  | ex c => exact id
  | ok d =>
    intro p v G' H' B' r
    simp only [bd_ok] at p
    revert p
    cases q : ρ[i]? with
    | none => exact fun p => p.elim
    | some s =>
      cases s with
      | no => exact fun p => p.elim
      | exn _ => exact fun p => p.elim
      | fn _ _ _ => exact fun p => p.elim
      | ls _ _ => exact fun p => p.elim
      | sh d => exact fun p => p.elim
      | ow d2 =>
        cases d2 with
        | obj c fs =>
          intro p
          have p2 : (decide (c ∈ cs) && decide (fs.length < 1000)) = true ∧ PostS X.K X.mg X.w U fre me G0 H0 D (.ok (.nx (ρ.set i (.ow (.obj c (putD n d fs)))))) := chk_some (P := PostS X.K X.mg X.w U fre me G0 H0 D) (fun z => z) p
          rw [Bool.and_eq_true, decide_eq_true_eq, decide_eq_true_eq] at p2
          obtain ⟨o, ho, l, rfl, gl, C, dx, vs, m, hl, rl⟩ := B'.rel.get q
          obtain ⟨k1, k2⟩ := hc c p2.1.1 C m
          exact ⟨.ref l, ho, l, C, dx, vs, rfl, hl, k1, k2, by rw [rl.length]; exact p2.1.2, p2.2 σ G' _ (B'.chg q ho (fun _ _ _ => ⟨_, _, rfl⟩) gl ⟨C, dx, _, m, upd_same, rl.put r⟩)⟩
        | _ => exact fun p => p.elim
end
end Fx

set_option Elab.async false
set_option linter.all false
set_option maxRecDepth 100000
set_option maxHeartbeats 4000000
/-! Fx5: loops, comprehensions, defs. -/
namespace Fx
open PySem PySem.Spec PyProof.Rows L2
variable {K : PySem.W.Frag} {mg : Str → Option Value} {ww : World} {me : Addr}

/-! ### targets -/
inductive Tg where
  | one (i : Nat) | tup (is : List Nat)
def setE : List Nat → List D → En → En
  | i :: is, d :: ds, ρ => setE is ds (ρ.set i (.sh d))
  | _, _, ρ => ρ
def setV : List Nat → List V → L2.St → L2.St
  | i :: is, v :: vs, σ => setV is vs (σ.set i (some v))
  | _, _, σ => σ
def bindT : Tg → D → En → Oc En
  | .one i, d, ρ => .ok (ρ.set i (.sh d))
  | .tup is, .tup ds, ρ => chk (decide (ds.length = is.length)) (.ok (setE is ds ρ))
  | .tup is, .lst ds, ρ => chk (decide (ds.length = is.length)) (.ok (setE is ds ρ))
  | _, _, _ => .st
def gNames : List Nat → TGs
  | [] => gNil
  | i :: is => gCons (gName i) (gNames is)
def gTL (K : PySem.W.Frag) (n : Nat) (t : TGs) : TG := fun v σ H Q => gTup K n t v σ H Q ∨ gUnl K n t v σ H Q
theorem pg_tl {X : Cx} {es : List Expr} {k : Nat} {t : TGs} {n : Nat} {pos : Pos} (hc : X.calm = true) (h : PGs X es t) (hn : (assignEach es X.env).length = n) (hst : (assignEach es X.env).findIdx? (·.1) = none) : PG X (.Tuple es k pos) (gTL X.K n t) :=
  ⟨fun pins s σ H v u Q I r hw => hw.elim (fun z => (pg_tup hc h hn hst).run pins s σ H v u Q I r z) fun z => (pg_unl hc h hn hst).run pins s σ H v u Q I r z⟩
def gT (K : PySem.W.Frag) : Tg → TG
  | .one i => gName i
  | .tup is => gTL K is.length (gNames is)
abbrev ST (X : Cx) (e : Expr) (T : Tg) : Prop := PG X e (gT X.K T)
def Tg.slots : Tg → List Nat
  | .one i => [i]
  | .tup is => is
def setT : Tg → V → List V → L2.St → L2.St
  | .one i, v, _, σ => σ.set i (some v)
  | .tup is, _, vs, σ => setV is vs σ
theorem gNames_in : ∀ {is : List Nat} {vs : List V} {σ : L2.St} {H : Hp} {Q : L2.St → Hp → Prop}, vs.length = is.length → Q (setV is vs σ) H → gNames is vs σ H Q
  | [], [], _, _, _, _, q => ⟨rfl, q⟩
  | i :: is, v :: vs, σ, H, Q, h, q => ⟨v, vs, rfl, gNames_in (by simpa using h) q⟩
theorem gT_in {G H : Hp} {T : Tg} {v : V} {d : D} {ρ ρ' : En} {σ : L2.St} {Q : L2.St → Hp → Prop} (s : Vw G H) (r : Rep K mg ww G v d) (h : bindT T d ρ = .ok ρ') (q : ∀ vs ds, (match T with | .one _ => True | .tup is => (d = .tup ds ∨ d = .lst ds) ∧ vs.length = is.length ∧ RepL K mg ww G vs ds ∧ ρ' = setE is ds ρ) → Q (setT T v vs σ) H) : gT K T v σ H Q := by
  cases T with
  | one i => exact q [] [] trivial
  | tup is =>
    cases d with
    | tup ds =>
      cases r with
      | tup hs rl =>
        rename_i a xs
        have h : chk (decide (ds.length = is.length)) (.ok (setE is ds ρ)) = .ok ρ' := h
        by_cases hl : ds.length = is.length
        · rw [decide_eq_true hl] at h
          cases h
          have e : xs.length = is.length := by rw [rl.length]; exact hl
          exact .inl ⟨a, xs, rfl, s.sqT hs, e, gNames_in e (q xs ds ⟨.inl rfl, e, rl, rfl⟩)⟩
        · rw [decide_eq_false hl] at h
          cases h
    | lst ds =>
      cases r with
      | lst hs rl =>
        rename_i a xs
        have h : chk (decide (ds.length = is.length)) (.ok (setE is ds ρ)) = .ok ρ' := h
        by_cases hl : ds.length = is.length
        · rw [decide_eq_true hl] at h
          cases h
          have e : xs.length = is.length := by rw [rl.length]; exact hl
          exact .inr ⟨a, xs, rfl, SqL.of (s _ _ hs), e, gNames_in e (q xs ds ⟨.inr rfl, e, rl, rfl⟩)⟩
        · rw [decide_eq_false hl] at h
          cases h
    | _ => cases h
theorem Bs.setV {G0 H0 G H : Hp} : ∀ {is : List Nat} {vs : List V} {ds : List D} {ρ : En} {σ : L2.St}, Bs K mg ww me G0 H0 G H ρ σ → RepL K mg ww G vs ds → Bs K mg ww me G0 H0 G H (setE is ds ρ) (Fx.setV is vs σ)
  | [], _, _, _, _, B, _ => B
  | i :: is, _, _, _, _, B, .nil => B
  | i :: is, _, _, _, _, B, .cons r t => Bs.setV (is := is) (B.set i r) t
theorem Rel.setV {G H : Hp} : ∀ {is : List Nat} {vs : List V} {ds : List D} {ρ : En} {σ : L2.St}, Rel K mg ww G H ρ σ → RepL K mg ww G vs ds → Rel K mg ww G H (setE is ds ρ) (Fx.setV is vs σ)
  | [], _, _, _, _, B, _ => B
  | i :: is, _, _, _, _, B, .nil => B
  | i :: is, _, _, _, _, B, .cons r t => Rel.setV (is := is) (B.set i r) t
theorem gT_bs {G0 H0 G H : Hp} {T : Tg} {v : V} {d : D} {ρ ρ' : En} {σ : L2.St} {Q : L2.St → Hp → Prop} (B : Bs K mg ww me G0 H0 G H ρ σ) (r : Rep K mg ww G v d) (h : bindT T d ρ = .ok ρ') (q : ∀ σ', Bs K mg ww me G0 H0 G H ρ' σ' → Q σ' H) : gT K T v σ H Q := by
  refine gT_in B.rel.sub r h fun vs ds c => q _ ?_
  cases T with
  | one i => cases h; exact B.set i r
  | tup is =>
    obtain ⟨_, _, rl, e⟩ := c
    subst e
    exact B.setV rl
theorem gT_rel {G H : Hp} {T : Tg} {v : V} {d : D} {ρ ρ' : En} {σ : L2.St} {Q : L2.St → Hp → Prop} (R : Rel K mg ww G H ρ σ) (r : Rep K mg ww G v d) (h : bindT T d ρ = .ok ρ') (q : ∀ vs, Rel K mg ww G H ρ' (setT T v vs σ) → Q (setT T v vs σ) H) : gT K T v σ H Q := by
  refine gT_in R.sub r h fun vs ds c => q _ ?_
  cases T with
  | one i => cases h; exact R.set i r
  | tup is =>
    obtain ⟨_, _, rl, e⟩ := c
    subst e
    exact R.setV rl

/-! ### what is walked -/
structure Yld (K : PySem.W.Frag) (mg : Str → Option Value) (ww : World) (J : It) (G' : Hp) (ds : List D) : Prop where
  go : ∀ (i : Nat) G H, i < ds.length → Same G' G → Vw G H → J.go i H
  stop : ∀ G H, Same G' G → Vw G H → J.stop ds.length H
  yld : ∀ (i : Nat) d x G H H', ds[i]? = some d → Same G' G → Vw G H → J.yld i H x H' → ∃ G2, Ext G H G2 H' ∧ Rep K mg ww G2 x d
def PostI (K : PySem.W.Frag) (mg : Str → Option Value) (ww : World) (W : XK) (G H : Hp) (R : It → Hp → Prop) : Oc (List D) → Prop
  | .st => False
  | .ok ds => ∀ J G' H', Ext G H G' H' → Yld K mg ww J G' ds → R J H'
  | .ex c => ∀ C G' H', Ext G H G' H' → mg c = some (.ref C) → W (.ref C) none H'
def tI (K : PySem.W.Frag) (mg : Str → Option Value) (ww : World) (W : WX) (f : En → Oc (List D)) : TI := fun σ H R => ∃ G ρ, Rel K mg ww G H ρ σ ∧ PostI K mg ww (fun c d H' => W c d σ H') G H R (f ρ)
abbrev SI (X : Cx) (W : WX) (tg e : Expr) (f : En → Oc (List D)) : Prop := PI X tg e (tI X.K X.mg X.w W f)
theorem PI.weak {X : Cx} {tg e : Expr} {t u : TI} (h : PI X tg e t) (w : ∀ σ H Q, u σ H Q → t σ H Q) : PI X tg e u := ⟨fun pins s σ H Q I q => h.run pins s σ H Q I (w _ _ _ q)⟩

section
variable {X : Cx} {W : WX} {U : XK} {fre : Fr} {a b c e tg it : Expr} {es : List Expr} {f g h : En → Oc D} {fs : En → Oc (List D)} {pos : Pos} {st : Stmt} {sts sts2 : List Stmt} {gs hs : En → Oc Res} {t : En → Oc Bool}

def iSeq (K : PySem.W.Frag) (tl : TE) : TI := fun σ H R => tl σ H fun x H1 => ∃ a, x = .ref a ∧ ((∃ xs, SqL K H1 a xs ∧ R (Itl K a) H1) ∨ (∃ xs, SqT K H1 a xs ∧ R (Itt K a) H1))
theorem iter_new {pins : List (Addr × Obj)} {σ : L2.St} {H : Hp} {s : Shared} (I : Inv X pins σ H s) (o : Obj) : Inv X pins σ H { s with heap := s.heap.push o } ∧ ∀ b ∈ [s.heap.objs.size], FpOk X pins H b :=
  ⟨I.kept (t' := s.toks) fun _ _ => Heap.get?_push_of_some _, fun b m => List.mem_singleton.mp m ▸ I.fpOk (Nat.le_refl _) (I.hok.fresh (Nat.le_refl _))⟩
theorem pi_seq {l : Expr} {tl : TE} (hl : PE X l tl) : PI X tg l (iSeq X.K tl) := by
  constructor
  intro pins s σ H R I h
  apply thn (hl.run pins s σ H _ I h)
  rintro v s1 ⟨_, H1, J, rel, a, rfl, src⟩
  cases rel
  rcases src with ⟨xs, isL, go⟩ | ⟨xs, isT, go⟩
  · obtain ⟨_, _, plain, _⟩ := J.list isL
    have new := iter_new J
    exact wpAny_pyIter_list plain.isList ⟨_, _, _, _, H1, rfl, (new _).1, turn_list a _, ⟨_, Heap.get?_push_size _ rfl, rfl, rfl⟩, (new default).2, go⟩
  · obtain ⟨its, _, isTup, _⟩ := J.tuple isT
    have new := iter_new J
    have is : s1.heap.IsTuple a its.toArray := isTup
    exact wpAny_pyIter_tuple is ⟨_, _, _, _, H1, rfl, (new _).1, turn_tuple a _, ⟨_, Heap.get?_push_size _ rfl, rfl, rfl⟩, (new default).2, go⟩
theorem yld_list {G' : Hp} {a : Addr} {xs : List V} {ds : List D} (h : SqL K G' a xs) (r : RepL K mg ww G' xs ds) : Yld K mg ww (Itl K a) G' ds := by
  refine ⟨fun i G H hi s1 s2 => ?_, fun G H s1 s2 => ?_, fun i d x G H H' hd s1 s2 y => ?_⟩
  · have hi2 : i < xs.length := by rw [r.length]; exact hi
    exact ⟨xs, xs[i], s2.seq (s1.seq h), by simp [hi2]⟩
  · exact ⟨xs, s2.seq (s1.seq h), by rw [r.length]; exact Nat.le_refl _⟩
  · obtain ⟨e, y⟩ := y
    subst e
    obtain ⟨v, hv, rv⟩ := r.get hd
    have q := y xs (s2.seq (s1.seq h))
    rw [hv] at q
    cases q
    exact ⟨G, .refl s2, rv.same s1⟩
theorem yld_tup {G' : Hp} {a : Addr} {xs : List V} {ds : List D} (h : SqT K G' a xs) (r : RepL K mg ww G' xs ds) : Yld K mg ww (Itt K a) G' ds := by
  refine ⟨fun i G H hi s1 s2 => ?_, fun G H s1 s2 => ?_, fun i d x G H H' hd s1 s2 y => ?_⟩
  · have hi2 : i < xs.length := by rw [r.length]; exact hi
    exact ⟨xs, xs[i], s2.sqT (SqT.same s1 h), by simp [hi2]⟩
  · exact ⟨xs, s2.sqT (SqT.same s1 h), by rw [r.length]; exact Nat.le_refl _⟩
  · obtain ⟨e, y⟩ := y
    subst e
    obtain ⟨v, hv, rv⟩ := r.get hd
    have q := y xs (s2.sqT (SqT.same s1 h))
    rw [hv] at q
    cases q
    exact ⟨G, .refl s2, rv.same s1⟩
def itm (f : En → Oc D) : En → Oc (List D) := fun ρ => bd (f ρ) fun d => match items d with | some ds => .ok ds | none => .st
theorem si_seq (ha : SE X W it f) : SI X W tg it (itm f) := PI.weak (pi_seq ha) fun σ H Q ⟨G, ρ, R, p⟩ => by
  refine ⟨G, ρ, R, ?_⟩
  revert p
  unfold itm
  cases f ρ with
  | st => exact id
  | ex c => exact id
  | ok d =>
    intro p v G1 H1 x1 r
    simp only [bd_ok] at p
    cases d with
    | lst ds =>
      cases r with
      | lst h r => exact ⟨_, rfl, .inl ⟨_, SqL.of (x1.gh _ _ h), p _ G1 H1 x1 (yld_list (SqL.of h) r)⟩⟩
    | tup ds =>
      cases r with
      | tup h r => exact ⟨_, rfl, .inr ⟨_, x1.gh.sqT h, p _ G1 H1 x1 (yld_tup h r)⟩⟩
    | fz ds =>
      cases r with
      | fz h r => exact ⟨_, rfl, .inl ⟨_, x1.gh.seq h, p _ G1 H1 x1 (yld_list h r)⟩⟩
    | _ => exact p.elim
def rngL (lo : Int) (n : Nat) : List D := (List.range n).map fun i => .int (lo + (i : Nat))
theorem yld_rng {G' : Hp} {lo : Int} {n : Nat} : Yld K mg ww (Itr lo n) G' (rngL lo n) := by
  have hl : (rngL lo n).length = n := by simp [rngL]
  refine ⟨fun i G H hi s1 s2 => ?_, fun G H s1 s2 => ?_, fun i d x G H H' hd s1 s2 y => ?_⟩
  · show i < n
    rw [← hl]; exact hi
  · show n ≤ _
    rw [hl]; exact Nat.le_refl _
  · obtain ⟨e, y⟩ := y
    subst e y
    have hi : i < n := by rw [← hl]; exact (List.getElem?_eq_some_iff.mp hd).1
    unfold rngL at hd
    rw [List.getElem?_map, List.getElem?_range hi] at hd
    cases hd
    exact ⟨G, .refl s2, .int _⟩
def rng1 (fs : En → Oc (List D)) : En → Oc (List D) := fun ρ => bd (fs ρ) fun ds => match ds with | [.int j] => chk (decide (-(2 ^ 62) ≤ j ∧ j < 2 ^ 62)) (.ok (rngL 0 j.toNat)) | _ => .st
def rng2 (fs : En → Oc (List D)) : En → Oc (List D) := fun ρ => bd (fs ρ) fun ds => match ds with | [.int i, .int j] => chk (decide (-(2 ^ 62) ≤ i ∧ i < 2 ^ 62 ∧ -(2 ^ 62) ≤ j ∧ j < 2 ^ 62)) (.ok (rngL i (j - i).toNat)) | _ => .st
theorem si_rng1 {p : Pos} (hg : Gl X "range") (hm : X.mg "range" = none) (ha : SA X W [a] fs) (hs : starEach [a] X.env = [(false, eval a X.env)] := by rfl) : SI X W tg (.Call (.Name "range" p) [a] [] pos) (rng1 fs) := PI.weak (pi_range1 hg hm ha hs) fun σ H Q ⟨G, ρ, R, p⟩ => by
  refine ⟨G, ρ, R, ?_⟩
  revert p
  unfold rng1
  cases fs ρ with
  | st => exact id
  | ex c => exact id
  | ok ds =>
    intro p vs G1 H1 x1 r
    simp only [bd_ok] at p
    split at p
    · rename_i j
      cases r with
      | cons r r2 =>
        cases r
        cases r2
        obtain ⟨c, p⟩ := chk_some (P := PostI X.K X.mg X.w (fun c d H' => W c d σ H') G H Q) (fun z => z) p
        obtain ⟨c1, c2⟩ := of_decide_eq_true c
        exact ⟨j, rfl, c1, c2, p _ G1 H1 x1 yld_rng⟩
    · exact p.elim
theorem si_rng2 {p : Pos} (hg : Gl X "range") (hm : X.mg "range" = none) (ha : SA X W [a, b] fs) (hs : starEach [a, b] X.env = [(false, eval a X.env), (false, eval b X.env)] := by rfl) (hs2 : starEach [b] X.env = [(false, eval b X.env)] := by rfl) : SI X W tg (.Call (.Name "range" p) [a, b] [] pos) (rng2 fs) := PI.weak (pi_range2 hg hm ha hs hs2) fun σ H Q ⟨G, ρ, R, p⟩ => by
  refine ⟨G, ρ, R, ?_⟩
  revert p
  unfold rng2
  cases fs ρ with
  | st => exact id
  | ex c => exact id
  | ok ds =>
    intro p vs G1 H1 x1 r
    simp only [bd_ok] at p
    split at p
    · rename_i i j
      cases r with
      | cons r r2 =>
        cases r
        cases r2 with
        | cons r r2 =>
          cases r
          cases r2
          obtain ⟨c, p⟩ := chk_some (P := PostI X.K X.mg X.w (fun c d H' => W c d σ H') G H Q) (fun z => z) p
          exact ⟨i, j, rfl, of_decide_eq_true c, p _ G1 H1 x1 yld_rng⟩
    · exact p.elim

/-! ### for -/
theorem Ext.base {G0 H0 G1 H1 G H : Hp} (x : Ext G0 H0 G1 H1) (y : Ext G1 H0 G H) : Ext G0 H0 G H := ⟨y.hh, x.gg.trans y.gg, y.gh, fun a o h g => y.nc a o h (x.nc a o h g)⟩
theorem Ext.rebase {G0 H0 G1 G H : Hp} (s : Same G0 G1) (y : Ext G0 H0 G H) (z : Same G1 G) : Ext G1 H0 G H := ⟨y.hh, z, y.gh, fun a o h g => y.nc a o h (s.free g)⟩
theorem Bs.base {G0 H0 G1 H1 G H : Hp} {ρ : En} {σ : L2.St} (x : Ext G0 H0 G1 H1) (B : Bs K mg ww me G1 H0 G H ρ σ) : Bs K mg ww me G0 H0 G H ρ σ := ⟨B.rel, x.base B.ext, B.own, B.self⟩
theorem Bs.rebase {G0 H0 G1 G H : Hp} {ρ : En} {σ : L2.St} (s : Same G0 G1) (B : Bs K mg ww me G0 H0 G H ρ σ) (z : Same G1 G) : Bs K mg ww me G1 H0 G H ρ σ := ⟨B.rel, B.ext.rebase s z, B.own, B.self⟩
def forL (T : Tg) (body : En → Oc Res) : List D → En → Oc Res
  | [], ρ => .ok (.nx ρ)
  | d :: ds, ρ => bd (bindT T d ρ) fun ρ1 => bd (body ρ1) fun r => match r with
    | .nx ρ2 => forL T body ds ρ2
    | .ct ρ2 => forL T body ds ρ2
    | .bk ρ2 => .ok (.nx ρ2)
    | .rt d => .ok (.rt d)
def fr (T : Tg) (src : En → Oc (List D)) (body : En → Oc Res) : En → Oc Res := fun ρ => bd (src ρ) fun ds => forL T body ds ρ
theorem bindT_ex {T : Tg} {d : D} {ρ : En} {c : Str} : bindT T d ρ ≠ .ex c := by
  intro h
  cases T with
  | one i => cases h
  | tup is =>
    cases d with
    | tup ds =>
      have h : chk (decide (ds.length = is.length)) (.ok (setE is ds ρ)) = .ex c := h
      cases hb : decide (ds.length = is.length) with
      | true => rw [hb] at h; cases h
      | false => rw [hb] at h; cases h
    | lst ds =>
      have h : chk (decide (ds.length = is.length)) (.ok (setE is ds ρ)) = .ex c := h
      cases hb : decide (ds.length = is.length) with
      | true => rw [hb] at h; cases h
      | false => rw [hb] at h; cases h
    | _ => cases h
theorem ss_for {T : Tg} {body : List Stmt} {src : En → Oc (List D)} (C : Ctx X (up U)) (hp : PassesOwn (model X.prog X.w) X.A X.env X.xe) (hi : SI X (up U) tg it src) (hg : ST X tg T) (hb : SSs X U fre body gs)
    (hs : ∀ x, foldedSetIterable it X.env x = pure x := by intro _; rfl) : SS X U fre (.For tg it body [] pos) (fr T src gs) := PS.weak (ps_for hp C.calm hi hg hb hs) fun D σ H ⟨G, ρ, me, G0, H0, B, p⟩ => by
  refine ⟨G, ρ, B.rel, ?_⟩
  revert p
  unfold fr
  cases src ρ with
  | st => exact id
  | ex c => exact fun p C G' H' x m => p C G' H' (B.ext.trans x) m
  | ok ds =>
    intro p J G1 H1 x1 Y
    simp only [bd_ok] at p
    have xb : Ext G0 H0 G1 H1 := B.ext.trans x1
    refine ⟨fun i m σ H => m = ds.length - i ∧ i ≤ ds.length ∧ ∃ G ρ, Same G1 G ∧ Bs X.K X.mg X.w me G0 H0 G H ρ σ ∧ PostS X.K X.mg X.w U fre me G0 H0 D (forL T gs (ds.drop i) ρ), ⟨ds.length, by simp, Nat.zero_le _, G1, ρ, .refl _, B.step x1, by simpa using p⟩, ?_⟩
    rintro i m σ H ⟨rfl, hi, G, ρ, s1, B, p⟩
    by_cases hlt : i < ds.length
    · refine .inr ⟨Y.go i G H hlt s1 B.rel.sub, _, fun σ' H' n => n, fun x H' y => ?_⟩
      obtain ⟨d, hd⟩ : ∃ d, ds[i]? = some d := ⟨ds[i], List.getElem?_eq_getElem hlt⟩
      obtain ⟨G2, x2, r2⟩ := Y.yld i d x G H H' hd s1 B.rel.sub y
      have B2 := B.step x2
      have hdr : ds.drop i = d :: ds.drop (i + 1) := by
        rw [List.drop_eq_getElem_cons hlt]
        rw [List.getElem?_eq_getElem hlt] at hd
        cases hd
        rfl
      rw [hdr] at p
      unfold forL at p
      cases hb2 : bindT T d ρ with
      | st => rw [hb2] at p; exact p.elim
      | ex c => exact absurd hb2 bindT_ex
      | ok ρ1 =>
        rw [hb2] at p
        simp only [bd_ok] at p
        refine gT_bs B2 r2 hb2 fun σ' B3 => ?_
        refine ⟨G2, ρ1, me, G1, H0, B3.rebase xb.gg (s1.trans x2.gg), ?_⟩
        revert p
        cases gs ρ1 with
        | st => exact id
        | ex c => exact fun p C G'' H'' x m => p C G'' H'' (xb.base x) m
        | ok r =>
          cases r with
          | nx ρ2 => exact fun p σ'' G'' H'' B4 => ⟨ds.length - (i + 1), by omega, rfl, hlt, G'', ρ2, B4.ext.gg, B4.base xb, p⟩
          | ct ρ2 => exact fun p σ'' G'' H'' B4 => ⟨ds.length - (i + 1), by omega, rfl, hlt, G'', ρ2, B4.ext.gg, B4.base xb, p⟩
          | bk ρ2 => exact fun p σ'' G'' H'' B4 => p σ'' G'' H'' (B4.base xb)
          | rt d =>
            cases fre with
            | s => exact fun p v G'' H'' x r => p v G'' H'' (xb.base x) r
            | d => exact fun p a G'' H'' x r => p a G'' H'' (xb.base x) r
            | o => exact fun p => ⟨fun hn G'' H'' x => p.1 hn G'' H'' (xb.base x), fun hn a G'' H'' x h g w => p.2 hn a G'' H'' (xb.base x) h g w⟩
    · have e : i = ds.length := by omega
      subst e
      rw [List.drop_length] at p
      exact .inl ⟨Y.stop G H s1 B.rel.sub, p σ G H B⟩

/-! ### while -/
def whF (t : En → Oc Bool) (body : En → Oc Res) : Nat → En → Oc Res
  | 0, _ => .st
  | n + 1, ρ => bd (t ρ) fun b => if b then bd (body ρ) fun r => match r with
    | .nx ρ' => whF t body n ρ'
    | .ct ρ' => whF t body n ρ'
    | .bk ρ' => .ok (.nx ρ')
    | .rt d => .ok (.rt d)
    else .ok (.nx ρ)
theorem whF_mono {t : En → Oc Bool} {body : En → Oc Res} : ∀ {n m : Nat} {ρ : En} {o : Oc Res}, whF t body n ρ = o → o ≠ .st → n ≤ m → whF t body m ρ = o
  | 0, _, _, _, h, hn, _ => absurd h.symm hn
  | n + 1, 0, _, _, _, _, hm => absurd hm (by omega)
  | n + 1, m + 1, ρ, o, h, hn, hm => by
    unfold whF at h ⊢
    cases ht : t ρ with
    | st => rw [ht] at h; exact h
    | ex c => rw [ht] at h; exact h
    | ok b =>
      rw [ht] at h
      simp only [bd_ok] at h ⊢
      cases b with
      | false => exact h
      | true =>
        simp only [if_true] at h ⊢
        cases hb : body ρ with
        | st => rw [hb] at h; exact h
        | ex c => rw [hb] at h; exact h
        | ok r =>
          rw [hb] at h
          simp only [bd_ok] at h ⊢
          cases r with
          | nx ρ' => exact whF_mono h hn (by omega)
          | ct ρ' => exact whF_mono h hn (by omega)
          | bk ρ' => exact h
          | rt d => exact h
open Classical in
noncomputable def wh (t : En → Oc Bool) (body : En → Oc Res) : En → Oc Res := fun ρ => if h : ∃ n, whF t body n ρ ≠ .st then whF t body (choose h) ρ else .st
theorem wh_of {t : En → Oc Bool} {body : En → Oc Res} {n : Nat} {ρ : En} {o : Oc Res} (h : whF t body n ρ = o) (hn : o ≠ .st) : wh t body ρ = o := by
  have hex : ∃ n, whF t body n ρ ≠ .st := ⟨n, by rw [h]; exact hn⟩
  unfold wh
  rw [dif_pos hex]
  have hc := Classical.choose_spec hex
  rcases Nat.le_total n (Classical.choose hex) with l | l
  · exact whF_mono h hn l
  · exact (whF_mono rfl hc l).symm.trans h
theorem ss_while {body : List Stmt} (C : Ctx X (up U)) (hp : PassesOwn (model X.prog X.w) X.A X.env X.xe) (hc : STT X (up U) c t) (hb : SSs X U fre body gs) : SS X U fre (.While c body [] pos) (wh t gs) := PS.weak (ps_while hp hc hb) fun D σ H ⟨G, ρ, me, G0, H0, B, p⟩ => by
  have hex : ∃ n, whF t gs n ρ ≠ .st := by
    refine Classical.byContradiction fun hn => ?_
    unfold wh at p
    rw [dif_neg hn] at p
    exact p
  obtain ⟨n, hn⟩ := hex
  rw [wh_of rfl hn] at p
  refine ⟨fun m σ H => ∃ G ρ, Bs X.K X.mg X.w me G0 H0 G H ρ σ ∧ PostS X.K X.mg X.w U fre me G0 H0 D (whF t gs m ρ), ⟨n, G, ρ, B, p⟩, ?_⟩
  rintro m σ H ⟨G, ρ, B, p⟩
  cases m with
  | zero => exact p.elim
  | succ m =>
    unfold whF at p
    refine tT_in B ?_
    revert p
    cases t ρ with
    | st => exact id
    | ex c => exact id
    | ok b =>
      intro p G' H' B'
      simp only [bd_ok] at p
      cases b with
      | false => exact p σ G' H' B'
      | true =>
        simp only [if_true] at p ⊢
        refine ⟨_, fun σ' H' n => n, G', ρ, me, G0, H0, B', ?_⟩
        revert p
        cases gs ρ with
        | st => exact id
        | ex c => exact id
        | ok r =>
          cases r with
          | nx ρ2 => exact fun p σ'' G'' H'' B4 => ⟨m, Nat.lt_succ_self m, G'', ρ2, B4, p⟩
          | ct ρ2 => exact fun p σ'' G'' H'' B4 => ⟨m, Nat.lt_succ_self m, G'', ρ2, B4, p⟩
          | bk ρ2 => exact fun p => p
          | rt d => exact fun p => p

/-! ### comprehensions -/
def wipeE (ρ : En) : List Nat → En
  | [] => ρ
  | v :: vs => (wipeE ρ vs).set v .no
theorem Rel.wipe {G H : Hp} {ρ : En} {σ : L2.St} (R : Rel K mg ww G H ρ σ) : ∀ vs : List Nat, Rel K mg ww G H (wipeE ρ vs) (L2.wipe σ vs)
  | [] => R
  | v :: vs => (R.wipe vs).clear v
theorem wipe_get {σ : L2.St} {i : Nat} : ∀ {vs : List Nat}, i ∈ vs → i < σ.length → (L2.wipe σ vs)[i]? = some none
  | v :: vs, h, hl => by
    unfold L2.wipe
    by_cases e : v = i
    · subst e
      rw [List.getElem?_set_self (by rw [wipe_length]; exact hl)]
    · rw [List.getElem?_set_ne e]
      rcases List.mem_cons.mp h with z | z
      · exact absurd z.symm e
      · exact wipe_get z hl
theorem wipe_ext {σ τ : L2.St} {vs : List Nat} (hl : σ.length = τ.length) (h : ∀ i, i ∉ vs → σ[i]? = τ[i]?) : L2.wipe σ vs = L2.wipe τ vs := by
  apply List.ext_getElem?
  intro i
  by_cases hi : i ∈ vs
  · by_cases hs : i < σ.length
    · rw [wipe_get hi hs, wipe_get hi (by rw [← hl]; exact hs)]
    · rw [List.getElem?_eq_none (by rw [wipe_length]; omega), List.getElem?_eq_none (by rw [wipe_length]; omega)]
  · rw [wipe_out hi, wipe_out hi, h i hi]
theorem setV_get {i : Nat} : ∀ {is : List Nat} {vs : List V} {σ : L2.St}, i ∉ is → (setV is vs σ)[i]? = σ[i]?
  | [], _, _, _ => rfl
  | j :: is, [], _, _ => rfl
  | j :: is, v :: vs, σ, h => by
    unfold setV
    rw [setV_get fun z => h (List.mem_cons_of_mem _ z), List.getElem?_set_ne fun z => h (by rw [z]; exact List.mem_cons_self)]
theorem setV_len : ∀ {is : List Nat} {vs : List V} {σ : L2.St}, (setV is vs σ).length = σ.length
  | [], _, _ => rfl
  | j :: is, [], _ => rfl
  | j :: is, v :: vs, σ => by unfold setV; rw [setV_len, List.length_set]
theorem setT_wipe {T : Tg} {v : V} {us : List V} {σ : L2.St} {vs : List Nat} (h : ∀ i ∈ T.slots, i ∈ vs) : L2.wipe (setT T v us (L2.wipe σ vs)) vs = L2.wipe σ vs := by
  refine wipe_ext ?_ fun i hi => ?_
  · cases T with
    | one j => unfold setT; rw [List.length_set, wipe_length]
    | tup is => unfold setT; rw [setV_len, wipe_length]
  · cases T with
    | one j =>
      unfold setT
      rw [List.getElem?_set_ne fun z => hi (by rw [← z]; exact h j (by simp [Tg.slots])), wipe_out hi]
    | tup is =>
      show (setV is us (L2.wipe σ vs))[i]? = _
      rw [setV_get (is := is) fun z => hi (h i z), wipe_out hi]
def lcL (T : Tg) (own : List Nat) (tt : En → Oc Bool) (el : En → Oc D) (ρ : En) : List D → Oc (List D)
  | [] => .ok []
  | d :: ds => bd (noex (bindT T d (wipeE ρ own))) fun ρ1 => bd (noex (tt ρ1)) fun b => if b then bd (noex (el ρ1)) fun y => bd (lcL T own tt el ρ ds) fun ys => .ok (y :: ys) else lcL T own tt el ρ ds
def lc (T : Tg) (own : List Nat) (src : En → Oc (List D)) (tt : En → Oc Bool) (el : En → Oc D) : En → Oc D := fun ρ => bd (src ρ) fun ds => chk (decide (ds.length ≤ sizeLine)) (bd (lcL T own tt el ρ ds) fun ys => .ok (.lst ys))
theorem noex_ne {α : Type} {o : Oc α} {c : Str} (h : noex o = .ex c) : False := by
  cases o with
  | st => cases h
  | ok b => cases h
  | ex c => cases h
theorem lcL_noex {T : Tg} {own : List Nat} {tt : En → Oc Bool} {el : En → Oc D} {ρ : En} {c : Str} : ∀ {ds : List D}, lcL T own tt el ρ ds ≠ .ex c
  | [], h => by cases h
  | d :: ds, h => by
    unfold lcL at h
    cases h1 : noex (bindT T d (wipeE ρ own)) with
    | st => rw [h1] at h; cases h
    | ex c => exact noex_ne h1
    | ok ρ1 =>
      rw [h1] at h
      simp only [bd_ok] at h
      cases h2 : noex (tt ρ1) with
      | st => rw [h2] at h; cases h
      | ex c => exact noex_ne h2
      | ok b =>
        rw [h2] at h
        simp only [bd_ok] at h
        cases b with
        | false => exact lcL_noex h
        | true =>
          simp only [if_true] at h
          cases h3 : noex (el ρ1) with
          | st => rw [h3] at h; cases h
          | ex c => exact noex_ne h3
          | ok y =>
            rw [h3] at h
            simp only [bd_ok] at h
            cases h4 : lcL T own tt el ρ ds with
            | st => rw [h4] at h; cases h
            | ex c => exact lcL_noex h4
            | ok ys => rw [h4] at h; cases h
theorem noex_eq {α : Type} {o : Oc α} {a : α} (h : noex o = .ok a) : o = .ok a := by
  cases o with
  | st => cases h
  | ok b => exact h
  | ex c => cases h

theorem tLc_in {T : Tg} {own : List Nat} {src : En → Oc (List D)} {tt : En → Oc Bool} {el : En → Oc D} {σ : L2.St} {H : Hp} {Q : VK} (ho : ∀ i ∈ T.slots, i ∈ own) (q : tF K mg ww W (lc T own src tt el) σ H Q) :
    tLc (tI K mg ww W src) (gT K T) (tT K mg ww E0W tt) (tE K mg ww E0W el) own σ H Q := by
  obtain ⟨G, ρ, R, p⟩ := q
  refine ⟨G, ρ, R, ?_⟩
  revert p
  unfold lc
  cases src ρ with
  | st => exact id
  | ex c => exact id
  | ok ds =>
    intro p J G1 H1 x1 Y D hD
    simp only [bd_ok] at p
    obtain ⟨c0, p⟩ := p.chk
    have hsz : ds.length ≤ sizeLine := of_decide_eq_true c0
    have g1 : G1 D = none := x1.gh.free hD
    cases hall : lcL T own tt el ρ ds with
    | st => rw [hall] at p; exact p.elim
    | ex c => exact absurd hall lcL_noex
    | ok ys =>
      rw [hall] at p
      simp only [bd_ok] at p
      refine ⟨fun i m H => m = ds.length - i ∧ i ≤ ds.length ∧ ∃ G acc zs ws, Ext G1 H1 G H ∧ H D = some (.lst acc) ∧ G D = none ∧ RepL K mg ww G acc zs ∧ zs.length ≤ i ∧ lcL T own tt el ρ (ds.drop i) = .ok ws ∧ ys = zs ++ ws,
        ⟨ds.length, by simp, Nat.zero_le _, G1, [], [], ys, Ext.newH x1.gh hD, upd_same, g1, .nil, Nat.le_refl _, by simpa using hall, rfl⟩, ?_⟩
      rintro i m H ⟨rfl, hi, G, acc, zs, ws, x, hH, gD, rl, hz, hw, rfl⟩
      have RR : Rel K mg ww G H ρ σ := (R.ext x1).ext x
      by_cases hlt : i < ds.length
      · refine .inr ⟨Y.go i G H hlt x.gg x.gh, _, fun H' n => n, fun v H' y => ?_⟩
        obtain ⟨d, hd⟩ : ∃ d, ds[i]? = some d := ⟨ds[i], List.getElem?_eq_getElem hlt⟩
        obtain ⟨G2, x2, r2⟩ := Y.yld i d v G H H' hd x.gg x.gh y
        have hdr : ds.drop i = d :: ds.drop (i + 1) := by
          rw [List.drop_eq_getElem_cons hlt]
          rw [List.getElem?_eq_getElem hlt] at hd
          cases hd
          rfl
        rw [hdr] at hw
        unfold lcL at hw
        cases h1 : noex (bindT T d (wipeE ρ own)) with
        | st => rw [h1] at hw; cases hw
        | ex c => exact (noex_ne h1).elim
        | ok ρ1 =>
          rw [h1] at hw
          simp only [bd_ok] at hw
          have R2 : Rel K mg ww G2 H' (wipeE ρ own) (L2.wipe σ own) := (RR.ext x2).wipe own
          refine gT_rel R2 r2 (noex_eq h1) fun us R3 => ⟨setT_wipe ho, ?_⟩
          refine ⟨G2, ρ1, R3, ?_⟩
          cases h2 : noex (tt ρ1) with
          | st => rw [h2] at hw; cases hw
          | ex c => exact (noex_ne h2).elim
          | ok b =>
            rw [h2] at hw
            simp only [bd_ok] at hw
            rw [noex_eq h2]
            intro G3 H3 x3
            have x13 : Ext G1 H1 G3 H3 := (x.trans x2).trans x3
            have x23 : Ext G H G3 H3 := x2.trans x3
            have hH3 : H3 D = some (.lst acc) := x23.hh.ob _ _ hH (fun _ z => by cases z) (fun _ z => by cases z)
            have gD3 : G3 D = none := x23.nc D _ hH gD
            cases b with
            | false =>
              simp only [Bool.false_eq_true, if_false] at hw ⊢
              exact ⟨ds.length - (i + 1), by omega, rfl, hlt, G3, acc, zs, ws, x13, hH3, gD3, rl.same x23.gg, by omega, hw, rfl⟩
            | true =>
              simp only [if_true] at hw ⊢
              refine ⟨G3, ρ1, R3.ext x3, ?_⟩
              cases h3 : noex (el ρ1) with
              | st => rw [h3] at hw; cases hw
              | ex c => exact (noex_ne h3).elim
              | ok yd =>
                rw [h3] at hw
                simp only [bd_ok] at hw
                rw [noex_eq h3]
                intro yv G4 H4 x4 ry
                have x14 : Ext G1 H1 G4 H4 := x13.trans x4
                have hH4 : H4 D = some (.lst acc) := x4.hh.ob _ _ hH3 (fun _ z => by cases z) (fun _ z => by cases z)
                have gD4 : G4 D = none := x4.nc D _ hH3 gD3
                cases h4 : lcL T own tt el ρ (ds.drop (i + 1)) with
                | st => rw [h4] at hw; cases hw
                | ex c => exact absurd h4 lcL_noex
                | ok ws2 =>
                  rw [h4] at hw
                  cases hw
                  refine ⟨acc, hH4, by rw [rl.length]; omega, ds.length - (i + 1), by omega, rfl, hlt, G4, acc ++ [yv], zs ++ [yd], ws2, ⟨x14.hh.upd hD (notFn_lst hH4), x14.gg, fun b u e => ?_, x14.nc⟩, upd_same, gD4, (rl.same (x23.gg.trans x4.gg)).append (.cons ry .nil), by simp; omega, rfl, by simp⟩
                  · exact (x14.gh _ _ e).upd (ne_of_none e gD4)
      · have e : i = ds.length := by omega
        subst e
        rw [List.drop_length] at hw
        cases hw
        refine .inl ⟨Y.stop G H x.gg x.gh, p D G H (x1.trans x) (x1.hh.free hD) gD ⟨acc, hH, ?_⟩⟩
        rw [List.append_nil]
        exact rl
theorem sf_lc {elt : Expr} {ifs : List Expr} {scope : Scope} {own : List (Str × Nat)} {T : Tg} {src : En → Oc (List D)} {tt : En → Oc Bool} {el : En → Oc D} (C : Ctx X W) (hi : SI X W tg it src) (ok : BlkOk X.N X.env.scope scope own)
    (hg : ∀ (s : Shared) (H : Hp) (C : Addr) (cl : List (Str × Addr)) (fp : List Addr), ST (X.blk s H scope (compEnvC scope cl C X.env) fp) tg T) (ht : ∀ (s : Shared) (H : Hp) (C : Addr) (cl : List (Str × Addr)) (fp : List Addr), PTs (X.blk s H scope (compEnvC scope cl C X.env) fp) ifs (tT X.K X.mg X.w E0W tt))
    (he : ∀ (s : Shared) (H : Hp) (C : Addr) (cl : List (Str × Addr)) (fp : List Addr), SE (X.blk s H scope (compEnvC scope cl C X.env) fp) E0W elt el) (ho : ∀ i ∈ T.slots, i ∈ own.map (·.2)) (hs : ∀ x, foldedSetIterable it X.env x = pure x := by intro _; rfl) :
    SF X W (.ListComp elt [⟨tg, it, ifs, 0⟩] scope pos) (lc T (own.map (·.2)) src tt el) := PE.weak (pe_lc C.calm C.nd hi ok hg ht he hs) fun σ H Q q => tLc_in ho q
theorem tF_of_tE {σ : L2.St} {H : Hp} {Q : VK} (h : tE K mg ww W f σ H Q) : tF K mg ww W f σ H Q := by
  obtain ⟨G, ρ, R, p⟩ := h
  refine ⟨G, ρ, R, ?_⟩
  revert p
  cases f ρ with
  | st => exact id
  | ok d =>
    intro p a G' H' x ha ga ow
    obtain ⟨u, hu⟩ := ow.ex
    have gg : Same G' (upd G' a u) := fun b o e => by rw [upd_ne (ne_of_none e ga)]; exact e
    refine p (.ref a) (upd G' a u) H' ⟨x.hh, x.gg.trans gg, fun b o e => ?_, fun b o hb gb => ?_⟩ (ow.rep gg fun o q => by rw [hu] at q; cases q; exact upd_same)
    · by_cases hb : b = a
      · subst hb; rw [upd_same] at e; cases e; exact ow.seen hu _ _ hu
      · rw [upd_ne hb] at e; exact x.gh _ _ e
    · rw [upd_ne (ne_of_none hb ha)]; exact x.nc b o hb gb
  | ex c => exact id
theorem ss_setLc {i : Nat} {y : Str} {py : Pos} {elt : Expr} {ifs : List Expr} {scope : Scope} {own : List (Str × Nat)} {pos2 : Pos} {T : Tg} {src : En → Oc (List D)} {tt : En → Oc Bool} {el : En → Oc D} (C : Ctx X (up U)) (hy : X.N[i]? = some y) (hyl : X.env.scope.names.lookup y = some .local)
    (hsw : swapsWith (.ListComp elt [⟨tg, it, ifs, 0⟩] scope pos) (some (.Name y py)) pos2.line X.env = pure true) (hi : SI X (up U) tg it src) (ok : BlkOk X.N X.env.scope scope own)
    (hg : ∀ (s : Shared) (H : Hp) (C : Addr) (cl : List (Str × Addr)) (fp : List Addr), ST (X.blk s H scope (compEnvC scope cl C X.env) fp) tg T) (ht : ∀ (s : Shared) (H : Hp) (C : Addr) (cl : List (Str × Addr)) (fp : List Addr), PTs (X.blk s H scope (compEnvC scope cl C X.env) fp) ifs (tT X.K X.mg X.w E0W tt))
    (he : ∀ (s : Shared) (H : Hp) (C : Addr) (cl : List (Str × Addr)) (fp : List Addr), SE (X.blk s H scope (compEnvC scope cl C X.env) fp) E0W elt el) (ho : ∀ i ∈ T.slots, i ∈ own.map (·.2)) (hs : ∀ x, foldedSetIterable it X.env x = pure x := by intro _; rfl) :
    SS X U fre (.Assign [.Name y py] (.ListComp elt [⟨tg, it, ifs, 0⟩] scope pos) pos2) (asg i (lc T (own.map (·.2)) src tt el)) := PS.weak (ps_setLc C.calm C.nd hy hyl hsw hi ok hg ht he hs) fun D σ H ⟨G, ρ, me, G0, H0, B, p⟩ =>
  tLc_in ho (tF_of_tE (asg_post B p))
theorem ss_setLcO {i : Nat} {y : Str} {py : Pos} {elt : Expr} {ifs : List Expr} {scope : Scope} {own : List (Str × Nat)} {pos2 : Pos} {T : Tg} {src : En → Oc (List D)} {tt : En → Oc Bool} {el : En → Oc D} (C : Ctx X (up U)) (hy : X.N[i]? = some y) (hyl : X.env.scope.names.lookup y = some .local)
    (hsw : swapsWith (.ListComp elt [⟨tg, it, ifs, 0⟩] scope pos) (some (.Name y py)) pos2.line X.env = pure true) (hi : SI X (up U) tg it src) (ok : BlkOk X.N X.env.scope scope own)
    (hg : ∀ (s : Shared) (H : Hp) (C : Addr) (cl : List (Str × Addr)) (fp : List Addr), ST (X.blk s H scope (compEnvC scope cl C X.env) fp) tg T) (ht : ∀ (s : Shared) (H : Hp) (C : Addr) (cl : List (Str × Addr)) (fp : List Addr), PTs (X.blk s H scope (compEnvC scope cl C X.env) fp) ifs (tT X.K X.mg X.w E0W tt))
    (he : ∀ (s : Shared) (H : Hp) (C : Addr) (cl : List (Str × Addr)) (fp : List Addr), SE (X.blk s H scope (compEnvC scope cl C X.env) fp) E0W elt el) (ho : ∀ i ∈ T.slots, i ∈ own.map (·.2)) (hs : ∀ x, foldedSetIterable it X.env x = pure x := by intro _; rfl) :
    SS X U fre (.Assign [.Name y py] (.ListComp elt [⟨tg, it, ifs, 0⟩] scope pos) pos2) (asgO i (lc T (own.map (·.2)) src tt el)) := PS.weak (ps_setLc C.calm C.nd hy hyl hsw hi ok hg ht he hs) fun D σ H ⟨G, ρ, me, G0, H0, B, p⟩ =>
  tLc_in ho (asgO_post B p)
def yes : En → Oc Bool := fun _ => .ok true
theorem sts_nil : PTs X [] (tT X.K X.mg X.w W yes) := ⟨fun pins s σ H Q I h => pts_nil.run pins s σ H Q I (by obtain ⟨G, ρ, R, p⟩ := h; exact p G H (.refl R.sub))⟩
theorem sts_one (h : STT X W c t) : PTs X [c] (tT X.K X.mg X.w W t) := pts_one h
theorem st_one {i : Nat} {x : Str} {p : Pos} (hN : X.N.Nodup) (hi : X.N[i]? = some x) (hx : Loc X.env.scope x) (hf : X.fn x = true ∨ X.env.scope.names.lookup x = some .local := by first | exact .inl rfl | exact .inr rfl | assumption) : ST X (.Name x p) (.one i) := pg_name hN hi hx hf
abbrev STs (X : Cx) (es : List Expr) (is : List Nat) : Prop := PGs X es (gNames is)
theorem sts_nil' : STs X [] [] := pgs_nil
theorem sts_cons {i : Nat} {is : List Nat} (h : ST X e (.one i)) (h2 : STs X es is) (hs : (assignEach (e :: es) X.env).map (·.2) = assign e X.env :: (assignEach es X.env).map (·.2) := by rfl) : STs X (e :: es) (i :: is) := pgs_cons h h2 hs
theorem st_tup {is : List Nat} {k : Nat} (hc : X.calm = true) (h : STs X es is) (hn : (assignEach es X.env).length = is.length := by rfl) (hst : (assignEach es X.env).findIdx? (·.1) = none := by rfl) : ST X (.Tuple es k pos) (.tup is) := pg_tl hc h hn hst
def asgT (T : Tg) (f : En → Oc D) : En → Oc Res := fun ρ => bd (f ρ) fun d => bd (bindT T d ρ) fun ρ' => .ok (.nx ρ')
theorem ss_asgT {T : Tg} (ha : SE X (up U) a f) (hg : ST X tg T) (hs : swapsWithSole [tg] a pos.line X.env = pure false := by rfl) (hw : swappedStores [tg] a X.env = pure none := by rfl) (h1 : (assignEach [tg] X.env).map (·.2) = [assign tg X.env] := by rfl) : SS X U fre (.Assign [tg] a pos) (asgT T f) := PS.weak (ps_asg ha hg hs hw h1) fun D σ H ⟨G, ρ, me, G0, H0, B, p⟩ => by
  refine tE_in B ?_
  revert p
  unfold asgT
  cases f ρ with
  | st => exact id
  | ex c => exact id
  | ok d =>
    intro p v G' H' B' r
    simp only [bd_ok] at p
    cases hb : bindT T d ρ with
    | st => rw [hb] at p; exact p.elim
    | ex c => exact absurd hb bindT_ex
    | ok ρ' =>
      rw [hb] at p
      exact gT_bs B' r hb fun σ' B2 => p σ' G' H' B2
def rse (c : Str) : En → Oc Res := fun _ => .ex c

/-! ### defs -/
def outR : Oc Res → Oc D := fun o => bd o fun r => match r with
  | .nx _ => .ok .non
  | .rt d => .ok d
  | _ => .st
def fnB (n m : Nat) (g : En → Oc Res) : List D → Oc D := fun ds => chk (decide (ds.length = m)) (outR (g (ds.map .sh ++ List.replicate (n - m) .no)))
end
theorem rel_start {G H : Hp} {N : List Str} {vs : List V} {ds : List D} (s : Vw G H) (tb : Tabs K G H) (r : RepL K mg ww G vs ds) : Rel K mg ww G H (ds.map .sh ++ List.replicate (N.length - ds.length) .no) (L2.start N vs) := by
  have hl := r.length
  refine ⟨s, tb, by simp [L2.start, hl], fun i sl o h1 h2 => ?_, fun i j a d e h1 h2 h3 h4 => ?_⟩
  · by_cases hi : i < ds.length
    · rw [List.getElem?_append_left (by simpa using hi), List.getElem?_map, List.getElem?_eq_getElem hi] at h1
      cases h1
      unfold L2.start at h2
      rw [List.getElem?_append_left (by simpa [hl] using hi), List.getElem?_map] at h2
      obtain ⟨v, hv, rv⟩ := r.get (List.getElem?_eq_getElem hi)
      rw [hv] at h2
      cases h2
      exact ⟨v, rfl, rv⟩
    · rw [List.getElem?_append_right (by simpa using hi), List.getElem?_replicate] at h1
      split at h1
      · cases h1; trivial
      · cases h1
  · by_cases hi : i < ds.length
    · rw [List.getElem?_append_left (by simpa using hi), List.getElem?_map, List.getElem?_eq_getElem hi] at h1
      cases h1
    · rw [List.getElem?_append_right (by simpa using hi), List.getElem?_replicate] at h1
      split at h1 <;> cases h1
section
variable {P : Program} {w : World} {base : Heap}
theorem ctx_def {N ps : List Str} {qual : Str} {sc : Scope} {f : Addr} {cdv : Value} {A : Around} {outer : List Env} {s : Shared} {H : Hp} {E : XK} {k : Nat} (S : FnScope N ps sc) (hr : Room k (A.deeper (envOfC qual sc s.heap.objs.size f cdv))) : Ctx (cxOf (L2.CX P w) P w K mg base N qual sc f cdv A outer s H E) (up E) :=
  ⟨rfl, S.nd, takes_of rfl rfl rfl rfl, by have := hr.un; show (A.deeper (envOfC qual sc s.heap.objs.size f cdv)).units + 65 < cLine; omega⟩
theorem po_def {N : List Str} {qual : Str} {sc : Scope} {f : Addr} {cdv : Value} {A : Around} {outer : List Env} {s : Shared} {H : Hp} {E : XK} :
    PassesOwn (model (cxOf (L2.CX P w) P w K mg base N qual sc f cdv A outer s H E).prog (cxOf (L2.CX P w) P w K mg base N qual sc f cdv A outer s H E).w) (cxOf (L2.CX P w) P w K mg base N qual sc f cdv A outer s H E).A (cxOf (L2.CX P w) P w K mg base N qual sc f cdv A outer s H E).env (cxOf (L2.CX P w) P w K mg base N qual sc f cdv A outer s H E).xe := passes_of rfl
theorem Ctx.blk {X : Cx} {W : WX} (C : Ctx X W) (s : Shared) (H : Hp) (scope : Scope) (cenv : Env) (fp : List Addr) : Ctx (X.blk s H scope cenv fp) E0W := ⟨C.calm, C.nd, takes0, C.units⟩
theorem fn_ok {x qual : Str} {st : Stmt} {f : Addr} {fd : FuncData} {N ps : List Str} {k : Nat} {g : En → Oc Res} (F : Fun K x qual st f fd) (S : FnScope N ps (defScope st))
    (hb : ∀ (cdv : Value) (A : Around) (outer : List Env) (s : Shared) (H : Hp) (E : XK), Room k (A.deeper (envOfC qual (defScope st) s.heap.objs.size f cdv)) → Ctx (cxOf (L2.CX P w) P w K mg base N qual (defScope st) f cdv A outer s H E) (up E) →
      SSs (cxOf (L2.CX P w) P w K mg base N qual (defScope st) f cdv A outer s H E) E .s (defBody st) g) : FnOk P w K mg base (L2.CX P w) (k + 1) f fd ps (spF K mg w ps.length (fnB N.length ps.length g)) := by
  refine F.okX S (fun vs H Q E h => h.1) fun cdv A outer s H vs Q E hr h => ?_
  obtain ⟨hl, G, ds, sG, tb, r, p⟩ := h
  refine ⟨_, hb cdv A outer s H E hr (ctx_def S hr), ?_⟩
  unfold fnB at p
  obtain ⟨c, p⟩ := p.chk
  have hd := of_decide_eq_true c
  have R := rel_start (N := N) sG tb r
  rw [hd] at R
  have key : ∀ (i : Nat) (d : D), (ds.map Sl.sh ++ List.replicate (N.length - ps.length) Sl.no)[i]? ≠ some (.ow d) := fun i d h1 => by
    by_cases hi : i < ds.length
    · rw [List.getElem?_append_left (by simpa using hi), List.getElem?_map, List.getElem?_eq_getElem hi] at h1
      cases h1
    · rw [List.getElem?_append_right (by simpa using hi), List.getElem?_replicate] at h1
      split at h1 <;> cases h1
  refine ⟨G, _, 0, G, H, ⟨R, .refl sG, fun i a d h1 _ => absurd h1 (key i d), fun i c fs h1 => absurd h1 (key i _)⟩, ?_⟩
  revert p
  unfold outR
  cases g (ds.map .sh ++ List.replicate (N.length - ps.length) .no) with
  | st => exact id
  | ex c => exact id
  | ok r =>
    simp only [bd_ok]
    cases r with
    | nx ρ => exact fun p σ G' H' B => p .non G' H' B.ext .non
    | rt d => exact fun p v G' H' x r => p v G' H' x r
    | bk ρ => exact fun p => p.elim
    | ct ρ => exact fun p => p.elim
def self0 (ρ : En) : Oc D := match (ρ[0]? : Option Sl) with
  | some (.ow (.obj c fs)) => .ok (.obj c fs)
  | _ => .st
theorem self0_ok {ρ : En} {d : D} (h : self0 ρ = .ok d) : ∃ c fs, d = .obj c fs ∧ ρ[0]? = some (.ow (.obj c fs)) := by
  unfold self0 at h
  split at h
  · rename_i c fs hq
    cases h
    exact ⟨c, fs, rfl, hq⟩
  · cases h
theorem self0_ex {ρ : En} {c : Str} (h : self0 ρ = .ex c) : False := by
  unfold self0 at h
  split at h <;> cases h
def outI : Oc Res → Oc D := fun o => bd o fun r => match r with
  | .nx ρ => self0 ρ
  | _ => .st
def fnI (c : Str) (n m : Nat) (g : En → Oc Res) : List D → Oc D := fun ds => chk (decide (ds.length = m)) (outI (g (.ow (.obj c []) :: (ds.map .sh ++ List.replicate (n - m) .no))))
theorem Rel.cons_own {G H : Hp} {ρ : En} {σ : L2.St} {x : Addr} {d : D} (R : Rel K mg ww G H ρ σ) (gx : G x = none) (ow : OwAt K mg ww G H x d) (no : ∀ (i : Nat) (e : D), ρ[i]? ≠ some (.ow e)) : Rel K mg ww G H (.ow d :: ρ) (some (.ref x) :: σ) := by
  refine ⟨R.sub, R.tabs, by simp [R.len], fun i s o h1 h2 => ?_, fun i j a d' e' h1 h2 h3 h4 => ?_⟩
  · cases i with
    | zero => simp at h1 h2; subst h1 h2; exact ⟨x, rfl, gx, ow⟩
    | succ i => exact R.at_ i s o (by simpa using h1) (by simpa using h2)
  · cases i with
    | zero =>
      cases j with
      | zero => rfl
      | succ j => exact absurd (by simpa using h2) (no j e')
    | succ i => exact absurd (by simpa using h1) (no i d')
theorem init_ok {x qual c : Str} {st : Stmt} {f : Addr} {fd : FuncData} {N ps : List Str} {k m : Nat} {g : En → Oc Res} (F : Fun K x qual st f fd) (S : FnScope N ps (defScope st)) (hps : ps.length = m + 1)
    (hb : ∀ (cdv : Value) (A : Around) (outer : List Env) (s : Shared) (H : Hp) (E : XK), Room k (A.deeper (envOfC qual (defScope st) s.heap.objs.size f cdv)) → Ctx (cxOf (L2.CX P w) P w K mg base N qual (defScope st) f cdv A outer s H E) (up E) →
      SSs (cxOf (L2.CX P w) P w K mg base N qual (defScope st) f cdv A outer s H E) E .s (defBody st) g) : FnOk P w K mg base (L2.CX P w) (k + 1) f fd ps (spI K mg w c m (fnI c (N.length - 1) m g)) := by
  refine F.okX S (fun vs H Q E h => h.1.trans hps.symm) fun cdv A outer s H vs Q E hr h => ?_
  obtain ⟨hl, G, ds, x, dx, C, vs', rfl, mc, hx, hdx, ne, gx, sG, tb, r, p⟩ := h
  refine ⟨_, hb cdv A outer s H E hr (ctx_def S hr), ?_⟩
  have hN : m + 1 ≤ N.length := by
    have := congrArg List.length S.pre
    rw [List.length_take] at this
    omega
  unfold fnI at p
  cases hc : decide (ds.length = m) with
  | false => rw [hc] at p; exact p.elim
  | true =>
    rw [hc] at p
    simp only [chk_true] at p
    have hd := of_decide_eq_true hc
    have R0 := rel_start (N := N.drop 1) sG tb r
    rw [List.length_drop, hd] at R0
    have key : ∀ (i : Nat) (d : D), (ds.map Sl.sh ++ List.replicate (N.length - 1 - m) Sl.no)[i]? ≠ some (.ow d) := fun i d h1 => by
      by_cases hi : i < ds.length
      · rw [List.getElem?_append_left (by simpa using hi), List.getElem?_map, List.getElem?_eq_getElem hi] at h1
        cases h1
      · rw [List.getElem?_append_right (by simpa using hi), List.getElem?_replicate] at h1
        split at h1 <;> cases h1
    have hst : L2.start N (.ref x :: vs') = some (.ref x) :: L2.start (N.drop 1) vs' := by
      unfold L2.start
      have e1 : N.length - (vs'.length + 1) = (N.length - 1) - vs'.length := by omega
      simp [e1]
    have R : Rel K mg w G H (.ow (.obj c []) :: (ds.map .sh ++ List.replicate (N.length - 1 - m) .no)) (L2.start N (.ref x :: vs')) := by
      rw [hst]
      exact R0.cons_own (ww := w) gx ⟨C, dx, [], mc, hx, .nil⟩ key
    refine ⟨G, _, x, G, rmv H x, ⟨R, ⟨.of fun b o e => (rmv_some e).2, .refl _, sG, fun _ _ _ g => g⟩, fun i a d h1 h2 => ?_, fun i c fs h1 => ?_⟩, ?_⟩
    · cases i with
      | zero =>
        rw [hst] at h2
        simp at h2
        subst h2
        unfold rmv
        rw [if_pos rfl]
      | succ i => exact absurd (by simpa using h1) (key i d)
    · cases i with
      | zero => rw [hst]; rfl
      | succ i => exact absurd (by simpa using h1) (key i _)
    · revert p
      unfold outI
      cases g (.ow (.obj c []) :: (ds.map .sh ++ List.replicate (N.length - 1 - m) .no)) with
      | st => exact id
      | ex c => exact fun p C' G' H' y mm => p C' G' H' y.hh y.gg y.gh (fun b o e hb g => y.nc b o (by rw [rmv_ne hb]; exact e) g) mm
      | ok r =>
        simp only [bd_ok]
        cases r with
        | nx ρ =>
          intro p σ G' H' B
          simp only at p
          cases hs : self0 ρ with
          | st => rw [hs] at p; exact p.elim
          | ex c => exact (self0_ex hs).elim
          | ok d =>
            rw [hs] at p
            obtain ⟨c2, fs, rfl, hq⟩ := self0_ok hs
            obtain ⟨o, ho, a, rfl, ga, ow⟩ := B.rel.get hq
            have e1 := B.self 0 c2 fs hq
            rw [ho] at e1
            cases e1
            exact p G' H' B.ext.hh B.ext.gg B.ext.gh (fun b o e hb g => B.ext.nc b o (by rw [rmv_ne hb]; exact e) g) ga ow
        | rt d => exact fun p => p.elim
        | bk ρ => exact fun p => p.elim
        | ct ρ => exact fun p => p.elim
end
end Fx

set_option Elab.async false
set_option linter.all false
set_option maxRecDepth 100000
set_option maxHeartbeats 4000000
/-! Fx6: tests by comparison, chains. -/
namespace Fx
open PySem PySem.Spec PyProof.Rows L2
variable {K : PySem.W.Frag} {mg : Str → Option Value} {ww : World}
section
variable {X : Cx} {W : WX} {U : XK} {a b c e : Expr} {f g h : En → Oc D} {pos : Pos}
variable {G H : Hp} {x y : V} {d1 d2 : D} {Q : VK}
theorem eq_of (s : Vw G H) (r1 : RepQ X.K X.mg X.w G H x d1) (r2 : RepQ X.K X.mg X.w G H y d2) (p : PostE X.K X.mg X.w U G H Q (eqD d1 d2)) : rEqD X.K x y H Q := by
  unfold eqD at p
  cases e1 : toPD d1 with
  | none => rw [e1] at p; exact p.elim
  | some p1 =>
    cases e2 : toPD d2 with
    | none => rw [e1, e2] at p; exact p.elim
    | some p2 =>
      rw [e1, e2] at p
      obtain ⟨c, q⟩ := p.chk
      rw [Bool.and_eq_true] at c
      exact ⟨p1, p2, r1.dp s e1, r2.dp s e2, c.1, c.2, q.here s (.bl _)⟩
theorem ne_of' (s : Vw G H) (r1 : RepQ X.K X.mg X.w G H x d1) (r2 : RepQ X.K X.mg X.w G H y d2) (p : PostE X.K X.mg X.w U G H Q (neD d1 d2)) : rNeD X.K x y H Q := by
  unfold neD at p
  cases e1 : toPD d1 with
  | none => rw [e1] at p; exact p.elim
  | some p1 =>
    cases e2 : toPD d2 with
    | none => rw [e1, e2] at p; exact p.elim
    | some p2 =>
      rw [e1, e2] at p
      obtain ⟨c, q⟩ := p.chk
      rw [Bool.and_eq_true] at c
      exact ⟨p1, p2, r1.dp s e1, r2.dp s e2, c.1, c.2, q.here s (.bl _)⟩
theorem in_of (s : Vw G H) (r1 : RepQ X.K X.mg X.w G H x d1) (r2 : RepQ X.K X.mg X.w G H y d2) (p : PostE X.K X.mg X.w U G H Q (inD d1 d2)) : rInA X false x y H Q := by
  unfold inD at p
  cases e : inB d1 d2 with
  | none => rw [e] at p; exact p.elim
  | some t => rw [e] at p; exact inA_of (neg := false) s r1 r2 e (p.here s (.bl _))
theorem nin_of (s : Vw G H) (r1 : RepQ X.K X.mg X.w G H x d1) (r2 : RepQ X.K X.mg X.w G H y d2) (p : PostE X.K X.mg X.w U G H Q (ninD d1 d2)) : rInA X true x y H Q := by
  unfold ninD at p
  cases e : inB d1 d2 with
  | none => rw [e] at p; exact p.elim
  | some t => rw [e] at p; exact inA_of (neg := true) s r1 r2 e (p.here s (.bl _))
theorem isN_of (s : Vw G H) (r1 : RepQ X.K X.mg X.w G H x d1) (r2 : RepQ X.K X.mg X.w G H y d2) (p : PostE X.K X.mg X.w U G H Q (isN d1 d2)) : y = .non ∧ Q (.bl (decide (x = .non))) H := by
  unfold isN at p
  split at p
  · refine ⟨r2.non, ?_⟩
    rw [r1.nonIff]
    exact p.here s (.bl _)
  · exact p.elim
theorem notN_of (s : Vw G H) (r1 : RepQ X.K X.mg X.w G H x d1) (r2 : RepQ X.K X.mg X.w G H y d2) (p : PostE X.K X.mg X.w U G H Q (notN d1 d2)) : y = .non ∧ Q (.bl (!decide (x = .non))) H := by
  unfold notN at p
  split at p
  · refine ⟨r2.non, ?_⟩
    rw [r1.nonIff]
    exact p.here s (.bl _)
  · exact p.elim
theorem st_eq (ha : SQ X W a f) (hb : SQ X W b g) (hu : X.A.units + 65 < cLine) : STT X W (.Compare a [.Eq] [b] pos) (tst (bi eqD f g)) := st_op2 (fun ha hb => pt_cmpR (op_eqD (Nat.lt_of_succ_lt hu)) ha hb (nomark _)) eq_of ha hb
theorem st_ne (ha : SQ X W a f) (hb : SQ X W b g) (hu : X.A.units + 65 < cLine) : STT X W (.Compare a [.NotEq] [b] pos) (tst (bi neD f g)) := st_op2 (fun ha hb => pt_cmpR (op_neD (Nat.lt_of_succ_lt hu)) ha hb (nomark _)) ne_of' ha hb
theorem st_in (ha : SQ X W a f) (hb : SQ X W b g) (hu : X.A.units + 65 < cLine) (hm : behindInMarks .In b = false := by rfl) : STT X W (.Compare a [.In] [b] pos) (tst (bi inD f g)) := st_op2 (fun ha hb => pt_cmpR (op_inA hu) ha hb hm) in_of ha hb
theorem st_nin (ha : SQ X W a f) (hb : SQ X W b g) (hu : X.A.units + 65 < cLine) (hm : behindInMarks .NotIn b = false := by rfl) : STT X W (.Compare a [.NotIn] [b] pos) (tst (bi ninD f g)) := st_op2 (fun ha hb => pt_cmpR (op_ninA hu) ha hb hm) nin_of ha hb
theorem st_lt (ha : SQ X W a f) (hb : SQ X W b g) : STT X W (.Compare a [.Lt] [b] pos) (tst (bi (cmpD fun i j => decide (i < j)) f g)) := st_op2 (fun ha hb => pt_cmpR op_lt ha hb (nomark _)) cmp_of ha hb
theorem st_le (ha : SQ X W a f) (hb : SQ X W b g) : STT X W (.Compare a [.LtE] [b] pos) (tst (bi (cmpD fun i j => decide (i ≤ j)) f g)) := st_op2 (fun ha hb => pt_cmpR op_le ha hb (nomark _)) cmp_of ha hb
theorem st_gt (ha : SQ X W a f) (hb : SQ X W b g) : STT X W (.Compare a [.Gt] [b] pos) (tst (bi (cmpD fun i j => decide (j < i)) f g)) := st_op2 (fun ha hb => pt_cmpR op_gt ha hb (nomark _)) cmp_of ha hb
theorem st_ge (ha : SQ X W a f) (hb : SQ X W b g) : STT X W (.Compare a [.GtE] [b] pos) (tst (bi (cmpD fun i j => decide (j ≤ i)) f g)) := st_op2 (fun ha hb => pt_cmpR op_ge ha hb (nomark _)) cmp_of ha hb
theorem st_isN (ha : SQ X W a f) (hb : SQ X W b g) : STT X W (.Compare a [.Is] [b] pos) (tst (bi isN f g)) := st_op2 (fun ha hb => pt_cmpR op_isN ha hb (nomark _)) isN_of ha hb
theorem st_notN (ha : SQ X W a f) (hb : SQ X W b g) : STT X W (.Compare a [.IsNot] [b] pos) (tst (bi notN f g)) := st_op2 (fun ha hb => pt_cmpR op_notN ha hb (nomark _)) notN_of ha hb
end
end Fx

set_option Elab.async false
set_option linter.all false
set_option maxRecDepth 100000
set_option maxHeartbeats 4000000
/-! Fx7: the mathematics of the functions: how they are evaluated. -/
namespace Fx
open PySem PySem.Spec PyProof.Rows L2

theorem sizeLine_val : sizeLine = 16777216 := by rw [sizeLine_eq]
@[simp] theorem outR_nx (ρ : En) : outR (.ok (.nx ρ)) = .ok .non := id rfl
@[simp] theorem outR_rt (d : D) : outR (.ok (.rt d)) = .ok d := id rfl
@[simp] theorem outR_ex (c : Str) : outR (.ex c) = .ex c := id rfl
@[simp] theorem lenD_str (z : Str) : lenD (.str z) = chk (decide (z.length ≤ sizeLine)) (.ok (.int z.length)) := id rfl
@[simp] theorem lenD_lst (ds : List D) : lenD (.lst ds) = .ok (.int ds.length) := id rfl
@[simp] theorem lenD_tup (ds : List D) : lenD (.tup ds) = .ok (.int ds.length) := id rfl
@[simp] theorem lenD_fz (ds : List D) : lenD (.fz ds) = .ok (.int ds.length) := id rfl
@[simp] theorem cmpD_int (p : Int → Int → Bool) (i j : Int) : cmpD p (.int i) (.int j) = .ok (.bl (p i j)) := id rfl
@[simp] theorem addD_int (i j : Int) : addD (.int i) (.int j) = .ok (.int (i + j)) := id rfl
@[simp] theorem addD_str (i j : Str) : addD (.str i) (.str j) = chk (decide (i.length + j.length ≤ sizeLine)) (.ok (.str (i ++ j))) := id rfl
@[simp] theorem addD_lst (i j : List D) : addD (.lst i) (.lst j) = chk (decide (i.length + j.length ≤ sizeLine)) (.ok (.lst (i ++ j))) := id rfl
@[simp] theorem addD_tup (i j : List D) : addD (.tup i) (.tup j) = chk (decide (i.length + j.length ≤ sizeLine)) (.ok (.tup (i ++ j))) := id rfl
@[simp] theorem subD_int (i j : Int) : subD (.int i) (.int j) = .ok (.int (i - j)) := id rfl
@[simp] theorem mulD_int (i j : Int) : mulD (.int i) (.int j) = chk (decide ((-(2 ^ 64) < i ∧ i < 2 ^ 64) ∨ (-(2 ^ 64) < j ∧ j < 2 ^ 64))) (.ok (.int (i * j))) := id rfl
@[simp] theorem mulD_lst (xs : List D) (k : Int) : mulD (.lst xs) (.int k) = chk (decide (-(2 ^ 63) ≤ k ∧ k < 2 ^ 63 ∧ xs.length * k.toNat ≤ sizeLine)) (.ok (.lst (List.replicate k.toNat xs).flatten)) := id rfl
@[simp] theorem fdivD_int (i j : Int) : fdivD (.int i) (.int j) = chk (decide (0 < j ∧ j < 1073741824)) (.ok (.int (i / j))) := id rfl
@[simp] theorem modD_int (i j : Int) : modD (.int i) (.int j) = chk (decide (0 < j)) (.ok (.int (i % j))) := id rfl
@[simp] theorem powD_int (i j : Int) : powD (.int i) (.int j) = chk (decide (0 ≤ j ∧ j ≤ 1000000 ∧ i.natAbs < 2 ^ 64)) (.ok (.int (i ^ j.toNat))) := id rfl
@[simp] theorem intD_int (i : Int) : intD (.int i) = .ok (.int i) := id rfl
@[simp] theorem intD_bl (b : Bool) : intD (.bl b) = .ok (.int (if b then 1 else 0)) := id rfl
@[simp] theorem negD_int (i : Int) : negD (.int i) = .ok (.int (-i)) := id rfl
@[simp] theorem items_lst (ds : List D) : items (.lst ds) = some ds := id rfl
@[simp] theorem items_tup (ds : List D) : items (.tup ds) = some ds := id rfl
@[simp] theorem items_fz (ds : List D) : items (.fz ds) = some ds := id rfl
@[simp] theorem listD_lst (ds : List D) : listD (.lst ds) = .ok (.lst ds) := id rfl
@[simp] theorem listD_tup (ds : List D) : listD (.tup ds) = .ok (.lst ds) := id rfl
@[simp] theorem listD_fz (ds : List D) : listD (.fz ds) = .ok (.lst ds) := id rfl
@[simp] theorem tupleD_lst (ds : List D) : tupleD (.lst ds) = .ok (.tup ds) := id rfl
@[simp] theorem tupleD_tup (ds : List D) : tupleD (.tup ds) = .ok (.tup ds) := id rfl
@[simp] theorem revD_lst (ds : List D) : revD (.lst ds) = .ok (.lst ds.reverse) := id rfl
def ixL (ds : List D) (i : Int) : Oc D := match atI ds i with
  | some x => .ok x
  | none => .st
@[simp] theorem ixD_lst (ds : List D) (i : Int) : ixD (.lst ds) (.int i) = ixL ds i := id rfl
@[simp] theorem ixD_tup (ds : List D) (i : Int) : ixD (.tup ds) (.int i) = ixL ds i := id rfl
@[simp] theorem ixD_fz (ds : List D) (i : Int) : ixD (.fz ds) (.int i) = ixL ds i := id rfl
theorem ixL_nat {ds : List D} {i : Nat} {d : D} (h : ds[i]? = some d) : ixL ds (i : Int) = .ok d := by
  unfold ixL
  rw [atI_nat h]
theorem ixL_int {ds : List D} {i : Int} {d : D} (h0 : 0 ≤ i) (h : ds[i.toNat]? = some d) : ixL ds i = .ok d := by
  have e : i = (i.toNat : Int) := by omega
  rw [e]
  exact ixL_nat h
theorem forL_nil (T : Tg) (b : En → Oc Res) (ρ : En) : forL T b [] ρ = .ok (.nx ρ) := rfl
theorem forL_cons (T : Tg) (b : En → Oc Res) (d : D) (ds : List D) (ρ : En) : forL T b (d :: ds) ρ = bd (bindT T d ρ) fun ρ1 => bd (b ρ1) fun r => match r with
    | .nx ρ2 => forL T b ds ρ2
    | .ct ρ2 => forL T b ds ρ2
    | .bk ρ2 => .ok (.nx ρ2)
    | .rt d => .ok (.rt d) := rfl
@[simp] theorem bindT_one (i : Nat) (d : D) (ρ : En) : bindT (.one i) d ρ = .ok (ρ.set i (.sh d)) := id rfl

/-! ### evaluation, one construct at a time -/
def contS : Oc Res → (En → Oc Res) → Oc Res
  | .ok (.nx ρ), h => h ρ
  | o, _ => o
@[simp] theorem contS_nx (ρ : En) (h : En → Oc Res) : contS (.ok (.nx ρ)) h = h ρ := id rfl
@[simp] theorem contS_rt (d : D) (h : En → Oc Res) : contS (.ok (.rt d)) h = .ok (.rt d) := id rfl
@[simp] theorem contS_bk (d : En) (h : En → Oc Res) : contS (.ok (.bk d)) h = .ok (.bk d) := id rfl
@[simp] theorem contS_ct (d : En) (h : En → Oc Res) : contS (.ok (.ct d)) h = .ok (.ct d) := id rfl
@[simp] theorem contS_ex (d : Str) (h : En → Oc Res) : contS (.ex d) h = .ex d := id rfl
@[simp] theorem sq_ap (g h : En → Oc Res) (ρ : En) : sq g h ρ = contS (g ρ) h := by
  unfold sq contS
  cases g ρ with
  | st => rfl
  | ex c => rfl
  | ok r => cases r <;> rfl
def vrR : Option Sl → Oc D
  | some (.sh d) => .ok d
  | some (.ls _ es) => .ok (.lst es)
  | _ => .st
def voR : Option Sl → Oc D
  | some (.sh d) => .ok d
  | some (.ow d) => .ok d
  | some (.ls _ es) => .ok (.lst es)
  | _ => .st
@[simp] theorem vr_ap (i : Nat) (ρ : En) : vr i ρ = vrR ρ[i]? := by
  unfold vr vrR
  split <;> first | rfl | (split <;> simp_all)
@[simp] theorem vo_ap (i : Nat) (ρ : En) : vo i ρ = voR ρ[i]? := by
  unfold vo voR
  split <;> first | rfl | (split <;> simp_all)
@[simp] theorem vrR_ls (us : List V) (es : List D) : vrR (some (.ls us es)) = .ok (.lst es) := id rfl
@[simp] theorem voR_ls (us : List V) (es : List D) : voR (some (.ls us es)) = .ok (.lst es) := id rfl
@[simp] theorem vrR_sh (d : D) : vrR (some (.sh d)) = .ok d := id rfl
@[simp] theorem voR_sh (d : D) : voR (some (.sh d)) = .ok d := id rfl
@[simp] theorem voR_ow (d : D) : voR (some (.ow d)) = .ok d := id rfl
@[simp] theorem cst_ap (d : D) (ρ : En) : cst d ρ = .ok d := id rfl
@[simp] theorem bi_ap (F : D → D → Oc D) (f g : En → Oc D) (ρ : En) : bi F f g ρ = bd (f ρ) fun x => bd (g ρ) fun y => F x y := id rfl
@[simp] theorem un_ap (F : D → Oc D) (f : En → Oc D) (ρ : En) : un F f ρ = bd (f ρ) F := id rfl
def asgR (i : Nat) (ρ : En) : Oc D → Oc Res
  | .ok d => .ok (.nx (ρ.set i (.sh d)))
  | .st => .st
  | .ex c => .ex c
@[simp] theorem asg_ap (i : Nat) (f : En → Oc D) (ρ : En) : asg i f ρ = asgR i ρ (f ρ) := by unfold asg asgR; cases f ρ <;> rfl
@[simp] theorem asgR_ok (i : Nat) (ρ : En) (d : D) : asgR i ρ (.ok d) = .ok (.nx (ρ.set i (.sh d))) := id rfl
def asgOR (i : Nat) (ρ : En) : Oc D → Oc Res
  | .ok (.lst ds) => .ok (.nx (ρ.set i (.ow (.lst ds))))
  | .ex c => .ex c
  | _ => .st
@[simp] theorem asgO_ap (i : Nat) (f : En → Oc D) (ρ : En) : asgO i f ρ = asgOR i ρ (f ρ) := by
  unfold asgO asgOR
  cases f ρ with
  | st => rfl
  | ex c => rfl
  | ok d => cases d <;> rfl
@[simp] theorem asgOR_ok (i : Nat) (ρ : En) (ds : List D) : asgOR i ρ (.ok (.lst ds)) = .ok (.nx (ρ.set i (.ow (.lst ds)))) := id rfl
def retR : Oc D → Oc Res
  | .ok d => .ok (.rt d)
  | .st => .st
  | .ex c => .ex c
@[simp] theorem ret_ap (f : En → Oc D) (ρ : En) : Fx.ret f ρ = retR (f ρ) := by unfold Fx.ret retR; cases f ρ <;> rfl
@[simp] theorem retR_ok (d : D) : retR (.ok d) = .ok (.rt d) := id rfl
@[simp] theorem retR_ex (d : Str) : retR (.ex d) = .ex d := id rfl
def exsR (ρ : En) : Oc D → Oc Res
  | .ok d => .ok (.nx ρ)
  | .st => .st
  | .ex c => .ex c
@[simp] theorem exs_ap (f : En → Oc D) (ρ : En) : exs f ρ = exsR ρ (f ρ) := by unfold exs exsR; cases f ρ <;> rfl
@[simp] theorem exsR_ok (ρ : En) (d : D) : exsR ρ (.ok d) = .ok (.nx ρ) := id rfl
@[simp] theorem exsR_ex (ρ : En) (d : Str) : exsR ρ (.ex d) = .ex d := id rfl
@[simp] theorem sNx_ap (ρ : En) : sNx ρ = .ok (.nx ρ) := id rfl
@[simp] theorem sBk_ap (ρ : En) : sBk ρ = .ok (.bk ρ) := id rfl
@[simp] theorem sCt_ap (ρ : En) : sCt ρ = .ok (.ct ρ) := id rfl
@[simp] theorem retN_ap (ρ : En) : retN ρ = .ok (.rt .non) := id rfl
def iffR : Oc Bool → (En → Oc Res) → (En → Oc Res) → En → Oc Res
  | .ok true, g, _, ρ => g ρ
  | .ok false, _, h, ρ => h ρ
  | .st, _, _, _ => .st
  | .ex c, _, _, _ => .ex c
@[simp] theorem iff_ap (t : En → Oc Bool) (g h : En → Oc Res) (ρ : En) : iff t g h ρ = iffR (t ρ) g h ρ := by
  unfold iff iffR
  cases t ρ with
  | st => rfl
  | ex c => rfl
  | ok b => cases b <;> rfl
@[simp] theorem iffR_true (g h : En → Oc Res) (ρ : En) : iffR (.ok true) g h ρ = g ρ := id rfl
@[simp] theorem iffR_false (g h : En → Oc Res) (ρ : En) : iffR (.ok false) g h ρ = h ρ := id rfl
def tstR : Oc D → Oc Bool
  | .ok (.bl b) => .ok b
  | .ex c => .ex c
  | _ => .st
@[simp] theorem tst_ap (f : En → Oc D) (ρ : En) : tst f ρ = tstR (f ρ) := by
  unfold tst tstR
  cases f ρ with
  | st => rfl
  | ex c => rfl
  | ok d => cases d <;> rfl
@[simp] theorem tstR_bl (b : Bool) : tstR (.ok (.bl b)) = .ok b := id rfl
def anR : Oc Bool → (En → Oc Bool) → En → Oc Bool
  | .ok true, u, ρ => u ρ
  | .ok false, _, _ => .ok false
  | .st, _, _ => .st
  | .ex c, _, _ => .ex c
def orR : Oc Bool → (En → Oc Bool) → En → Oc Bool
  | .ok true, _, _ => .ok true
  | .ok false, u, ρ => u ρ
  | .st, _, _ => .st
  | .ex c, _, _ => .ex c
@[simp] theorem an_ap (t u : En → Oc Bool) (ρ : En) : an t u ρ = anR (t ρ) u ρ := by
  unfold an anR
  cases t ρ with
  | st => rfl
  | ex c => rfl
  | ok b => cases b <;> rfl
@[simp] theorem orr_ap (t u : En → Oc Bool) (ρ : En) : orr t u ρ = orR (t ρ) u ρ := by
  unfold orr orR
  cases t ρ with
  | st => rfl
  | ex c => rfl
  | ok b => cases b <;> rfl
@[simp] theorem anR_true (u : En → Oc Bool) (ρ : En) : anR (.ok true) u ρ = u ρ := id rfl
@[simp] theorem anR_false (u : En → Oc Bool) (ρ : En) : anR (.ok false) u ρ = .ok false := id rfl
@[simp] theorem orR_true (u : En → Oc Bool) (ρ : En) : orR (.ok true) u ρ = .ok true := id rfl
@[simp] theorem orR_false (u : En → Oc Bool) (ρ : En) : orR (.ok false) u ρ = u ρ := id rfl
theorem anR_both {b c : Bool} {u : En → Oc Bool} {ρ : En} (h : u ρ = .ok c) : anR (.ok b) u ρ = .ok (b && c) := by cases b <;> simp [h]
theorem orR_both {b c : Bool} {u : En → Oc Bool} {ρ : En} (h : u ρ = .ok c) : orR (.ok b) u ρ = .ok (b || c) := by cases b <;> simp [h]
@[simp] theorem nt_ap (t : En → Oc Bool) (ρ : En) : nt t ρ = bd (t ρ) fun b => .ok (!b) := id rfl
def anVR : Oc D → (En → Oc D) → En → Oc D
  | .ok (.bl true), u, ρ => u ρ
  | .ok (.bl false), _, _ => .ok (.bl false)
  | .ex c, _, _ => .ex c
  | _, _, _ => .st
def orVR : Oc D → (En → Oc D) → En → Oc D
  | .ok (.bl true), _, _ => .ok (.bl true)
  | .ok (.bl false), u, ρ => u ρ
  | .ex c, _, _ => .ex c
  | _, _, _ => .st
@[simp] theorem anV_ap (f g : En → Oc D) (ρ : En) : anV f g ρ = anVR (f ρ) g ρ := by
  unfold anV anVR
  cases f ρ with
  | st => rfl
  | ex c => rfl
  | ok d => cases d with
    | bl b => cases b <;> rfl
    | _ => rfl
@[simp] theorem orV_ap (f g : En → Oc D) (ρ : En) : orV f g ρ = orVR (f ρ) g ρ := by
  unfold orV orVR
  cases f ρ with
  | st => rfl
  | ex c => rfl
  | ok d => cases d with
    | bl b => cases b <;> rfl
    | _ => rfl
@[simp] theorem anVR_true (u : En → Oc D) (ρ : En) : anVR (.ok (.bl true)) u ρ = u ρ := id rfl
@[simp] theorem anVR_false (u : En → Oc D) (ρ : En) : anVR (.ok (.bl false)) u ρ = .ok (.bl false) := id rfl
@[simp] theorem orVR_true (u : En → Oc D) (ρ : En) : orVR (.ok (.bl true)) u ρ = .ok (.bl true) := id rfl
@[simp] theorem orVR_false (u : En → Oc D) (ρ : En) : orVR (.ok (.bl false)) u ρ = u ρ := id rfl
theorem anVR_both {b c : Bool} {u : En → Oc D} {ρ : En} (h : u ρ = .ok (.bl c)) : anVR (.ok (.bl b)) u ρ = .ok (.bl (b && c)) := by cases b <;> simp [h]
theorem orVR_both {b c : Bool} {u : En → Oc D} {ρ : En} (h : u ρ = .ok (.bl c)) : orVR (.ok (.bl b)) u ρ = .ok (.bl (b || c)) := by cases b <;> simp [h]
def ntVR : Oc D → Oc D
  | .ok (.bl b) => .ok (.bl (!b))
  | .ex c => .ex c
  | _ => .st
@[simp] theorem ntV_ap (f : En → Oc D) (ρ : En) : ntV f ρ = ntVR (f ρ) := by
  unfold ntV ntVR
  cases f ρ with
  | st => rfl
  | ex c => rfl
  | ok d => cases d <;> rfl
@[simp] theorem ntVR_bl (b : Bool) : ntVR (.ok (.bl b)) = .ok (.bl (!b)) := id rfl
def ifXR : Oc Bool → (En → Oc D) → (En → Oc D) → En → Oc D
  | .ok true, g, _, ρ => g ρ
  | .ok false, _, h, ρ => h ρ
  | .st, _, _, _ => .st
  | .ex c, _, _, _ => .ex c
@[simp] theorem ifX_ap (t : En → Oc Bool) (g h : En → Oc D) (ρ : En) : ifX t g h ρ = ifXR (t ρ) g h ρ := by
  unfold ifX ifXR
  cases t ρ with
  | st => rfl
  | ex c => rfl
  | ok b => cases b <;> rfl
@[simp] theorem ifXR_true (g h : En → Oc D) (ρ : En) : ifXR (.ok true) g h ρ = g ρ := id rfl
@[simp] theorem ifXR_false (g h : En → Oc D) (ρ : En) : ifXR (.ok false) g h ρ = h ρ := id rfl
@[simp] theorem aN_ap (ρ : En) : aN ρ = .ok [] := id rfl
@[simp] theorem aC_ap (f : En → Oc D) (fs : En → Oc (List D)) (ρ : En) : aC f fs ρ = bd (f ρ) fun d => bd (fs ρ) fun ds => .ok (d :: ds) := id rfl
@[simp] theorem tpl_ap (fs : En → Oc (List D)) (ρ : En) : tpl fs ρ = bd (fs ρ) fun ds => chk (decide (ds.length ≤ sizeLine)) (.ok (.tup ds)) := id rfl
@[simp] theorem lsd_ap (fs : En → Oc (List D)) (ρ : En) : lsd fs ρ = bd (fs ρ) fun ds => chk (decide (ds.length ≤ sizeLine)) (.ok (.lst ds)) := id rfl
@[simp] theorem cal_ap (F : List D → Oc D) (n : Nat) (dds : List D) (fs : En → Oc (List D)) (ρ : En) : cal F n dds fs ρ = bd (fs ρ) fun ds => chk (decide (ds.length = n)) (F (ds ++ dds)) := id rfl
@[simp] theorem itm_ap (f : En → Oc D) (ρ : En) : itm f ρ = bd (f ρ) fun d => match items d with | some ds => .ok ds | none => .st := id rfl
def rngB (j : Int) : Bool := decide (-(2 ^ 62) ≤ j ∧ j < 2 ^ 62)
theorem rngB_ok {j : Int} (h0 : 0 ≤ j) (h : j ≤ 1000000) : rngB j = true := decide_eq_true (by omega)
def rng1R : List D → Oc (List D)
  | [.int j] => chk (rngB j) (.ok (rngL 0 j.toNat))
  | _ => .st
@[simp] theorem rng1_ap (fs : En → Oc (List D)) (ρ : En) : rng1 fs ρ = bd (fs ρ) rng1R := by
  unfold rng1
  congr 1
@[simp] theorem rng1R_int (j : Int) : rng1R [.int j] = chk (rngB j) (.ok (rngL 0 j.toNat)) := id rfl
theorem rng1R_nat {n : Nat} (h : n ≤ 1000000) : rng1R [.int n] = .ok (rngL 0 n) := by
  rw [rng1R_int, rngB_ok (by omega) (by omega)]; rfl
def frR (T : Tg) (b : En → Oc Res) (ρ : En) : Oc (List D) → Oc Res
  | .ok ds => forL T b ds ρ
  | .st => .st
  | .ex c => .ex c
@[simp] theorem fr_ap (T : Tg) (src : En → Oc (List D)) (b : En → Oc Res) (ρ : En) : fr T src b ρ = frR T b ρ (src ρ) := by unfold fr frR; cases src ρ <;> rfl
@[simp] theorem frR_ok (T : Tg) (b : En → Oc Res) (ρ : En) (ds : List D) : frR T b ρ (.ok ds) = forL T b ds ρ := id rfl
def goOn (T : Tg) (b : En → Oc Res) (ds : List D) : Oc Res → Oc Res
  | .ok (.nx ρ) => forL T b ds ρ
  | .ok (.ct ρ) => forL T b ds ρ
  | .ok (.bk ρ) => .ok (.nx ρ)
  | .ok (.rt d) => .ok (.rt d)
  | .st => .st
  | .ex c => .ex c
theorem forL_step {T : Tg} {b : En → Oc Res} {d : D} {ds : List D} {ρ ρ1 : En} (h : bindT T d ρ = .ok ρ1) : forL T b (d :: ds) ρ = goOn T b ds (b ρ1) := by
  rw [forL_cons, h]
  simp only [bd_ok]
  unfold goOn
  cases b ρ1 with
  | st => rfl
  | ex c => rfl
  | ok r => cases r <;> rfl
@[simp] theorem goOn_nx (T : Tg) (b : En → Oc Res) (ds : List D) (ρ : En) : goOn T b ds (.ok (.nx ρ)) = forL T b ds ρ := id rfl
@[simp] theorem goOn_ct (T : Tg) (b : En → Oc Res) (ds : List D) (ρ : En) : goOn T b ds (.ok (.ct ρ)) = forL T b ds ρ := id rfl
@[simp] theorem goOn_bk (T : Tg) (b : En → Oc Res) (ds : List D) (ρ : En) : goOn T b ds (.ok (.bk ρ)) = .ok (.nx ρ) := id rfl
@[simp] theorem goOn_rt (T : Tg) (b : En → Oc Res) (ds : List D) (d : D) : goOn T b ds (.ok (.rt d)) = .ok (.rt d) := id rfl
theorem forL_inv {T : Tg} {b : En → Oc Res} (I : List D → En → Prop) : ∀ {ds : List D} {ρ : En}, I ds ρ →
    (∀ d ds ρ, I (d :: ds) ρ → ∃ ρ1 ρ2, bindT T d ρ = .ok ρ1 ∧ (b ρ1 = .ok (.nx ρ2) ∨ b ρ1 = .ok (.ct ρ2)) ∧ I ds ρ2) → ∃ ρ2, forL T b ds ρ = .ok (.nx ρ2) ∧ I [] ρ2
  | [], ρ, h, _ => ⟨ρ, rfl, h⟩
  | d :: ds, ρ, h, st => by
    obtain ⟨ρ1, ρ2, h1, h2, h3⟩ := st d ds ρ h
    rw [forL_step h1]
    rcases h2 with h2 | h2 <;> rw [h2] <;> simp only [goOn_nx, goOn_ct] <;> exact forL_inv I h3 st
def appR (i : Nat) (ρ : En) : Option Sl → Oc D → Oc Res
  | some (.ow (.lst ds)), .ok d => chk (decide (ds.length < sizeLine)) (.ok (.nx (ρ.set i (.ow (.lst (ds ++ [d]))))))
  | some (.ow (.lst _)), .ex c => .ex c
  | _, _ => .st
@[simp] theorem app_ap (i : Nat) (f : En → Oc D) (ρ : En) : app i f ρ = appR i ρ ρ[i]? (f ρ) := by
  unfold app
  cases h : ρ[i]? with
  | none => rfl
  | some s =>
    cases s with
    | no => rfl
    | exn _ => rfl
    | fn _ _ _ => rfl
    | ls _ _ => rfl
    | sh d => rfl
    | ow d =>
      cases d with
      | lst ds => cases f ρ <;> rfl
      | _ => rfl
theorem appR_ok {i : Nat} {ρ : En} {ds : List D} {d : D} (h : ds.length ≤ 1000000) : appR i ρ (some (.ow (.lst ds))) (.ok d) = .ok (.nx (ρ.set i (.ow (.lst (ds ++ [d]))))) := by
  show chk (decide (ds.length < sizeLine)) (Oc.ok (Res.nx (ρ.set i (.ow (.lst (ds ++ [d])))))) = _
  rw [decide_eq_true (by rw [sizeLine_val]; omega)]
  rfl
@[simp] theorem frz_ap (i : Nat) (g : En → Oc Res) (ρ : En) : frz i g ρ = g (freeze i ρ) := id rfl
def freezeR (i : Nat) (ρ : En) : Option Sl → En
  | some (.ow d) => ρ.set i (.sh d)
  | _ => ρ
@[simp] theorem freeze_ap (i : Nat) (ρ : En) : freeze i ρ = freezeR i ρ ρ[i]? := by
  unfold freeze freezeR
  split <;> first | rfl | (split <;> simp_all)
@[simp] theorem freezeR_ow (i : Nat) (ρ : En) (d : D) : freezeR i ρ (some (.ow d)) = ρ.set i (.sh d) := id rfl
@[simp] theorem freezeR_sh (i : Nat) (ρ : En) (d : D) : freezeR i ρ (some (.sh d)) = ρ := id rfl
def augR2 (i : Nat) (ρ : En) : Oc D → Oc D → Oc Res
  | .ok (.int m), .ok (.int n) => .ok (.nx (ρ.set i (.sh (.int (m + n)))))
  | .ok _, .ex c => .ex c
  | .ex c, _ => .ex c
  | _, _ => .st
theorem augA_ok {i : Nat} {f : En → Oc D} {ρ : En} {m n : Int} (h1 : vsh i ρ = .ok (.int m)) (h2 : f ρ = .ok (.int n)) : augA i f ρ = .ok (.nx (ρ.set i (.sh (.int (m + n))))) := by
  unfold augA
  rw [h1, h2]
  rfl
theorem augS_ok {i : Nat} {f : En → Oc D} {ρ : En} {m n : Int} (h1 : vsh i ρ = .ok (.int m)) (h2 : f ρ = .ok (.int n)) : augS i f ρ = .ok (.nx (ρ.set i (.sh (.int (m - n))))) := by
  unfold augS
  rw [h1, h2]
  rfl
@[simp] theorem fnB_ap (n m : Nat) (g : En → Oc Res) (ds : List D) : fnB n m g ds = chk (decide (ds.length = m)) (outR (g (ds.map .sh ++ List.replicate (n - m) .no))) := id rfl
theorem fnB_ok {n m : Nat} {g : En → Oc Res} {ds : List D} (h : ds.length = m) : fnB n m g ds = outR (g (ds.map .sh ++ List.replicate (n - m) .no)) := by
  unfold fnB
  rw [decide_eq_true h]
  rfl
@[simp] theorem slc_ap (f : En → Oc D) (lo hi : Option (En → Oc D)) (ρ : En) : slc f lo hi ρ = bd (f ρ) fun d => bd (oP lo ρ) fun l => bd (oP hi ρ) fun h => slD d l h := id rfl
def oPR : Oc D → Oc (Option Int)
  | .ok (.int i) => .ok (some i)
  | .ex c => .ex c
  | _ => .st
@[simp] theorem oP_none (ρ : En) : oP none ρ = .ok none := id rfl
@[simp] theorem oP_some (f : En → Oc D) (ρ : En) : oP (some f) ρ = oPR (f ρ) := by
  unfold oP oPR
  simp only
  cases f ρ with
  | st => rfl
  | ex c => rfl
  | ok d => cases d <;> rfl
@[simp] theorem oPR_int (i : Int) : oPR (.ok (.int i)) = .ok (some i) := id rfl
@[simp] theorem slD_str (z : Str) (lo hi : Option Int) : slD (.str z) lo hi = chk (decide (z.length ≤ sizeLine)) (.ok (.str (cutS z lo hi))) := id rfl
@[simp] theorem slD_lst (ds : List D) (lo hi : Option Int) : slD (.lst ds) lo hi = .ok (.lst (cutD ds lo hi)) := id rfl
@[simp] theorem slD_fz (ds : List D) (lo hi : Option Int) : slD (.fz ds) lo hi = .ok (.lst (cutD ds lo hi)) := id rfl
@[simp] theorem slD_tup (ds : List D) (lo hi : Option Int) : slD (.tup ds) lo hi = .ok (.tup (cutD ds lo hi)) := id rfl
@[simp] theorem mtD_ap (tyB : D → Bool) (F : D → List D → Oc D) (f : En → Oc D) (fs : En → Oc (List D)) (ρ : En) : mtD tyB F f fs ρ = bd (f ρ) fun d => chk (tyB d) (bd (fs ρ) fun ds => F d ds) := id rfl
@[simp] theorem isLst_lst (ds : List D) : isLst (.lst ds) = true := id rfl
@[simp] theorem indexM_one (d e : D) : indexM d [e] = indexD d e := id rfl
@[simp] theorem lc_ap (T : Tg) (own : List Nat) (src : En → Oc (List D)) (tt : En → Oc Bool) (el : En → Oc D) (ρ : En) : lc T own src tt el ρ = bd (src ρ) fun ds => chk (decide (ds.length ≤ sizeLine)) (bd (lcL T own tt el ρ ds) fun ys => .ok (.lst ys)) := id rfl
theorem lcL_map {T : Tg} {own : List Nat} {el : En → Oc D} {ρ : En} {α : Type} {f h : α → D} : ∀ {xs : List α}, (∀ x ∈ xs, ∃ ρ1, bindT T (f x) (wipeE ρ own) = .ok ρ1 ∧ el ρ1 = .ok (h x)) → lcL T own yes el ρ (xs.map f) = .ok (xs.map h)
  | [], _ => rfl
  | x :: xs, k => by
    obtain ⟨ρ1, h1, h2⟩ := k x List.mem_cons_self
    have ih := lcL_map (xs := xs) fun y hy => k y (List.mem_cons_of_mem _ hy)
    rw [List.map_cons, List.map_cons]
    unfold lcL
    rw [h1]
    simp only [noex_ok, bd_ok, yes]
    simp only [if_true, h2, noex_ok, bd_ok, ih]
theorem lcL_filter {T : Tg} {own : List Nat} {tt : En → Oc Bool} {el : En → Oc D} {ρ : En} {α : Type} {f h : α → D} {p : α → Bool} : ∀ {xs : List α}, (∀ x ∈ xs, ∃ ρ1, bindT T (f x) (wipeE ρ own) = .ok ρ1 ∧ tt ρ1 = .ok (p x) ∧ (p x = true → el ρ1 = .ok (h x))) → lcL T own tt el ρ (xs.map f) = .ok ((xs.filter p).map h)
  | [], _ => rfl
  | x :: xs, k => by
    obtain ⟨ρ1, h1, h2, h3⟩ := k x List.mem_cons_self
    have ih := lcL_filter (xs := xs) fun y hy => k y (List.mem_cons_of_mem _ hy)
    rw [List.map_cons]
    unfold lcL
    rw [h1]
    simp only [noex_ok, bd_ok, h2]
    cases hp : p x with
    | true =>
      rw [List.filter_cons_of_pos hp, List.map_cons]
      simp only [if_true, h3 hp, noex_ok, bd_ok, ih]
    | false =>
      rw [List.filter_cons_of_neg (by rw [hp]; decide)]
      simp only [Bool.false_eq_true, if_false, ih]
@[simp] theorem isiD_bl_bool (b : Bool) : isiD "bool" (.bl b) = .ok (.bl true) := by unfold isiD; simp only [tyName]; rfl
end Fx

set_option Elab.async false
set_option linter.all false
set_option maxRecDepth 100000
set_option maxHeartbeats 4000000
/-! Fx8: plain data compared. -/
namespace Fx
open PySem PySem.Spec PyProof.Rows L2
open PySem.PyData (strOk)
structure Pn (n : Nat) (d : D) (p : PyData) : Prop where
  pd : toPD d = some p
  lay : p.canLay0 = true
  dep : p.depth ≤ n
structure PnL (n : Nat) (ds : List D) (ps : List PyData) : Prop where
  pd : toPDs ds = some ps
  lay : PyData.canLayAll0 ps = true
  dep : PyData.depthAll ps ≤ n
theorem Pn.int (n : Nat) (i : Int) : Pn n (.int i) (.int i) := ⟨rfl, by simp [PyData.canLay0], by simp [PyData.depth]⟩
theorem Pn.bl (n : Nat) (i : Bool) : Pn n (.bl i) (.bool i) := ⟨rfl, by simp [PyData.canLay0], by simp [PyData.depth]⟩
theorem Pn.non (n : Nat) : Pn n .non .none := ⟨rfl, by simp [PyData.canLay0], by simp [PyData.depth]⟩
theorem Pn.str (n : Nat) {x : Str} (h : strOk x = true) : Pn n (.str x) (.str x) := ⟨rfl, by simp [PyData.canLay0, h], by simp [PyData.depth]⟩
theorem PnL.lst {n : Nat} {ds : List D} {ps : List PyData} (h : PnL n ds ps) : Pn (n + 1) (.lst ds) (.list ps) := ⟨by simp [toPD, h.pd], by simp [PyData.canLay0, h.lay], by have := h.dep; simp only [PyData.depth]; omega⟩
theorem PnL.tup {n : Nat} {ds : List D} {ps : List PyData} (h : PnL n ds ps) : Pn (n + 1) (.tup ds) (.tuple ps) := ⟨by simp [toPD, h.pd], by simp [PyData.canLay0, h.lay], by have := h.dep; simp only [PyData.depth]; omega⟩
theorem PnL.nil (n : Nat) : PnL n [] [] := ⟨rfl, by simp [PyData.canLayAll0], by simp [PyData.depthAll]⟩
theorem PnL.cons {n : Nat} {d : D} {p : PyData} {ds : List D} {ps : List PyData} (h : Pn n d p) (t : PnL n ds ps) : PnL n (d :: ds) (p :: ps) := ⟨by simp [toPDs, h.pd, t.pd], by simp [PyData.canLayAll0, h.lay, t.lay], by have := h.dep; have := t.dep; simp only [PyData.depthAll]; omega⟩
theorem PnL.map {α : Type} {n : Nat} {f : α → D} {g : α → PyData} : ∀ {xs : List α}, (∀ x ∈ xs, Pn n (f x) (g x)) → PnL n (xs.map f) (xs.map g)
  | [], _ => .nil n
  | x :: xs, h => .cons (h x List.mem_cons_self) (PnL.map fun y hy => h y (List.mem_cons_of_mem _ hy))
theorem Pn.shaped {n : Nat} {d : D} {p : PyData} (h : Pn n d p) (hn : n ≤ 64) : SeqAt.shaped p = true := by
  show (p.canLay0 && decide (p.depth ≤ 64)) = true
  rw [h.lay, decide_eq_true (Nat.le_trans h.dep hn)]
  rfl
theorem eqD_val {n m : Nat} {d e : D} {p q : PyData} (h : Pn n d p) (k : Pn m e q) (hn : n ≤ 64 := by decide) (hm : m ≤ 64 := by decide) : eqD d e = .ok (.bl (PyData.eqv p q)) := by
  unfold eqD
  rw [h.pd, k.pd]
  simp only [h.shaped hn, k.shaped hm, Bool.and_self, chk_true]
theorem neD_val {n m : Nat} {d e : D} {p q : PyData} (h : Pn n d p) (k : Pn m e q) (hn : n ≤ 64 := by decide) (hm : m ≤ 64 := by decide) : neD d e = .ok (.bl (!PyData.eqv p q)) := by
  unfold neD
  rw [h.pd, k.pd]
  simp only [h.shaped hn, k.shaped hm, Bool.and_self, chk_true]
theorem eqD_refl {n : Nat} {d : D} {p : PyData} (h : Pn n d p) (hn : n ≤ 64 := by decide) : eqD d d = .ok (.bl true) := by
  rw [eqD_val h h hn hn, SeqAt.eqv_refl p h.lay]
theorem neD_refl {n : Nat} {d : D} {p : PyData} (h : Pn n d p) (hn : n ≤ 64 := by decide) : neD d d = .ok (.bl false) := by
  rw [neD_val h h hn hn, SeqAt.eqv_refl p h.lay]
  rfl
theorem inB_lst {n m : Nat} {d : D} {p : PyData} {ds : List D} {ps : List PyData} (h : Pn n d p) (k : PnL m ds ps) (hn : n ≤ 64 := by decide) (hm : m ≤ 63 := by decide) : inB d (.lst ds) = some (ps.any fun z => PyData.eqv z p) := by
  have e1 : inB d (.lst ds) = (match toPD d, toPD (.lst ds) with
    | some p, some (.list ps) => if SeqAt.shaped p && SeqAt.shaped (.list ps) then some (ps.any fun z => PyData.eqv z p) else none
    | some p, some (.tuple ps) => if SeqAt.shaped p && SeqAt.shaped (.tuple ps) then some (ps.any fun z => PyData.eqv z p) else none
    | _, _ => none) := by
    unfold inB
    cases d <;> rfl
  rw [e1, h.pd, k.lst.pd]
  simp only [h.shaped hn, k.lst.shaped (Nat.succ_le_succ hm), Bool.and_self, if_true]
theorem inB_tup {n m : Nat} {d : D} {p : PyData} {ds : List D} {ps : List PyData} (h : Pn n d p) (k : PnL m ds ps) (hn : n ≤ 64 := by decide) (hm : m ≤ 63 := by decide) : inB d (.tup ds) = some (ps.any fun z => PyData.eqv z p) := by
  have e1 : inB d (.tup ds) = (match toPD d, toPD (.tup ds) with
    | some p, some (.list ps) => if SeqAt.shaped p && SeqAt.shaped (.list ps) then some (ps.any fun z => PyData.eqv z p) else none
    | some p, some (.tuple ps) => if SeqAt.shaped p && SeqAt.shaped (.tuple ps) then some (ps.any fun z => PyData.eqv z p) else none
    | _, _ => none) := by
    unfold inB
    cases d <;> rfl
  rw [e1, h.pd, k.tup.pd]
  simp only [h.shaped hn, k.tup.shaped (Nat.succ_le_succ hm), Bool.and_self, if_true]
@[simp] theorem eqv_int (i j : Int) : PyData.eqv (.int i) (.int j) = (i == j) := by simp [PyData.eqv]
@[simp] theorem eqv_bl (i j : Bool) : PyData.eqv (.bool i) (.bool j) = (i == j) := by simp [PyData.eqv]
@[simp] theorem eqv_str (i j : Str) : PyData.eqv (.str i) (.str j) = (i == j) := by simp [PyData.eqv]
theorem any_mem {α : Type} [DecidableEq α] (xs : List α) (a : α) : (xs.any fun x => x == a) = decide (a ∈ xs) := by
  rw [Bool.eq_iff_iff, List.any_eq_true]
  simp
theorem inB_ints (i : Int) (is : List Int) : inB (.int i) (.lst (is.map .int)) = some (decide (i ∈ is)) := by
  rw [inB_lst (Pn.int 0 i) (PnL.map (n := 0) (g := PyData.int) fun x _ => Pn.int 0 x)]
  rw [List.any_map, ← any_mem]
  congr 2
  try (funext x; simp)
theorem inB_bls (i : Bool) (is : List Bool) : inB (.bl i) (.lst (is.map .bl)) = some (decide (i ∈ is)) := by
  rw [inB_lst (Pn.bl 0 i) (PnL.map (n := 0) (g := PyData.bool) fun x _ => Pn.bl 0 x)]
  rw [List.any_map, ← any_mem]
  congr 2
  try (funext x; simp)
theorem inB_strs {i : Str} {is : List Str} (h : strOk i = true) (hs : ∀ x ∈ is, strOk x = true) : inB (.str i) (.lst (is.map .str)) = some (decide (i ∈ is)) := by
  rw [inB_lst (Pn.str 0 h) (PnL.map (n := 0) (g := PyData.str) fun x hx => Pn.str 0 (hs x hx))]
  rw [List.any_map, ← any_mem]
  congr 2
  try (funext x; simp)
theorem inD_of {d e : D} {b : Bool} (h : inB d e = some b) : inD d e = .ok (.bl b) := by unfold inD; rw [h]
theorem ninD_of {d e : D} {b : Bool} (h : inB d e = some b) : ninD d e = .ok (.bl (!b)) := by unfold ninD; rw [h]
theorem indexD_strs {a : Str} {ns : List Str} (h : strOk a = true) (hs : ∀ x ∈ ns, strOk x = true) (ha : a ∈ ns) : indexD (.lst (ns.map .str)) (.str a) = .ok (.int (ns.idxOf a : Nat)) := by
  have k : PnL 0 (ns.map D.str) (ns.map PyData.str) := PnL.map fun x hx => Pn.str 0 (hs x hx)
  unfold indexD
  simp only [k.pd, (Pn.str 0 h).pd]
  have e : (ns.map PyData.str).findIdx? (fun z => PyData.eqv z (.str a)) = some (ns.idxOf a) := by
    rw [List.findIdx?_map]
    have hf : ((fun z => PyData.eqv z (PyData.str a)) ∘ PyData.str) = fun x => x == a := by
      funext x; simp
    rw [hf]
    rw [List.findIdx?_eq_some_iff_getElem]
    have hl := List.idxOf_lt_length_of_mem ha
    refine ⟨hl, by simp, fun j hj => ?_⟩
    have := List.not_of_lt_findIdx (p := fun x => x == a) (xs := ns) (i := j) (by simpa [List.idxOf] using hj)
    simpa using this
  rw [e]
  simp only [k.lst.shaped (by decide), (Pn.str 0 h).shaped (by decide), Bool.and_self, chk_true]
theorem ixL_map {α : Type} {f : α → D} {xs : List α} {i : Nat} {x : α} (h : xs[i]? = some x) : ixL (xs.map f) (i : Int) = .ok (f x) := ixL_nat (by rw [List.getElem?_map, h]; rfl)
theorem ixL_mapZ {α : Type} {f : α → D} {xs : List α} {i : Int} {x : α} (h0 : 0 ≤ i) (h : xs[i.toNat]? = some x) : ixL (xs.map f) i = .ok (f x) := ixL_int h0 (by rw [List.getElem?_map, h]; rfl)
/-! ### while, by a word and a number that falls -/
theorem whF_succ (t : En → Oc Bool) (b : En → Oc Res) (n : Nat) (ρ : En) (h : t ρ = .ok true) {ρ' : En} (hb : b ρ = .ok (.nx ρ') ∨ b ρ = .ok (.ct ρ')) : whF t b (n + 1) ρ = whF t b n ρ' := by
  show (bd (t ρ) fun c => if c then bd (b ρ) fun r => match r with
    | .nx ρ' => whF t b n ρ'
    | .ct ρ' => whF t b n ρ'
    | .bk ρ' => .ok (.nx ρ')
    | .rt d => .ok (.rt d)
    else .ok (.nx ρ)) = _
  rw [h]
  simp only [bd_ok, if_true]
  rcases hb with hb | hb <;> rw [hb] <;> rfl
theorem whF_stop (t : En → Oc Bool) (b : En → Oc Res) (n : Nat) (ρ : En) (h : t ρ = .ok false) : whF t b (n + 1) ρ = .ok (.nx ρ) := by
  show (bd (t ρ) fun c => if c then bd (b ρ) fun r => match r with
    | .nx ρ' => whF t b n ρ'
    | .ct ρ' => whF t b n ρ'
    | .bk ρ' => .ok (.nx ρ')
    | .rt d => .ok (.rt d)
    else .ok (.nx ρ)) = _
  rw [h]
  simp
theorem wh_inv {t : En → Oc Bool} {b : En → Oc Res} (I : Nat → En → Prop) (h : ∀ m ρ, I m ρ → t ρ = .ok false ∨ (t ρ = .ok true ∧ ∃ ρ' m', m' < m ∧ (b ρ = .ok (.nx ρ') ∨ b ρ = .ok (.ct ρ')) ∧ I m' ρ')) {m : Nat} {ρ : En} (h0 : I m ρ) :
    ∃ ρ' m', wh t b ρ = .ok (.nx ρ') ∧ I m' ρ' ∧ t ρ' = .ok false := by
  have key : ∀ m ρ, I m ρ → ∃ n ρ' m', whF t b n ρ = .ok (.nx ρ') ∧ I m' ρ' ∧ t ρ' = .ok false := by
    intro m
    induction m using Nat.strongRecOn with
    | ind m ih =>
      intro ρ hI
      rcases h m ρ hI with hf | ⟨ht, ρ', m', hm, hb, hI'⟩
      · exact ⟨1, ρ, m, whF_stop t b 0 ρ hf, hI, hf⟩
      · obtain ⟨n, ρ2, m2, h1, h2, h3⟩ := ih m' hm ρ' hI'
        exact ⟨n + 1, ρ2, m2, by rw [whF_succ t b n ρ ht hb, h1], h2, h3⟩
  obtain ⟨n, ρ', m', h1, h2, h3⟩ := key m ρ h0
  exact ⟨ρ', m', wh_of h1 (by intro z; cases z), h2, h3⟩
@[simp] theorem setF_ap (i : Nat) (cs : List Str) (n : Str) (f : En → Oc D) (ρ : En) : setF i cs n f ρ = bd (f ρ) fun d => match ρ[i]? with
  | some (.ow (.obj c fs)) => chk (decide (c ∈ cs) && decide (fs.length < 1000)) (.ok (.nx (ρ.set i (.ow (.obj c (putD n d fs))))))
  | _ => .st := id rfl
@[simp] theorem fnI_ap (c : Str) (n m : Nat) (g : En → Oc Res) (ds : List D) : fnI c n m g ds = chk (decide (ds.length = m)) (outI (g (.ow (.obj c []) :: (ds.map .sh ++ List.replicate (n - m) .no)))) := id rfl
@[simp] theorem outI_nx (c : Str) (fs : List (Str × D)) (ρ : En) : outI (.ok (.nx (.ow (.obj c fs) :: ρ))) = .ok (.obj c fs) := id rfl
@[simp] theorem wipeE_nil (ρ : En) : wipeE ρ [] = ρ := id rfl
@[simp] theorem wipeE_cons (ρ : En) (v : Nat) (vs : List Nat) : wipeE ρ (v :: vs) = (wipeE ρ vs).set v .no := id rfl
@[simp] theorem allD_lst (bs : List Bool) : allD (.lst (bs.map .bl)) = .ok (.bl (bs.all id)) := by
  have h : ∀ bs : List Bool, allBl (bs.map .bl) = some bs := fun bs => by
    induction bs with
    | nil => rfl
    | cons b bs ih => simp [allBl, ih]
  unfold allD
  simp only [h]
@[simp] theorem anyD_lst (bs : List Bool) : anyD (.lst (bs.map .bl)) = .ok (.bl (bs.any id)) := by
  have h : ∀ bs : List Bool, allBl (bs.map .bl) = some bs := fun bs => by
    induction bs with
    | nil => rfl
    | cons b bs ih => simp [allBl, ih]
  unfold anyD
  simp only [h]
theorem sortedID_ints (is : List Int) : sortedID (.lst (is.map .int)) = .ok (.lst ((isort is).map .int)) := by
  have h : ∀ bs : List Int, allInt (bs.map .int) = some bs := fun bs => by
    induction bs with
    | nil => rfl
    | cons b bs ih => simp [allInt, ih]
  unfold sortedID
  simp only [h]
theorem mem_isort {x : Int} {l : List Int} : x ∈ isort l ↔ x ∈ l := (isort_perm l).mem_iff
/-! ### texts -/
theorem len_append (a b : Str) : (a ++ b).length = a.length + b.length := by
  show (a.cps ++ b.cps).size = a.cps.size + b.cps.size
  exact Array.size_append
theorem strOk_append {a b : Str} (ha : strOk a = true) (hb : strOk b = true) : strOk (a ++ b) = true := by
  unfold strOk at *
  show (a.cps ++ b.cps).all (· < 0x110000) = true
  rw [Array.all_append, ha, hb]; rfl
theorem strOk_cut {a : Str} (lo hi : Option Int) (ha : strOk a = true) : strOk (cutS a lo hi) = true := by
  unfold strOk at *
  unfold cutS
  rw [← Array.all_toList] at ha ⊢
  rw [List.all_eq_true] at ha ⊢
  intro x hx
  simp only at hx
  exact ha x (List.mem_of_mem_drop (List.mem_of_mem_take hx))
theorem len_cut (a : Str) (lo hi : Option Int) : (cutS a lo hi).length ≤ a.length := by
  unfold cutS
  show (List.toArray _).size ≤ a.cps.size
  simp only [List.size_toArray, List.length_take, List.length_drop, Array.length_toList]
  omega
theorem strOk_one {c : Nat} (h : c < 0x110000) : strOk ⟨#[c]⟩ = true := by
  unfold strOk
  simp [h]
theorem ixD_str {z : Str} {i : Int} (hz : z.length ≤ 1000000) (h0 : 0 ≤ i) (h1 : i < z.length) : ∃ c, ixD (.str z) (.int i) = .ok (.str ⟨#[c]⟩) ∧ (strOk z = true → strOk ⟨#[c]⟩ = true) := by
  have hi : i.toNat < z.cps.size := by
    have h1 : i < (z.cps.size : Nat) := h1
    omega
  refine ⟨z.cps[i.toNat], ?_, fun h => ?_⟩
  · unfold ixD
    simp only
    have e : atI z.cps.toList i = some z.cps[i.toNat] := by
      have e : i = (i.toNat : Int) := by omega
      have := atI_nat (xs := z.cps.toList) (j := i.toNat) (v := z.cps[i.toNat]) (by simp [hi])
      rw [← e] at this
      exact this
    rw [decide_eq_true (by rw [sizeLine_val]; omega), e]
    rfl
  · apply strOk_one
    unfold strOk at h
    rw [Array.all_eq_true] at h
    simpa using h i.toNat hi
theorem addD_strs {a b : Str} (h : a.length + b.length ≤ 1000000) : addD (.str a) (.str b) = .ok (.str (a ++ b)) := by
  rw [addD_str, decide_eq_true (by rw [sizeLine_val]; omega)]; rfl
theorem addD_lsts {a b : List D} (h : a.length + b.length ≤ 1000000) : addD (.lst a) (.lst b) = .ok (.lst (a ++ b)) := by
  rw [addD_lst, decide_eq_true (by rw [sizeLine_val]; omega)]; rfl
theorem slD_strs {a : Str} {lo hi : Option Int} (h : a.length ≤ 1000000) : slD (.str a) lo hi = .ok (.str (cutS a lo hi)) := by
  rw [slD_str, decide_eq_true (by rw [sizeLine_val]; omega)]; rfl
end Fx

set_option Elab.async false
set_option linter.all false
set_option maxRecDepth 100000
set_option maxHeartbeats 4000000
/-! Fx9: all and any of generator expressions; defs with tables. -/
namespace Fx
open PySem PySem.Spec PyProof.Rows L2
variable {K : PySem.W.Frag} {mg : Str → Option Value} {ww : World}
def gaL (T : Tg) (own : List Nat) (neg : Bool) (el : En → Oc D) (ρ : En) : List D → Oc D
  | [] => .ok (.bl (!neg))
  | d :: ds => bd (noex (bindT T d (wipeE ρ own))) fun ρ1 => bd (noex (el ρ1)) fun y => match y with
    | .bl b => if b = neg then .ok (.bl neg) else gaL T own neg el ρ ds
    | _ => .st
def ga (T : Tg) (own : List Nat) (neg : Bool) (src : En → Oc (List D)) (el : En → Oc D) : En → Oc D := fun ρ => bd (src ρ) fun ds => gaL T own neg el ρ ds
theorem Ext.tabbed {G H H2 : Hp} {gp : Pos} {P : Addr} (s : Vw G H) (t : Gx.TabX H P) (g : G P = none) (n : Gx.nstPos gp.line gp.col = none) (h : Gx.TabbedX gp P H H2) : Ext G H G H2 := by
  have t2 := t.grown n h
  obtain ⟨_, h2⟩ := h
  have ne : ∀ {b o}, H b = some o → (∀ ps, o ≠ .tbl ps) → b ≠ P := fun {b o} e n z => by
    obtain ⟨ps, e2, _⟩ := t
    rw [z, e2] at e
    cases e
    exact n ps rfl
  refine ⟨⟨fun b o e n _ => by rw [h2 b (ne e n)]; exact e, fun b o e => ?_, fun P' t' => ?_⟩, .refl _, fun b o e => ?_, fun _ _ _ g => g⟩
  · by_cases hb : b = P
    · obtain ⟨ps, e2, _⟩ := t2
      exact ⟨_, by rw [hb]; exact e2⟩
    · exact ⟨o, by rw [h2 b hb]; exact e⟩
  · by_cases hb : P' = P
    · rw [hb]; exact t2
    · exact t'.ext (fun ps e => by rw [h2 P' hb]; exact e) fun c q e => by rw [h2 c fun z => by obtain ⟨ps, e2, _⟩ := t; rw [z, e2] at e; cases e]; exact e
  · exact (s b o e).at' (h2 b fun z => by rw [z, g] at e; cases e)
theorem tAA_in {neg : Bool} {gp : Pos} {P : Addr} {T : Tg} {own : List Nat} {src : En → Oc (List D)} {el : En → Oc D} {σ : L2.St} {H : Hp} {Q : VK} {W : WX} (hP : IsTab K P) (hn : Gx.nstPos gp.line gp.col = none) (ho : ∀ i ∈ T.slots, i ∈ own) (q : tE K mg ww W (ga T own neg src el) σ H Q) :
    Gx.tAA neg gp P (tI K mg ww W src) (gT K T) (tE K mg ww E0W el) own σ H Q := by
  obtain ⟨G, ρ, R, p⟩ := q
  refine ⟨G, ρ, R, ?_⟩
  revert p
  unfold ga
  cases src ρ with
  | st => exact id
  | ex c => exact id
  | ok ds =>
    intro p J G1 H1 x1 Y
    simp only [bd_ok] at p
    obtain ⟨t1, g1⟩ := (R.ext x1).tabs P hP
    refine ⟨t1, fun H2 hT => ?_⟩
    have x12 : Ext G1 H1 G1 H2 := .tabbed x1.gh t1 g1 hn hT
    have R2 : Rel K mg ww G1 H2 ρ σ := (R.ext x1).ext x12
    refine ⟨fun i m H => m = ds.length - i ∧ i ≤ ds.length ∧ ∃ G, Ext G1 H2 G H ∧ PostE K mg ww (fun c d H' => W c d σ H') G H Q (gaL T own neg el ρ (ds.drop i)), ⟨ds.length, by simp, Nat.zero_le _, G1, .refl x12.gh, PostE.imp (x1.trans x12) p fun _ _ z => z⟩, ?_⟩
    rintro i m H ⟨rfl, hi, G, x, p⟩
    by_cases hlt : i < ds.length
    · refine .inr ⟨Y.go i G H hlt x.gg x.gh, fun v H' y => ?_⟩
      obtain ⟨d, hd⟩ : ∃ d, ds[i]? = some d := ⟨ds[i], List.getElem?_eq_getElem hlt⟩
      obtain ⟨G2, x2, r2⟩ := Y.yld i d v G H H' hd x.gg x.gh y
      have hdr : ds.drop i = d :: ds.drop (i + 1) := by
        rw [List.drop_eq_getElem_cons hlt]
        rw [List.getElem?_eq_getElem hlt] at hd
        cases hd
        rfl
      rw [hdr] at p
      unfold gaL at p
      cases h1 : noex (bindT T d (wipeE ρ own)) with
      | st => rw [h1] at p; exact p.elim
      | ex c => exact (noex_ne h1).elim
      | ok ρ1 =>
        rw [h1] at p
        simp only [bd_ok] at p
        have R3 : Rel K mg ww G2 H' (wipeE ρ own) (L2.wipe σ own) := ((R2.ext x).ext x2).wipe own
        refine gT_rel R3 r2 (noex_eq h1) fun us R4 => ⟨setT_wipe ho, ?_⟩
        refine ⟨G2, ρ1, R4, ?_⟩
        cases h2 : noex (el ρ1) with
        | st => rw [h2] at p; exact p.elim
        | ex c => exact (noex_ne h2).elim
        | ok yd =>
          rw [h2] at p
          simp only [bd_ok] at p
          rw [noex_eq h2]
          intro yv G4 H4 x4 ry
          cases yd with
          | bl b =>
            cases ry
            refine ⟨b, rfl, ?_⟩
            simp only at p
            by_cases hb : b = neg
            · rw [if_pos hb] at p ⊢
              exact p _ G4 H4 (x2.trans x4) (.bl _)
            · rw [if_neg hb] at p ⊢
              exact ⟨ds.length - (i + 1), by omega, rfl, hlt, G4, (x.trans x2).trans x4, PostE.imp (x2.trans x4) p fun _ _ z => z⟩
          | _ => exact p.elim
    · have e : i = ds.length := by omega
      subst e
      rw [List.drop_length] at p
      exact .inl ⟨Y.stop G H x.gg x.gh, p _ G H (.refl x.gh) (.bl _)⟩
section
variable {X : Cx} {W : WX} {elt tg it : Expr} {pos : Pos}
theorem Ctx.gen {k : Nat} (C : Ctx X W) (hr : Room k X.A) (s : Shared) (H : Hp) (ce : Env) (fp : List Addr) (pn : List (Addr × Obj)) : Ctx (Gx.gen X (X.A.in1.in1.deeper ce) s H ce fp pn) E0W :=
  ⟨C.calm, C.nd, takes0, by have := hr.un; show X.A.units + 1 + 1 + 3 + 65 < cLine; omega⟩
theorem room_gen {k : Nat} (hr : Room (k + 1) X.A) (ce : Env) : Room k (X.A.in1.in1.deeper ce) :=
  ⟨hr.hd, by have := hr.dp; show X.A.depth + 1 + 3 * k + 5 < _; omega, by have := hr.un; show X.A.units + 1 + 1 + 3 + 16 * k + 200 < _; omega⟩
structure TbOk (X : Cx) (c P : Addr) : Prop where
  tb : GxR.TabB X.base X.mg c P
  is : IsTab X.K P
theorem se_allG {c P : Addr} {k : Nat} {p gpos : Pos} {scope : Scope} {own : List (Str × Nat)} {T : Tg} {src : En → Oc (List D)} {el : En → Oc D} (C : Ctx X W) (hr : Room k X.A) (hg : Gl X "all") (hm : X.mg "all" = none) (t : TbOk X c P) (hnp : Gx.nstPos gpos.line gpos.col = none) (hcode : X.env.code = .ref c) (ok : BlkOk X.N X.env.scope scope own)
    (nc : (scope.names.all fun y => y.2 != .cell) = true) (dot : scope.names.lookup (".0" : Str) = some NameKind.local) (co : scope.isCoroutine = false) (hi : SI X W tg it src)
    (hgt : ∀ (s : Shared) (H : Hp) (C : Addr) (code : Value) (fp : List Addr) (pn : List (Addr × Obj)), ST (Gx.gen X (X.A.in1.in1.deeper (Gx.gEnv X scope C code)) s H (Gx.gEnv X scope C code) fp pn) tg T)
    (he : ∀ (s : Shared) (H : Hp) (C : Addr) (code : Value) (fp : List Addr) (pn : List (Addr × Obj)), SE (Gx.gen X (X.A.in1.in1.deeper (Gx.gEnv X scope C code)) s H (Gx.gEnv X scope C code) fp pn) E0W elt el) (ho : ∀ i ∈ T.slots, i ∈ own.map (·.2)) (hs : ∀ v, genFold it X.env v = pure v := by intro _; rfl) :
    SE X W (.Call (.Name "all" p) [.GeneratorExp elt [⟨tg, it, [], 0⟩] scope gpos] [] pos) (ga T (own.map (·.2)) false src el) :=
  PE.weak (Gx.pe_all hr C.calm C.nd hg hm (by decide +kernel) t.tb hcode ok (fun y hy e => by have := List.all_eq_true.mp nc y hy; rw [e] at this; simp at this) dot co hi hgt he hs) fun σ H Q q => tAA_in t.is hnp ho q
theorem se_anyG {c P : Addr} {k : Nat} {p gpos : Pos} {scope : Scope} {own : List (Str × Nat)} {T : Tg} {src : En → Oc (List D)} {el : En → Oc D} (C : Ctx X W) (hr : Room k X.A) (hg : Gl X "any") (hm : X.mg "any" = none) (t : TbOk X c P) (hnp : Gx.nstPos gpos.line gpos.col = none) (hcode : X.env.code = .ref c) (ok : BlkOk X.N X.env.scope scope own)
    (nc : (scope.names.all fun y => y.2 != .cell) = true) (dot : scope.names.lookup (".0" : Str) = some NameKind.local) (co : scope.isCoroutine = false) (hi : SI X W tg it src)
    (hgt : ∀ (s : Shared) (H : Hp) (C : Addr) (code : Value) (fp : List Addr) (pn : List (Addr × Obj)), ST (Gx.gen X (X.A.in1.in1.deeper (Gx.gEnv X scope C code)) s H (Gx.gEnv X scope C code) fp pn) tg T)
    (he : ∀ (s : Shared) (H : Hp) (C : Addr) (code : Value) (fp : List Addr) (pn : List (Addr × Obj)), SE (Gx.gen X (X.A.in1.in1.deeper (Gx.gEnv X scope C code)) s H (Gx.gEnv X scope C code) fp pn) E0W elt el) (ho : ∀ i ∈ T.slots, i ∈ own.map (·.2)) (hs : ∀ v, genFold it X.env v = pure v := by intro _; rfl) :
    SE X W (.Call (.Name "any" p) [.GeneratorExp elt [⟨tg, it, [], 0⟩] scope gpos] [] pos) (ga T (own.map (·.2)) true src el) :=
  PE.weak (Gx.pe_any hr C.calm C.nd hg hm (by decide +kernel) t.tb hcode ok (fun y hy e => by have := List.all_eq_true.mp nc y hy; rw [e] at this; simp at this) dot co hi hgt he hs) fun σ H Q q => tAA_in t.is hnp ho q
end
end Fx

set_option Elab.async false
set_option linter.all false
set_option maxRecDepth 100000
set_option maxHeartbeats 4000000
/-! Fx10: count, max, min, chains, raise. -/
namespace Fx
open PySem PySem.Spec PyProof.Rows L2
variable {K : PySem.W.Frag} {mg : Str → Option Value} {ww : World}
/-! ### list.count of texts -/
def rCntS (K : PySem.W.Frag) : V → List V → Hp → VK → Prop := fun x xs H Q => ∃ (p : Addr) (ys : List Str) (k : Str), x = .ref p ∧ xs = [.str k] ∧ SqL K H p (ys.map V.str) ∧ Q (.int (countIn (.str k) (ys.map PyData.str))) H
theorem strs_of_vals : ∀ {ys : List Str} {us : List Value}, Vals (ys.map V.str) us → StrsAre us ys
  | [], _, h => by cases h; exact .nil
  | y :: ys, _, h => by
    cases h with
    | cons r t =>
      obtain ⟨u, rfl⟩ := r
      exact .cons y u (strs_of_vals t)
theorem mt_countS {X : Cx} : MtR X "list.count" (rCntS X.K) := by
  intro pins s σ H x xs v us Q I rx rxs h
  obtain ⟨p, ys, k, rfl, rfl, hs, q⟩ := h
  cases rx
  obtain ⟨u, rfl, ru⟩ := rxs.one
  obtain ⟨t, rfl⟩ := ru
  obtain ⟨its, rv, il, _⟩ := I.list hs
  exact count_list_strs il.isList (strs_of_vals rv) ⟨.int _, H, I.kept (h' := s.heap) (fun _ _ e => e), ⟨_, rfl⟩, q⟩
def strsD : List D → Option (List Str)
  | [] => some []
  | .str x :: ds => (strsD ds).map (x :: ·)
  | _ => none
theorem repL_strs {G : Hp} : ∀ {ds : List D} {ys : List Str} {vs : List V}, strsD ds = some ys → RepL K mg ww G vs ds → vs = ys.map V.str
  | [], _, _, e, .nil => by cases e; rfl
  | .str x :: ds, ys, _, e, .cons r t => by
    cases h : strsD ds with
    | none => simp [strsD, h] at e
    | some zs =>
      simp [strsD, h] at e
      subst e
      cases r
      rw [List.map_cons, repL_strs h t]
  | .non :: _, _, _, e, _ => by cases e
  | .bl _ :: _, _, _, e, _ => by cases e
  | .int _ :: _, _, _, e, _ => by cases e
  | .lst _ :: _, _, _, e, _ => by cases e
  | .tup _ :: _, _, _, e, _ => by cases e
  | .fz _ :: _, _, _, e, _ => by cases e
  | .obj _ _ :: _, _, _, e, _ => by cases e
  | .ty _ :: _, _, _, e, _ => by cases e
def countM (d : D) (es : List D) : Oc D := match es with
  | [.str k] => match d with
    | .lst ds => match strsD ds with
      | some ys => .ok (.int (countIn (.str k) (ys.map PyData.str)))
      | none => .st
    | _ => .st
  | _ => .st
section
variable {X : Cx} {W : WX} {a b c e : Expr} {es : List Expr} {f g h : En → Oc D} {fs : En → Oc (List D)} {pos : Pos}
theorem se_count {apos : Pos} (ha : SQ X W a f) (hb : SA X W (e :: es) fs)
    (hbase : attributeBase a "count" X.env (eval a X.env) = eval a X.env := by rfl)
    (hfew : ((backTo pos (starEach (e :: es) X.env)).all (fun x => !x.1) && (backToKw pos (keywordEach [] X.env)).all (fun x => x.1.isSome)
      && decide ((e :: es).length + ([] : List Keyword).length + (if ([] : List Keyword).isEmpty then 0 else 1) < 30)) = true := by rfl)
    (hline : (apos.endLine == pos.line) = true := by rfl) (hs : starEach (e :: es) X.env = (false, eval e X.env) :: starEach es X.env := by rfl) (hplain : (backTo pos (starEach es X.env)).any (·.1) = false := by rfl) :
    SE X W (.Call (.Attribute a "count" apos) (e :: es) [] pos) (mtD isLst countM f fs) :=
  se_mt PySem.F.plainAttrs_list PySem.F.slot_list_count PySem.F.type_list_count mt_countS ty_lst (fun {G H x d vs ds Q U} s r1 r2 p => by
    unfold countM at p
    split at p
    · rename_i k
      split at p
      · rename_i ls
        split at p
        · rename_i ys hys
          obtain ⟨l, xs, e1, hl, rl⟩ := r1.lst s
          subst e1
          cases r2 with
          | cons r2 r3 =>
            cases r3
            cases r2
            have := repL_strs hys rl
            subst this
            exact ⟨l, ys, k, rfl, rfl, SqL.of hl, p.here s (.int _)⟩
        · exact p.elim
      · exact p.elim
    · exact p.elim) ha hb hbase hfew hline hs hplain
/-! ### max, min of two -/
def maxM (ds : List D) : Oc D := match ds with | [.int i, .int j] => .ok (.int (if j > i then j else i)) | _ => .st
def minM (ds : List D) : Oc D := match ds with | [.int i, .int j] => .ok (.int (if j < i then j else i)) | _ => .st
def unA (F : List D → Oc D) (fs : En → Oc (List D)) : En → Oc D := fun ρ => bd (fs ρ) F
theorem se_callB {idn : String} {r : List V → Hp → VK → Prop} {nm : Str} {p : Pos} {F : List D → Oc D} (hc : CallR X (.builtin idn) r) (hg : Gl X nm) (hm : X.mg nm = none) (hv : bootBuiltins nm = some (.builtin idn))
    (h2 : ∀ {G H vs ds Q U}, Vw G H → RepL X.K X.mg X.w G vs ds → PostE X.K X.mg X.w U G H Q (F ds) → r vs H Q) (ha : SA X W (e :: es) fs) (hn : nm ≠ "__name__" := by decide) (hdb : (nm == ("__debug__" : Str)) = false := by decide)
    (he : starEach (e :: es) X.env = (false, eval e X.env) :: starEach es X.env := by rfl) (hpl : (backTo pos (starEach es X.env)).any (·.1) = false := by rfl) : SE X W (.Call (.Name nm p) (e :: es) [] pos) (unA F fs) := by
  refine PE.weak (pe_callB hc hg hm hv ha hn hdb he hpl) fun σ H Q ⟨G, ρ, R, p⟩ => ?_
  refine ⟨G, ρ, R, ?_⟩
  revert p
  unfold unA
  cases fs ρ with
  | st => exact id
  | ex c => exact id
  | ok ds => exact fun p vs G1 H1 x1 r1 => h2 x1.gh r1 (PostE.imp x1 p fun _ _ q => q)
end
end Fx

set_option Elab.async false
set_option linter.all false
set_option maxRecDepth 100000
set_option maxHeartbeats 4000000
/-! Fx11: raise; fresh results; defs with tables and defaults. -/
namespace Fx
open PySem PySem.Spec PyProof.Rows L2
variable {K : PySem.W.Frag} {mg : Str → Option Value} {ww : World}
/-! ### raise -/
structure ExcK (K : PySem.W.Frag) (mg : Str → Option Value) (c : Str) : Prop where
  ex : ∃ C, mg c = some (.ref C) ∧ PySem.W.excIn K C He.veBase "ValueError.__new__" = true ∧ PySem.W.keepIn K (.ref C) = true ∧ PySem.W.subIn K (.ref C) (.type "BaseException") = some true ∧ PySem.W.typeIn K (.ref C) = some (.type "type")
def rsx (c : Str) : En → Oc Res := fun _ => .ex c
section
variable {X : Cx} {W : WX} {U : XK} {fre : Fr} {a b c e : Expr} {es : List Expr} {f g h : En → Oc D} {fs : En → Oc (List D)} {pos : Pos}
theorem ss_raise {nm m : Str} {j : Nat} {p p2 pos2 pos3 : Pos} (C : Ctx X (up U)) (k : ExcK X.K X.mg nm) (hg : Gl X nm) (hdb : (nm == ("__debug__" : Str)) = false := by decide) : SS X U fre (.Raise (some (.Call (.Name nm p) [.Constant (.str m) j p2] [] pos2)) none pos3) (rsx nm) := by
  obtain ⟨Cl, gC, h1, h2, h3, h4⟩ := k.ex
  exact PS.weak (ps_raise C.calm C.tk (pmk_own PySem.F.excBase_ValueError h1 gC h2 (raises_own h3 h4) hg hdb)) fun D σ H ⟨G, ρ, me, G0, H0, B, p⟩ => p _ G H B.ext gC
end
/-! ### fresh results -/
def spFF (K : PySem.W.Frag) (mg : Str → Option Value) (ww : World) (n : Nat) (F : List D → Oc D) : Sp := fun vs H Q E => vs.length = n ∧ ∃ G ds, Vw G H ∧ Tabs K G H ∧ RepL K mg ww G vs ds ∧ PostF K mg ww E G H Q (F ds)
theorem postF_of {U : XK} {G H : Hp} {Q : VK} {o : Oc D} (p : PostE K mg ww U G H Q o) : PostF K mg ww U G H Q o := by
  revert p
  cases o with
  | st => exact id
  | ex c => exact id
  | ok d =>
    intro p a G' H' x ha ga ow
    obtain ⟨u, hu⟩ := ow.ex
    have gg : Same G' (upd G' a u) := fun b o e => by rw [upd_ne (ne_of_none e ga)]; exact e
    refine p (.ref a) (upd G' a u) H' ⟨x.hh, x.gg.trans gg, fun b o e => ?_, fun b o hb gb => ?_⟩ (ow.rep gg fun o q => by rw [hu] at q; cases q; exact upd_same)
    · by_cases hb : b = a
      · subst hb; rw [upd_same] at e; cases e; exact ow.seen hu _ _ hu
      · rw [upd_ne hb] at e; exact x.gh _ _ e
    · rw [upd_ne (ne_of_none hb ha)]; exact x.nc b o hb gb
theorem FnOk.imp {P : Program} {w : World} {base : Heap} {CX : CXT} {k : Nat} {f : Addr} {fd : FuncData} {ps : List Str} {sp sp2 : Sp} (F : FnOk P w K mg base CX k f fd ps sp) (h : ∀ vs H Q E, sp2 vs H Q E → sp vs H Q E) : FnOk P w K mg base CX k f fd ps sp2 :=
  ⟨fun vs H Q E z => F.len vs H Q E (h _ _ _ _ z), fun A outer s H args us vs Q E r e b v z => F.run A outer s H args us vs Q E r e b v (h _ _ _ _ z)⟩
structure KnF (P : Program) (w : World) (K : PySem.W.Frag) (mg : Str → Option Value) (base : Heap) (k : Nat) (x : Str) (n : Nat) (dds : List D) (F : List D → Oc D) : Prop where
  ex : ∃ (f : Addr) (fd : FuncData) (ps : List Str) (ds : List Value) (dvs : List V), FnOk P w K mg base (L2.CX P w) k f fd ps (spFF K mg w (n + dds.length) F) ∧ mg x = some (.ref f) ∧ PySem.W.keepIn K (.ref f) = true ∧ Binds K fd ps ds ∧ Vals dvs ds ∧ (∀ G, RepL K mg w G dvs dds)
abbrev XKnF (X : Cx) := KnF X.prog X.w X.K X.mg X.base
theorem KnF.kn {P : Program} {w : World} {base : Heap} {k n : Nat} {x : Str} {dds : List D} {F : List D → Oc D} (h : KnF P w K mg base k x n dds F) : Kn P w K mg base k x n dds F := by
  obtain ⟨f, fd, ps, ds, dvs, ok, r⟩ := h.ex
  exact ⟨f, fd, ps, ds, dvs, ok.imp fun vs H Q E ⟨hl, G, es, s, t, r, p⟩ => ⟨hl, G, es, s, t, r, postF_of p⟩, r⟩
section
variable {X : Cx} {W : WX} {U : XK} {fre : Fr} {a b c e : Expr} {es : List Expr} {f g h : En → Oc D} {fs : En → Oc (List D)} {pos : Pos} {G H : Hp} {Q : VK}
theorem PostF.call {n : Nat} {vs dvs : List V} {ds dds : List D} {F : List D → Oc D} (s : Vw G H) (tb : Tabs K G H) (r : RepL K mg ww G vs ds) (rd : ∀ G, RepL K mg ww G dvs dds) (p : PostF K mg ww U G H Q (Fx.chk (decide (ds.length = n)) (F (ds ++ dds)))) : spFF K mg ww (n + dds.length) F (vs ++ dvs) H Q U := by
  obtain ⟨c, p⟩ := p.chk
  exact ⟨by rw [List.length_append, r.length, (rd G).length, of_decide_eq_true c], G, ds ++ dds, s, tb, r.append (rd G), p⟩
theorem sf_call {k n : Nat} {nm : Str} {dds : List D} {F : List D → Oc D} {p : Pos} (kn : XKnF X k nm n dds F) (C : Ctx X W) (hr : Room k X.A) (hg : Gl X nm) (ha : SA X W (e :: es) fs) (hdb : (nm == ("__debug__" : Str)) = false := by decide)
    (he : starEach (e :: es) X.env = (false, eval e X.env) :: starEach es X.env := by rfl) (hpl : (backTo pos (starEach es X.env)).any (·.1) = false := by rfl) : SF X W (.Call (.Name nm p) (e :: es) [] pos) (cal F n dds fs) := by
  obtain ⟨f, fd, ps, ds, dvs, ok, gm, kp, b, vd, rd⟩ := kn.ex
  refine PE.weak (pe_callW ok hr hg gm kp b vd C.tk ha hdb he hpl) fun σ H Q ⟨G, ρ, R, p⟩ => ?_
  refine ⟨G, ρ, R, ?_⟩
  revert p
  unfold cal
  cases fs ρ with
  | st => exact id
  | ex c => exact id
  | ok ds =>
    intro p vs G1 H1 x1 r1
    have p := PostF.imp x1 p fun _ _ q => q
    exact p.call x1.gh (R.ext x1).tabs r1 rd
def exsA (f g : En → Oc D) : En → Oc Res := fun ρ => bd (f ρ) fun d => match d with
  | .lst ds => bd (g ρ) fun _ => chk (decide (ds.length < sizeLine)) (.ok (.nx ρ))
  | _ => .st
theorem ss_exsA {apos cpos : Pos} (ha : SF X (up U) a f) (hb : SE X (up U) b g)
    (hbase : attributeBase a "append" X.env (eval a X.env) = eval a X.env := by rfl)
    (hfew : ((backTo cpos (starEach [b] X.env)).all (fun x => !x.1) && (backToKw cpos (keywordEach [] X.env)).all (fun x => x.1.isSome)
      && decide (([b] : List Expr).length + ([] : List Keyword).length + (if ([] : List Keyword).isEmpty then 0 else 1) < 30)) = true := by rfl)
    (hline : (apos.endLine == cpos.line) = true := by rfl) (hs : starEach [b] X.env = (false, eval b X.env) :: starEach [] X.env := by rfl) (hplain : (backTo cpos (starEach [] X.env)).any (·.1) = false := by rfl)
    (hsw : swapsWith (.Call (.Attribute a "append" apos) [b] [] cpos) none pos.line X.env = pure false := by rfl) :
    SS X U fre (.Expr (.Call (.Attribute a "append" apos) [b] [] cpos) pos) (exsA f g) :=
  PS.weak (ps_expr (pe_bm PySem.F.plainAttrs_list PySem.F.slot_list_append PySem.F.type_list_append mt_append ha (pa_cons hb pa_nil hs) hbase hfew hline hs hplain) hsw) fun D σ H ⟨G, ρ, me, G0, H0, B, p⟩ => by
  refine ⟨G, ρ, B.rel, ?_⟩
  revert p
  unfold exsA
  cases f ρ with
  | st => exact id
  | ex c => exact fun p C G' H' x m => p C G' H' (B.ext.trans x) m
  | ok d =>
    intro p l G1 H1 x1 hl gl ow
    simp only [bd_ok] at p
    cases d with
    | lst ds =>
      obtain ⟨xs, el, rl⟩ := ow
      refine ⟨.inl ⟨rfl, _, SqL.of el⟩, G1, ρ, B.rel.ext x1, ?_⟩
      revert p
      simp only
      cases g ρ with
      | st => exact id
      | ex c => exact fun p C G' H' x m => p C G' H' (B.ext.trans (x1.trans x)) m
      | ok d2 =>
        intro p v G2 H2 x2 r2
        simp only [bd_ok] at p
        have p2 := chk_some (P := PostS X.K X.mg X.w U fre me G0 H0 D) (fun z => z) p
        have el2 : H2 l = some (.lst xs) := x2.hh.ob _ _ el (fun _ z => by cases z) (fun _ z => by cases z)
        have gl2 : G2 l = none := x2.nc l _ el gl
        have x12 := x1.trans x2
        refine ⟨l, xs, v, rfl, rfl, el2, by rw [rl.length]; exact of_decide_eq_true p2.1, p2.2 σ G2 _ (B.step ⟨x12.hh.upd hl (notFn_lst el2), x12.gg, fun b o e => ?_, x12.nc⟩)⟩
        exact (x12.gh _ _ e).upd (ne_of_none e gl2)
    | _ => exact p.elim
end
section
variable {P : Program} {w : World} {base : Heap}
def Tbs (K : PySem.W.Frag) (mg : Str → Option Value) (base : Heap) : Prop := ∀ c P, PySem.W.codeHdIn K c P = true → K.lookup P = none → GxR.TabB base mg c P
theorem noOwn {ds : List D} {m : Nat} (i : Nat) (d : D) : (ds.map Sl.sh ++ List.replicate m Sl.no)[i]? ≠ some (.ow d) := fun h1 => by
  by_cases hi : i < ds.length
  · rw [List.getElem?_append_left (by simpa using hi), List.getElem?_map, List.getElem?_eq_getElem hi] at h1
    cases h1
  · rw [List.getElem?_append_right (by simpa using hi), List.getElem?_replicate] at h1
    split at h1 <;> cases h1
theorem fn_start {N ps : List Str} {sc : Scope} {G H : Hp} {vs : List V} {ds : List D} {Q : VK} {E : XK} {g : En → Oc Res} (S : FnScope N ps sc) (sG : Vw G H) (tb : Tabs K G H) (r : RepL K mg ww G vs ds) (p : PostE K mg ww E G H Q (fnB N.length ps.length g ds)) :
    tS K mg ww E .s g { nx := fun _ H' => Q .non H', rt := Q } (L2.start N vs) H := by
  unfold fnB at p
  obtain ⟨c, p⟩ := p.chk
  have hd := of_decide_eq_true c
  have R := rel_start (N := N) sG tb r
  rw [hd] at R
  refine ⟨G, _, 0, G, H, ⟨R, .refl sG, fun i a d h1 _ => absurd h1 (noOwn i d), fun i c fs h1 => absurd h1 (noOwn i _)⟩, ?_⟩
  revert p
  unfold outR
  cases g (ds.map .sh ++ List.replicate (N.length - ps.length) .no) with
  | st => exact id
  | ex c => exact id
  | ok r =>
    simp only [bd_ok]
    cases r with
    | nx ρ => exact fun p σ G' H' B => p .non G' H' B.ext .non
    | rt d => exact fun p v G' H' x r => p v G' H' x r
    | bk ρ => exact fun p => p.elim
    | ct ρ => exact fun p => p.elim
def outF (o : Oc Res) : Oc D := bd o fun r => match r with
  | .rt d => if isNon d then .st else .ok d
  | _ => .st
def fnF (n m : Nat) (g : En → Oc Res) : List D → Oc D := fun ds => chk (decide (ds.length = m)) (outF (g (ds.map .sh ++ List.replicate (n - m) .no)))
theorem fnF_start {N ps : List Str} {sc : Scope} {G H : Hp} {vs : List V} {ds : List D} {Q : VK} {E : XK} {g : En → Oc Res} (S : FnScope N ps sc) (sG : Vw G H) (tb : Tabs K G H) (r : RepL K mg ww G vs ds) (p : PostF K mg ww E G H Q (fnF N.length ps.length g ds)) :
    tS K mg ww E .o g { nx := fun _ H' => Q .non H', rt := Q } (L2.start N vs) H := by
  unfold fnF at p
  obtain ⟨c, p⟩ := p.chk
  have hd := of_decide_eq_true c
  have R := rel_start (N := N) sG tb r
  rw [hd] at R
  refine ⟨G, _, 0, G, H, ⟨R, .refl sG, fun i a d h1 _ => absurd h1 (noOwn i d), fun i c fs h1 => absurd h1 (noOwn i _)⟩, ?_⟩
  revert p
  unfold outF
  cases g (ds.map .sh ++ List.replicate (N.length - ps.length) .no) with
  | st => exact id
  | ex c => exact id
  | ok r =>
    simp only [bd_ok]
    cases r with
    | nx ρ => exact fun p => p.elim
    | rt d =>
      simp only
      cases hn : isNon d with
      | true => exact fun p => p.elim
      | false => exact fun p => ⟨(fun z => by cases hn.symm.trans z), fun _ a G' H' x h g w => p a G' H' x h g w⟩
    | bk ρ => exact fun p => p.elim
    | ct ρ => exact fun p => p.elim
theorem fnD_ok {x qual : Str} {pa : Arguments} {bd : List Stmt} {sc : Scope} {dvs : List V} {kws : List (Str × V)} {f : Addr} {fd : FuncData} {N ps : List Str} {k : Nat} {g : En → Oc Res} (F : FunD K x qual pa bd sc dvs kws f fd) (S : FnScope N ps sc)
    (hb : ∀ (cdv : Value) (A : Around) (outer : List Env) (s : Shared) (H : Hp) (E : XK), fd.code = cdv → Room k (A.deeper (envOfC qual sc s.heap.objs.size f cdv)) → Ctx (cxOf (L2.CX P w) P w K mg base N qual sc f cdv A outer s H E) (up E) →
      SSs (cxOf (L2.CX P w) P w K mg base N qual sc f cdv A outer s H E) E .s bd g) : FnOk P w K mg base (L2.CX P w) (k + 1) f fd ps (spF K mg w ps.length (fnB N.length ps.length g)) := by
  obtain ⟨oc, od, dV, kV, doc, pm, an, cdv, ct, osl, rfl, lk, hcd, _, _⟩ := F.ex
  refine fn_of lk hcd S (fun vs H Q E h => h.1) fun A outer s H vs Q E hr h => ?_
  obtain ⟨hl, G, ds, sG, tb, r, p⟩ := h
  refine ⟨_, hb cdv A outer s H E rfl hr (ctx_def S hr), ?_⟩
  exact fn_start S sG tb r p
theorem fnF_ok {x qual : Str} {pa : Arguments} {bd : List Stmt} {sc : Scope} {dvs : List V} {kws : List (Str × V)} {f : Addr} {fd : FuncData} {N ps : List Str} {k : Nat} {g : En → Oc Res} (F : FunD K x qual pa bd sc dvs kws f fd) (S : FnScope N ps sc)
    (hb : ∀ (cdv : Value) (A : Around) (outer : List Env) (s : Shared) (H : Hp) (E : XK), fd.code = cdv → Room k (A.deeper (envOfC qual sc s.heap.objs.size f cdv)) → Ctx (cxOf (L2.CX P w) P w K mg base N qual sc f cdv A outer s H E) (up E) →
      SSs (cxOf (L2.CX P w) P w K mg base N qual sc f cdv A outer s H E) E .o bd g) : FnOk P w K mg base (L2.CX P w) (k + 1) f fd ps (spFF K mg w ps.length (fnF N.length ps.length g)) := by
  obtain ⟨oc, od, dV, kV, doc, pm, an, cdv, ct, osl, rfl, lk, hcd, _, _⟩ := F.ex
  refine fn_of lk hcd S (fun vs H Q E h => h.1) fun A outer s H vs Q E hr h => ?_
  obtain ⟨hl, G, ds, sG, tb, r, p⟩ := h
  refine ⟨_, hb cdv A outer s H E rfl hr (ctx_def S hr), ?_⟩
  exact fnF_start S sG tb r p
theorem init_start {c : Str} {N ps : List Str} {sc : Scope} {m : Nat} {g : En → Oc Res} {vs : List V} {H : Hp} {Q : VK} {E : XK} (S : FnScope N ps sc) (hps : ps.length = m + 1) (h : spI K mg ww c m (fnI c (N.length - 1) m g) vs H Q E) :
    tS K mg ww E .s g { nx := fun _ H' => Q .non H', rt := Q } (L2.start N vs) H := by
  obtain ⟨hl, G, ds, x, dx, C, vs', rfl, mc, hx, hdx, ne, gx, sG, tb, r, p⟩ := h
  have hN : m + 1 ≤ N.length := by
    have := congrArg List.length S.pre
    rw [List.length_take] at this
    omega
  unfold fnI at p
  cases hc : decide (ds.length = m) with
  | false => rw [hc] at p; exact p.elim
  | true =>
    rw [hc] at p
    simp only [chk_true] at p
    have hd := of_decide_eq_true hc
    have R0 := rel_start (N := N.drop 1) sG tb r
    rw [List.length_drop, hd] at R0
    have key : ∀ (i : Nat) (d : D), (ds.map Sl.sh ++ List.replicate (N.length - 1 - m) Sl.no)[i]? ≠ some (.ow d) := fun i d h1 => by
      by_cases hi : i < ds.length
      · rw [List.getElem?_append_left (by simpa using hi), List.getElem?_map, List.getElem?_eq_getElem hi] at h1
        cases h1
      · rw [List.getElem?_append_right (by simpa using hi), List.getElem?_replicate] at h1
        split at h1 <;> cases h1
    have hst : L2.start N (.ref x :: vs') = some (.ref x) :: L2.start (N.drop 1) vs' := by
      unfold L2.start
      have e1 : N.length - (vs'.length + 1) = (N.length - 1) - vs'.length := by omega
      simp [e1]
    have R : Rel K mg ww G H (.ow (.obj c []) :: (ds.map .sh ++ List.replicate (N.length - 1 - m) .no)) (L2.start N (.ref x :: vs')) := by
      rw [hst]
      exact R0.cons_own gx ⟨C, dx, [], mc, hx, .nil⟩ key
    refine ⟨G, _, x, G, rmv H x, ⟨R, ⟨.of fun b o e => (rmv_some e).2, .refl _, sG, fun _ _ _ g => g⟩, fun i a d h1 h2 => ?_, fun i c fs h1 => ?_⟩, ?_⟩
    · cases i with
      | zero =>
        rw [hst] at h2
        simp at h2
        subst h2
        unfold rmv
        rw [if_pos rfl]
      | succ i => exact absurd (by simpa using h1) (key i d)
    · cases i with
      | zero => rw [hst]; rfl
      | succ i => exact absurd (by simpa using h1) (key i _)
    · revert p
      unfold outI
      cases g (.ow (.obj c []) :: (ds.map .sh ++ List.replicate (N.length - 1 - m) .no)) with
      | st => exact id
      | ex c => exact fun p C' G' H' y mm => p C' G' H' y.hh y.gg y.gh (fun b o e hb g => y.nc b o (by rw [rmv_ne hb]; exact e) g) mm
      | ok r =>
        simp only [bd_ok]
        cases r with
        | nx ρ =>
          intro p σ G' H' B
          simp only at p
          cases hs : self0 ρ with
          | st => rw [hs] at p; exact p.elim
          | ex c => exact (self0_ex hs).elim
          | ok d =>
            rw [hs] at p
            obtain ⟨c2, fs, rfl, hq⟩ := self0_ok hs
            obtain ⟨o, ho, a, rfl, ga, ow⟩ := B.rel.get hq
            have e1 := B.self 0 c2 fs hq
            rw [ho] at e1
            cases e1
            exact p G' H' B.ext.hh B.ext.gg B.ext.gh (fun b o e hb g => B.ext.nc b o (by rw [rmv_ne hb]; exact e) g) ga ow
        | rt d => exact fun p => p.elim
        | bk ρ => exact fun p => p.elim
        | ct ρ => exact fun p => p.elim
theorem initD_ok {x qual c : Str} {pa : Arguments} {bd : List Stmt} {sc : Scope} {dvs : List V} {kws : List (Str × V)} {f : Addr} {fd : FuncData} {N ps : List Str} {k m : Nat} {g : En → Oc Res} (F : FunD K x qual pa bd sc dvs kws f fd) (S : FnScope N ps sc) (hps : ps.length = m + 1)
    (hb : ∀ (cdv : Value) (A : Around) (outer : List Env) (s : Shared) (H : Hp) (E : XK), fd.code = cdv → Room k (A.deeper (envOfC qual sc s.heap.objs.size f cdv)) → Ctx (cxOf (L2.CX P w) P w K mg base N qual sc f cdv A outer s H E) (up E) →
      SSs (cxOf (L2.CX P w) P w K mg base N qual sc f cdv A outer s H E) E .s bd g) : FnOk P w K mg base (L2.CX P w) (k + 1) f fd ps (spI K mg w c m (fnI c (N.length - 1) m g)) := by
  obtain ⟨oc, od, dV, kV, doc, pm, an, cdv, ct, osl, rfl, lk, hcd, _, _⟩ := F.ex
  refine fn_of lk hcd S (fun vs H Q E h => h.1.trans hps.symm) fun A outer s H vs Q E hr h => ?_
  exact ⟨_, hb cdv A outer s H E rfl hr (ctx_def S hr), init_start S hps h⟩
end
end Fx
namespace Fx
open PySem PySem.Spec PyProof.Rows L2
section
variable {X : Cx} {W : WX} {a b c e : Expr} {f g h : En → Oc D} {pos : Pos}
def chn (f g h : En → Oc D) : En → Oc D := fun ρ => bd (f ρ) fun x => bd (g ρ) fun y => bd (cmpD (fun i j => decide (i ≤ j)) x y) fun z => match z with
  | .bl true => bd (h ρ) fun w => cmpD (fun i j => decide (i ≤ j)) y w
  | .bl false => .ok (.bl false)
  | _ => .st
theorem cmpD_ok {q : Int → Int → Bool} {x y z : D} (h : cmpD q x y = .ok z) : ∃ i j, x = .int i ∧ y = .int j ∧ z = .bl (q i j) := by
  unfold cmpD at h
  split at h
  · cases h; exact ⟨_, _, rfl, rfl, rfl⟩
  · cases h
theorem cmpD_ex {q : Int → Int → Bool} {x y : D} {c : Str} (h : cmpD q x y = .ex c) : False := by
  unfold cmpD at h
  split at h <;> cases h
theorem se_chain (ha : SQ X W a f) (hb : SQ X W b g) (hc : SQ X W c h) (hm : lastMarks [.LtE, .LtE] [b, c] = false := by with_unfolding_all rfl) : SE X W (.Compare a [.LtE, .LtE] [b, c] pos) (chn f g h) :=
  PE.weak (pe_chain op_le op_le ha hb hc hm) fun σ H Q ⟨G, ρ, R, p⟩ => by
  refine ⟨G, ρ, R, ?_⟩
  revert p
  unfold chn
  cases f ρ with
  | st => exact id
  | ex c => exact id
  | ok d1 =>
    intro p x G1 H1 x1 r1
    refine ⟨G1, ρ, R.ext x1, ?_⟩
    revert p
    simp only [bd_ok]
    cases g ρ with
    | st => exact id
    | ex c => exact fun p C G' H' e m => p C G' H' (x1.trans e) m
    | ok d2 =>
      intro p y G2 H2 x2 r2
      simp only [bd_ok] at p
      cases hz : cmpD (fun i j => decide (i ≤ j)) d1 d2 with
      | st => rw [hz] at p; exact p.elim
      | ex c => exact (cmpD_ex hz).elim
      | ok z =>
        rw [hz] at p
        obtain ⟨i, j, rfl, rfl, rfl⟩ := cmpD_ok hz
        refine ⟨i, j, RepQ.int (RepQ.ext x2 r1), RepQ.int (K := X.K) (mg := X.mg) r2, _, rfl, ?_⟩
        simp only [bd_ok] at p
        cases hd : decide (i ≤ j) with
        | false =>
          rw [hd] at p
          simp only [Bool.false_eq_true, if_false]
          exact p _ G2 H2 (x1.trans x2) (.bl _)
        | true =>
          rw [hd] at p
          simp only [if_true]
          refine ⟨G2, ρ, (R.ext x1).ext x2, ?_⟩
          revert p
          simp only
          cases h ρ with
          | st => exact id
          | ex c => exact fun p C G' H' e m => p C G' H' ((x1.trans x2).trans e) m
          | ok d3 =>
            intro p w' G3 H3 x3 r3
            simp only [bd_ok] at p
            cases hw : cmpD (fun i j => decide (i ≤ j)) (.int j) d3 with
            | st => rw [hw] at p; exact p.elim
            | ex c => exact (cmpD_ex hw).elim
            | ok z2 =>
              rw [hw] at p
              obtain ⟨j2, k, e1, rfl, rfl⟩ := cmpD_ok hw
              cases e1
              exact ⟨j, k, RepQ.int (RepQ.ext x3 r2), RepQ.int (K := X.K) (mg := X.mg) r3, p _ G3 H3 ((x1.trans x2).trans x3) (.bl _)⟩
end
end Fx

set_option Elab.async false
set_option linter.all false
set_option maxRecDepth 100000
set_option maxHeartbeats 4000000
/-! Fx12: max, min; the end of a law. -/
namespace Fx
open PySem PySem.Spec PyProof.Rows L2
section
variable {X : Cx} {W : WX} {a b c e : Expr} {es : List Expr} {fs : En → Oc (List D)} {pos p : Pos}
theorem se_max2 (hc : X.calm = true) (hg : Gl X "max") (hm : X.mg "max" = none) (ha : SA X W (e :: es) fs)
    (he : starEach (e :: es) X.env = (false, eval e X.env) :: starEach es X.env := by rfl) (hpl : (backTo pos (starEach es X.env)).any (·.1) = false := by rfl) : SE X W (.Call (.Name "max" p) (e :: es) [] pos) (unA maxM fs) :=
  se_callB (call_max2 hc) hg hm (by decide +kernel) (fun {U G H vs ds Q} s r q => by
    unfold maxM at q
    split at q
    · cases r with
      | cons r1 r => cases r with
        | cons r2 r => cases r; cases r1; cases r2; exact ⟨_, _, rfl, q.here s (.int _)⟩
    · exact q.elim) ha (by decide) (by decide) he hpl
theorem se_min2 (hc : X.calm = true) (hg : Gl X "min") (hm : X.mg "min" = none) (ha : SA X W (e :: es) fs)
    (he : starEach (e :: es) X.env = (false, eval e X.env) :: starEach es X.env := by rfl) (hpl : (backTo pos (starEach es X.env)).any (·.1) = false := by rfl) : SE X W (.Call (.Name "min" p) (e :: es) [] pos) (unA minM fs) :=
  se_callB (call_min2 hc) hg hm (by decide +kernel) (fun {U G H vs ds Q} s r q => by
    unfold minM at q
    split at q
    · cases r with
      | cons r1 r => cases r with
        | cons r2 r => cases r; cases r1; cases r2; exact ⟨_, _, rfl, q.here s (.int _)⟩
    · exact q.elim) ha (by decide) (by decide) he hpl
end
section
variable {X : Cx} {W : WX} {x : Str} {p : Pos}
theorem se_cS {z : Str} (hg : Gl X x) (h : ∃ t, X.mg x = some (.str z t)) (hdb : (x == ("__debug__" : Str)) = false := by decide) : SE X W (.Name x p) (cst (.str z)) := by
  obtain ⟨t, h⟩ := h
  exact se_cst (pe_glob (v := .str z) hg h ⟨t, rfl⟩ (hd := hdb)) fun _ => .str _
theorem se_cI {i : Int} (hg : Gl X x) (h : ∃ t, X.mg x = some (.int i t)) (hdb : (x == ("__debug__" : Str)) = false := by decide) : SE X W (.Name x p) (cst (.int i)) := by
  obtain ⟨t, h⟩ := h
  exact se_cst (pe_glob (v := .int i) hg h ⟨t, rfl⟩ (hd := hdb)) fun _ => .int _
end
/-! ### the end -/
theorem tabAll_ok {tf : List He.Defn} {K : PySem.W.Frag} (h : tabAll tf K = true) {c P : Addr} (h1 : PySem.W.codeHdIn K c P = true) (h2 : K.lookup P = none) : (c, P) ∈ tf.map (He.cT K) := by
  unfold PySem.W.codeHdIn at h1
  split at h1
  · rename_i vs _ hk
    simp only [Bool.and_eq_true] at h1
    obtain ⟨⟨⟨⟨⟨e1, _⟩, _⟩, _⟩, _⟩, _⟩ := h1
    split at e1
    · rename_i P' hP
      obtain rfl : P' = P := beq_iff_eq.mp e1
      have z := List.all_eq_true.mp h _ (He.lookup_mem hk)
      simp only [hP, h2, Option.isSome_none, Bool.false_or] at z
      exact List.contains_iff_mem.mp z
    · cases e1
  · cases h1
def spLawT (K : PySem.W.Frag) : Sp := fun vs H Q _ => ∃ (a : Addr) (ns : List Int), vs = [.ref a] ∧ SqL K H a (ns.map V.int) ∧ ns.length ≤ 63 ∧ (∀ P, IsTab K P → H P = some (.tbl #[])) ∧ ∀ H', Q (.bl true) H'
theorem repL_intsT {K : PySem.W.Frag} {mg : Str → Option Value} {G : Hp} : ∀ ns : List Int, RepL K mg ww G (ns.map V.int) (ns.map D.int)
  | [] => .nil
  | n :: ns => .cons (.int n) (repL_intsT ns)
theorem law_impT {K : PySem.W.Frag} {mg : Str → Option Value} {F : List D → Oc D} (hF : ∀ ns : List Int, ns.length ≤ 63 → F [.fz (ns.map .int)] = .ok (.bl true)) (vs : List V) (H : Hp) (Q : VK) (E : XK) (h : spLawT K vs H Q E) : spF K mg ww 1 F vs H Q E := by
  obtain ⟨a, ns, rfl, hS, hl, ht, q⟩ := h
  let G : Hp := fun b => match H b with
    | some (HO.lst xs) => some (HO.lst xs)
    | some (HO.frz o u) => some (HO.frz o u)
    | _ => none
  have sG : Vw G H := fun b o e => by
    have e : (match H b with | some (HO.lst xs) => some (HO.lst xs) | some (HO.frz o u) => some (HO.frz o u) | _ => none) = some o := e
    split at e
    · rename_i q; cases e; exact q
    · rename_i q; cases e; exact q
    · cases e
  have tG : Tabs K G H := fun P hP => by
    have e := ht P hP
    refine ⟨⟨#[], e, True.intro, fun pos cv q _ z => by
      have z : codeAmong pos [] = some cv := z
      simp [codeAmong] at z⟩, ?_⟩
    show (match H P with | some (HO.lst xs) => some (HO.lst xs) | some (HO.frz o u) => some (HO.frz o u) | _ => none) = none
    rw [e]
  have hSG : SqL K G a (ns.map V.int) := by
    rcases hS with (h | ⟨o, h⟩) | h
    · refine .inl (.inl ?_)
      show (match H a with | some (HO.lst xs) => some (HO.lst xs) | some (HO.frz o u) => some (HO.frz o u) | _ => none) = _
      rw [h]
    · refine .inl (.inr ⟨o, ?_⟩)
      show (match H a with | some (HO.lst xs) => some (HO.lst xs) | some (HO.frz o u) => some (HO.frz o u) | _ => none) = _
      rw [h]
    · exact .inr h
  refine ⟨rfl, G, [.fz (ns.map .int)], sG, tG, .cons (.fz hSG (repL_intsT ns)) .nil, ?_⟩
  rw [hF ns hl]
  intro v G' H' x r
  cases r
  exact q H'
theorem code_of {K : PySem.W.Frag} {x qual : Str} {pa : Arguments} {bd : List Stmt} {sc : Scope} {dvs : List V} {kws : List (Str × V)} {p : He.Defn} {fd : FuncData} (F : FunD K x qual pa bd sc dvs kws (He.fAd K p) fd) : fd.code = .ref (He.codeOf K p) := by
  obtain ⟨oc, od, dV, kV, doc, pm, an, cdv, ct, osl, rfl, lk, hcd, _, _⟩ := F.ex
  obtain ⟨c, rfl⟩ := He.codeIn_ref hcd
  rw [He.codeOf_eq lk rfl]
theorem law_atT {l : PySem.W.OpenLaw} {w : World} {K : PySem.W.Frag} {mg : Str → Option Value} {fa : Addr} {h : Heap} {fas : List He.Fa} {fns : List He.DefD} {tf : List He.Defn} {k : Nat} {x : Str} {fd : FuncData} {F : List D → Oc D} (KX : K.In h) (c : He.SaysX fas fns [] tf (tabAll tf) w h K)
    (hb : ∀ (s : Shared) (u : Value), BindsTo s fd ⟨[u], []⟩ [(x, u)]) (hF : ∀ ns : List Int, ns.length ≤ 63 → F [.fz (ns.map .int)] = .ok (.bl true))
    (ok : ∀ base : Heap, K.In base → base.Ns mainGlobals mg → Tbs K mg base → FnOk l.prog w K mg base (L2.CX l.prog w) k fa fd [x] (spF K mg w 1 F)) : LamX.LawAtS l w K (L2.CX l.prog w) k 63 x mg fa h := by
  have mem : ∀ {q : Addr × Addr}, q ∈ tf.map (He.cT K) → ∃ p ∈ tf, He.cT K p = q := fun {q} hq => List.mem_map.mp hq
  refine ⟨fd, tf.map (He.cT K), spLawT K, fun q hq => ?_, fun q hq => ?_, fun q hq => ?_, hb, fun H a ns hl _ hT hS => ⟨a, ns, rfl, hS, hl, fun P hP => ?_, fun _ => rfl⟩, fun base KB NB TB => ?_⟩
  · obtain ⟨p, hp, rfl⟩ := mem hq; exact c.empty p hp
  · obtain ⟨p, hp, rfl⟩ := mem hq; exact c.out p hp
  · obtain ⟨p, hp, rfl⟩ := mem hq; exact PySem.W.codeHd_of_K KX (c.hd p hp)
  · obtain ⟨h2, cc, h1⟩ := hP
    exact hT _ (tabAll_ok c.more h1 h2)
  · exact (ok base KB NB fun cc P h1 h2 => (let t := TB _ (tabAll_ok c.more h1 h2); ⟨t.code, t.bm, t.gP⟩)).imp fun vs H Q E h => law_impT hF vs H Q E h
end Fx

set_option Elab.async false
set_option linter.all false
set_option maxRecDepth 100000
set_option maxHeartbeats 4000000
/-! Fx13: evaluation of the later combinators. -/
namespace Fx
open PySem PySem.Spec PyProof.Rows L2
@[simp] theorem outF_rt (ds : List D) : outF (.ok (.rt (.lst ds))) = .ok (.lst ds) := id rfl
@[simp] theorem outF_ex (c : Str) : outF (.ex c) = .ex c := id rfl
@[simp] theorem fnF_ap (n m : Nat) (g : En → Oc Res) (ds : List D) : fnF n m g ds = chk (decide (ds.length = m)) (outF (g (ds.map .sh ++ List.replicate (n - m) .no))) := id rfl
def retOR : Option Sl → Oc Res
  | some (.ow d) => .ok (.rt d)
  | _ => .st
@[simp] theorem retO_ap (i : Nat) (ρ : En) : retO i ρ = retOR ρ[i]? := by
  unfold retO retOR
  split <;> first | rfl | (split <;> simp_all)
@[simp] theorem retOR_ow (d : D) : retOR (some (.ow d)) = .ok (.rt d) := id rfl
@[simp] theorem unA_ap (F : List D → Oc D) (fs : En → Oc (List D)) (ρ : En) : unA F fs ρ = bd (fs ρ) F := id rfl
@[simp] theorem maxM_ints (i j : Int) : maxM [.int i, .int j] = .ok (.int (if j > i then j else i)) := id rfl
@[simp] theorem minM_ints (i j : Int) : minM [.int i, .int j] = .ok (.int (if j < i then j else i)) := id rfl
@[simp] theorem rsx_ap (c : Str) (ρ : En) : rsx c ρ = .ex c := id rfl
@[simp] theorem ga_ap (T : Tg) (own : List Nat) (neg : Bool) (src : En → Oc (List D)) (el : En → Oc D) (ρ : En) : ga T own neg src el ρ = bd (src ρ) fun ds => gaL T own neg el ρ ds := id rfl
def chnR (h : En → Oc D) (ρ : En) (y : D) : Oc D → Oc D
  | .ok (.bl true) => bd (h ρ) fun w => cmpD (fun i j => decide (i ≤ j)) y w
  | .ok (.bl false) => .ok (.bl false)
  | .ex c => .ex c
  | _ => .st
theorem chn_ints {f g h : En → Oc D} {ρ : En} {i j k : Int} (h1 : f ρ = .ok (.int i)) (h2 : g ρ = .ok (.int j)) (h3 : h ρ = .ok (.int k)) : chn f g h ρ = .ok (.bl (decide (i ≤ j) && decide (j ≤ k))) := by
  unfold chn
  simp only [h1, h2, h3, bd_ok, cmpD_int]
  cases decide (i ≤ j) <;> rfl
theorem gaL_all {T : Tg} {own : List Nat} {el : En → Oc D} {ρ : En} {α : Type} {f : α → D} {p : α → Bool} : ∀ {xs : List α}, (∀ x ∈ xs, ∃ ρ1, bindT T (f x) (wipeE ρ own) = .ok ρ1 ∧ el ρ1 = .ok (.bl (p x))) → gaL T own false el ρ (xs.map f) = .ok (.bl (xs.all p))
  | [], _ => rfl
  | x :: xs, h => by
    obtain ⟨ρ1, h1, h2⟩ := h x List.mem_cons_self
    rw [List.map_cons]
    unfold gaL
    rw [h1, noex_ok, bd_ok, h2, noex_ok, bd_ok]
    simp only [List.all_cons]
    cases p x with
    | false => rfl
    | true => exact gaL_all fun y hy => h y (List.mem_cons_of_mem _ hy)
theorem gaL_any {T : Tg} {own : List Nat} {el : En → Oc D} {ρ : En} {α : Type} {f : α → D} {p : α → Bool} : ∀ {xs : List α}, (∀ x ∈ xs, ∃ ρ1, bindT T (f x) (wipeE ρ own) = .ok ρ1 ∧ el ρ1 = .ok (.bl (p x))) → gaL T own true el ρ (xs.map f) = .ok (.bl (xs.any p))
  | [], _ => rfl
  | x :: xs, h => by
    obtain ⟨ρ1, h1, h2⟩ := h x List.mem_cons_self
    rw [List.map_cons]
    unfold gaL
    rw [h1, noex_ok, bd_ok, h2, noex_ok, bd_ok]
    simp only [List.any_cons]
    cases p x with
    | true => rfl
    | false => exact gaL_any fun y hy => h y (List.mem_cons_of_mem _ hy)
def exsAR (g : En → Oc D) (ρ : En) : Oc D → Oc Res
  | .ok (.lst ds) => bd (g ρ) fun _ => chk (decide (ds.length < sizeLine)) (.ok (.nx ρ))
  | .ex c => .ex c
  | _ => .st
@[simp] theorem exsA_ap (f g : En → Oc D) (ρ : En) : exsA f g ρ = exsAR g ρ (f ρ) := by
  unfold exsA exsAR
  cases f ρ with
  | st => rfl
  | ex c => rfl
  | ok d => cases d <;> rfl
@[simp] theorem exsAR_lst (g : En → Oc D) (ρ : En) (ds : List D) : exsAR g ρ (.ok (.lst ds)) = bd (g ρ) fun _ => chk (decide (ds.length < sizeLine)) (.ok (.nx ρ)) := id rfl
@[simp] theorem countM_strs (k : Str) (ys : List Str) : countM (.lst (ys.map .str)) [.str k] = .ok (.int (countIn (.str k) (ys.map PyData.str))) := by
  have e : strsD (ys.map D.str) = some ys := by
    induction ys with
    | nil => rfl
    | cons y ys ih => simp [strsD, ih]
  unfold countM
  simp only [e]
end Fx

set_option Elab.async false
set_option linter.all false
set_option maxRecDepth 100000
set_option maxHeartbeats 4000000
/-! Fx14: try .. except. -/
namespace Fx
open PySem PySem.Spec PyProof.Rows L2
variable {K : PySem.W.Frag} {mg : Str → Option Value} {ww : World}
def ExmK (K : PySem.W.Frag) (mg : Str → Option Value) (nm c : Str) (b : Bool) : Prop := ∀ C C', mg c = some (.ref C) → mg nm = some (.ref C') → PySem.W.exmOne K (.ref C) (.ref C') = some b
def tryO (cs ns : List Str) (f : En → Oc D) (gs : En → Oc Res) : En → Oc Res := fun ρ => match f ρ with
  | .st => .st
  | .ok _ => .ok (.nx ρ)
  | .ex c => if c ∈ cs then (match gs ρ with | .ex _ => .st | o => o) else if c ∈ ns then .ex c else .st
section
variable {X : Cx} {U : XK} {fre : Fr} {e : Expr} {suite : List Stmt} {b₀ : Stmt} {f : En → Oc D} {gs : En → Oc Res} {pos pos2 np pos' : Pos} {nm : Str} {cs ns : List Str} {C : Addr}
theorem ss_tryO (Cx : Ctx X (up U)) (hs : X.stack = X.env :: X.outer) (hf : X.env.frame = some X.env.locals) (hC : X.mg nm = some (.ref C)) (hg : Gl X nm) (hdb : (nm == ("__debug__" : Str)) = false)
    (h1 : ∀ c ∈ cs, ExmK X.K X.mg nm c true) (h2 : ∀ c ∈ ns, ExmK X.K X.mg nm c false)
    (hb : ∀ (W : WX) (pn : List (Addr × Obj)) (xe : Value → Shared → Prop), Ctx (X.tr pn xe) W → SE (X.tr pn xe) W e f)
    (hsw : swapsWith e none pos2.line X.env = pure false)
    (hsu : ∀ (a : Addr) (pn : List (Addr × Obj)), SSs (X.suite a pn) (fun _ _ _ => False) fre (b₀ :: suite) gs) :
    SS X U fre (.Try [.Expr e pos2] [.ExceptHandler (some (.Name nm np)) none (b₀ :: suite) pos'] [] [] pos) (tryO cs ns f gs) :=
  PS.weak (ps_try_only (tb := fun W => tDrop (tE X.K X.mg X.w W f)) (ts := fun _ _ _ => tS X.K X.mg X.w (fun _ _ _ => False) fre gs) hs hf ⟨hg, hdb, .inl hC⟩ Cx.tk (fun W pn xe tk _ => pss_one (ps_expr (hb W pn xe ⟨Cx.calm, Cx.nd, tk, Cx.units⟩) hsw)) (fun a oe _ _ pn _ _ => hsu a _)) fun D σ H ⟨G, ρ, me, G0, H0, B, p⟩ => by
  refine ⟨G, ρ, B.rel, ?_⟩
  revert p
  unfold tryO
  cases f ρ with
  | st => exact id
  | ok d => exact fun p v G' H' x r => p σ G' H' (B.step x)
  | ex c =>
    simp only
    intro p C1 G' H' x m
    split at p
    · rename_i hc
      refine ⟨true, h1 c hc _ _ m hC, fun _ a ha => ⟨G', ρ, me, G0, H0, B.step x, ?_⟩, fun z => by cases z⟩
      revert p
      cases gs ρ with
      | st => exact id
      | ex c => exact fun p => p.elim
      | ok r => cases r <;> exact id
    · split at p
      · rename_i hn
        exact ⟨false, h2 c hn _ _ m hC, (fun z => by cases z), fun _ => p C1 G' H' (B.ext.trans x) m⟩
      · exact p.elim
end
end Fx

set_option Elab.async false
set_option linter.all false
set_option maxRecDepth 100000
set_option maxHeartbeats 4000000
/-! Fx15: x = e under try, except C as n. -/
namespace Fx
open PySem PySem.Spec PyProof.Rows L2
variable {K : PySem.W.Frag} {mg : Str → Option Value} {ww : World} {me : Addr}
theorem Rel.setE {G H : Hp} {ρ : En} {σ : L2.St} (R : Rel K mg ww G H ρ σ) (i : Nat) (q : Addr) : Rel K mg ww G H (ρ.set i (.exn q)) (σ.set i (some (.ref q))) := by
  refine ⟨R.sub, R.tabs, by simp [R.len], fun j s o h1 h2 => ?_, fun j k a d' e' h1 h2 h3 h4 => ?_⟩
  · by_cases hj : i = j
    · subst hj
      have hi : i < (ρ.set i (.exn q)).length := (List.getElem?_eq_some_iff.mp h1).1
      have hr : i < ρ.length := by simpa using hi
      rw [List.getElem?_set_self hr] at h1
      rw [List.getElem?_set_self (by rw [R.len]; exact hr)] at h2
      cases h1; cases h2
      exact rfl
    · rw [List.getElem?_set_ne hj] at h1 h2
      exact R.at_ j s o h1 h2
  · have nj : ∀ {m : Nat} {y : D}, (ρ.set i (.exn q))[m]? = some (.ow y) → i ≠ m := fun {m y} h e => by
      subst e
      have hi : i < (ρ.set i (.exn q)).length := (List.getElem?_eq_some_iff.mp h).1
      rw [List.getElem?_set_self (by simpa using hi)] at h
      cases h
    have n1 := nj h1
    have n2 := nj h2
    rw [List.getElem?_set_ne n1] at h1 h3
    rw [List.getElem?_set_ne n2] at h2 h4
    exact R.apart j k a d' e' h1 h2 h3 h4
theorem Bs.setE {G0 H0 G H : Hp} {ρ : En} {σ : L2.St} (B : Bs K mg ww me G0 H0 G H ρ σ) (i : Nat) (q : Addr) : Bs K mg ww me G0 H0 G H (ρ.set i (.exn q)) (σ.set i (some (.ref q))) := by
  have key : ∀ {j : Nat} {e : D}, (ρ.set i (.exn q))[j]? = some (.ow e) → i ≠ j ∧ ρ[j]? = some (.ow e) := fun {j e} h1 => by
    by_cases hj : i = j
    · subst hj
      have hi : i < (ρ.set i (.exn q)).length := (List.getElem?_eq_some_iff.mp h1).1
      rw [List.getElem?_set_self (by simpa using hi)] at h1
      cases h1
    · rw [List.getElem?_set_ne hj] at h1
      exact ⟨hj, h1⟩
  refine ⟨B.rel.setE i q, B.ext, fun j a d' h1 h2 => ?_, fun j c ds h1 => ?_⟩
  · obtain ⟨k1, k2⟩ := key h1
    rw [List.getElem?_set_ne k1] at h2
    exact B.own j a d' k2 h2
  · obtain ⟨k1, k2⟩ := key h1
    rw [List.getElem?_set_ne k1]
    exact B.self j c ds k2
open Classical in
noncomputable def tryA (i j : Nat) (cs ns : List Str) (f : En → Oc D) (gs : Addr → En → Oc Res) : En → Oc Res := fun ρ => match f ρ with
  | .st => .st
  | .ok d => .ok (.nx (ρ.set i (.sh d)))
  | .ex c => if c ∈ cs then (if h : ∃ d, ∀ a, gs a (ρ.set j (.exn a)) = .ok (.rt d) then .ok (.rt h.choose) else .st) else if c ∈ ns then .ex c else .st
section
variable {X : Cx} {U : XK} {fre : Fr} {e : Expr} {suite : List Stmt} {b₀ : Stmt} {f : En → Oc D} {gs : Addr → En → Oc Res} {pos pos2 np pos' py : Pos} {nm x n : Str} {cs ns : List Str} {C : Addr} {i j : Nat}
theorem ss_tryA (Cx : Ctx X (up U)) (hs : X.stack = X.env :: X.outer) (hf : X.env.frame = some X.env.locals) (hC : X.mg nm = some (.ref C)) (hg : Gl X nm) (hdb : (nm == ("__debug__" : Str)) = false)
    (hi : X.N[i]? = some x) (hx : Loc X.env.scope x) (hxf : X.fn x = true ∨ X.env.scope.names.lookup x = some .local) (hj : X.N[j]? = some n) (hln : X.env.kindOf n = some .local)
    (h1 : ∀ c ∈ cs, ExmK X.K X.mg nm c true) (h2 : ∀ c ∈ ns, ExmK X.K X.mg nm c false)
    (hb : ∀ (W : WX) (pn : List (Addr × Obj)) (xe : Value → Shared → Prop), Ctx (X.tr pn xe) W → SE (X.tr pn xe) W e f)
    (hsw : swapsWith e (some (.Name x py)) pos2.line X.env = pure false)
    (hsu : ∀ (a : Addr) (oe : Obj) (c : Str) (C1 : Addr) (pn : List (Addr × Obj)), c ∈ cs → X.mg c = some (.ref C1) → Zc (.ref C1) none oe → (∃ vs, oe.data = .fields vs) → SSs (X.suite a ((a, oe) :: pn)) (fun _ _ _ => False) fre (b₀ :: suite) (gs a)) :
    SS X U fre (.Try [.Assign [.Name x py] e pos2] [.ExceptHandler (some (.Name nm np)) (some n) (b₀ :: suite) pos'] [] [] pos) (tryA i j cs ns f gs) :=
  PS.weak (ps_try_as (tb := fun W => tAsg (tE X.K X.mg X.w W f) (gName i)) (ts := fun a cls d D σ H => (∃ c C1, c ∈ cs ∧ X.mg c = some (.ref C1) ∧ cls = .ref C1 ∧ d = none) ∧ tS X.K X.mg X.w (fun _ _ _ => False) fre (gs a) D σ H) hs hf Cx.nd hj hln ⟨hg, hdb, .inl hC⟩ Cx.tk
    (fun W pn xe tk _ => pss_one (ps_set (X := X.tr pn xe) Cx.nd hi hx (hb W pn xe ⟨Cx.calm, Cx.nd, tk, Cx.units⟩) hsw hxf)) (fun a oe cls d pn hz hv => ⟨fun pins s σ H D I h => by
      obtain ⟨⟨c, C1, h1, h2, h3, h4⟩, h5⟩ := h
      subst h3 h4
      exact (hsu a oe c C1 pn h1 h2 hz hv).run pins s σ H D I h5⟩)) fun D σ H ⟨G, ρ, me, G0, H0, B, p⟩ => by
  refine ⟨G, ρ, B.rel, ?_⟩
  revert p
  unfold tryA
  cases f ρ with
  | st => exact id
  | ok d => exact fun p v G' H' x r => p _ G' H' ((B.step x).set i r)
  | ex c =>
    simp only
    intro p C1 G' H' x m
    split at p
    · rename_i hc
      split at p
      · rename_i hd
        refine ⟨true, h1 c hc _ _ m hC, fun _ a ha => ⟨⟨c, C1, hc, m, rfl, rfl⟩, G', _, me, G0, H0, (B.step x).setE j a, ?_⟩, fun z => by cases z⟩
        rw [hd.choose_spec a]
        cases fre <;> exact p
      · exact p.elim
    · split at p
      · rename_i hn
        exact ⟨false, h2 c hn _ _ m hC, (fun z => by cases z), fun _ => p C1 G' H' (B.ext.trans x) m⟩
      · exact p.elim
end
end Fx

set_option Elab.async false
set_option linter.all false
set_option maxRecDepth 100000
set_option maxHeartbeats 4000000
/-! Fx16: list(range(n)). -/
namespace Fx
open PySem PySem.Spec PyProof.Rows L2
variable {K : PySem.W.Frag} {mg : Str → Option Value} {ww : World}
def rgD (n : Int) : List D := (List.range n.toNat).map fun i => .int (i : Nat)
def lrg (f : En → Oc D) : En → Oc D := fun ρ => bd (f ρ) fun d => match d with
  | .int n => chk (decide (-1000 ≤ n ∧ n ≤ 16777216)) (.ok (.lst (rgD n)))
  | _ => .st
theorem repl_rg {G : Hp} (n : Int) : RepL K mg ww G (rgV 0 n) (rgD n) := by
  have key : ∀ l : List Nat, RepL K mg ww G (l.map fun i => V.int (0 + (i : Nat))) (l.map fun i => D.int (i : Nat)) := fun l => by
    induction l with
    | nil => exact .nil
    | cons i l ih => exact .cons (by show Rep K mg ww G (.int (0 + (i : Int))) (.int (i : Int)); rw [Int.zero_add]; exact .int _) ih
  unfold rgV rgD
  rw [Int.sub_zero]
  exact key _
section
variable {X : Cx} {W : WX} {e : Expr} {f : En → Oc D} {p p2 pos pos2 : Pos}
theorem sf_listRg (hc : X.calm = true) (hgl : Gl X "list") (hml : X.mg "list" = none) (hg : Gl X "range") (hm : X.mg "range" = none) (he : SE X W e f)
    (na : starEach [e] X.env = (false, eval e X.env) :: starEach [] X.env := by rfl)
    (na2 : starEach [.Call (.Name "range" p) [e] [] pos] X.env = (false, eval (.Call (.Name "range" p) [e] [] pos) X.env) :: starEach [] X.env := by rfl) :
    SF X W (.Call (.Name "list" p2) [.Call (.Name "range" p) [e] [] pos] [] pos2) (lrg f) :=
  PE.weak (pe_listRg hc hgl hml (prg_1 hg hm he na) na2) fun σ H Q ⟨G, ρ, R, q⟩ => by
  refine ⟨G, ρ, R, ?_⟩
  revert q
  unfold lrg
  cases f ρ with
  | st => exact id
  | ex c => exact id
  | ok d =>
    intro q v G1 H1 x1 r1
    simp only [bd_ok] at q
    cases d with
    | int n =>
      cases r1
      have q2 := chk_some (P := PostF X.K X.mg X.w (fun c d H' => W c d σ H') G H Q) (fun z => z) q
      have hn := of_decide_eq_true q2.1
      refine ⟨n, rfl, ⟨by omega, by omega, by omega, by omega, by omega⟩, fun a ha => ?_⟩
      exact q2.2 a G1 _ (x1.trans (.newH x1.gh ha)) (x1.hh.free ha) (by exact (x1.gh.free ha)) ⟨rgV 0 n, upd_same, repl_rg n⟩
    | _ => exact q.elim
end
end Fx

set_option Elab.async false
set_option linter.all false
set_option maxRecDepth 100000
set_option maxHeartbeats 4000000
/-! Fx17: isinstance(e, C) of a caught exception. -/
namespace Fx
open PySem PySem.Spec PyProof.Rows L2
def isE (a : Addr) (j : Nat) (b : Bool) : En → Oc D := fun ρ => match ρ[j]? with
  | some (.exn q) => chk (decide (q = a)) (.ok (.bl b))
  | _ => .st
section
variable {X : Cx} {W : WX} {a D C2 : Addr} {oe : Obj} {pn : List (Addr × Obj)} {b : Bool} {j : Nat} {n nm : Str} {p p1 p2 pos : Pos}
theorem se_isE (EC : ExcC X.K D) (hz : Zc (.ref D) none oe) (hf : ∃ vs, oe.data = .fields vs) (hg : Gl (X.suite a ((a, oe) :: pn)) "isinstance") (hm : X.mg "isinstance" = none) (hgx : Gl (X.suite a ((a, oe) :: pn)) nm) (hmx : X.mg nm = some (.ref C2)) (hdb : (nm == ("__debug__" : Str)) = false)
    (hk : PySem.W.kitOne X.K (.ref D) (.ref C2) = some b) (hv : PE (X.suite a ((a, oe) :: pn)) (.Name n p1) (tVar j))
    (he : starEach [.Name n p1, .Name nm p2] X.env = (false, eval (.Name n p1) X.env) :: starEach [.Name nm p2] X.env := by rfl) (he2 : starEach [.Name nm p2] X.env = (false, eval (.Name nm p2) X.env) :: starEach [] X.env := by rfl) (hpl : (backTo pos (starEach [.Name nm p2] X.env)).any (·.1) = false := by rfl) :
    SE (X.suite a ((a, oe) :: pn)) W (.Call (.Name "isinstance" p) [.Name n p1, .Name nm p2] [] pos) (isE a j b) :=
  PE.weak (pe_callB (call_isE EC hz hf) hg hm (by decide +kernel) (pa_cons hv (pa_cons (pe_glob hgx hmx (v := .ref C2) rfl hdb) pa_nil he2) he) (by decide) (by decide) he hpl) fun σ H Q ⟨G, ρ, R, q⟩ => by
  revert q
  unfold isE
  cases e : ρ[j]? with
  | none => exact False.elim
  | some s =>
    cases s with
    | no => exact False.elim
    | sh d => exact False.elim
    | ow d => exact False.elim
    | fn _ _ _ => exact False.elim
    | ls _ _ => exact False.elim
    | exn q0 =>
      intro q
      simp only at q
      have q2 := chk_some (P := PostE X.K X.mg X.w (fun c d H' => W c d σ H') G H Q) (fun z => z) q
      have hq := of_decide_eq_true q2.1
      subst hq
      obtain ⟨o, ho, h1⟩ := R.get e
      subst h1
      exact ⟨.ref q0, ho, .ref C2, .ref C2, b, rfl, (fun u hu => hu), hk, q2.2 _ G H (.refl R.sub) (.bl _)⟩
end
end Fx

set_option Elab.async false
set_option linter.all false
set_option maxRecDepth 100000
set_option maxHeartbeats 4000000
/-! Fx18: facts about exception classes, read off the head; the end with them. -/
namespace Fx
open PySem PySem.Spec PyProof.Rows L2
variable {K : PySem.W.Frag} {mg : Str → Option Value} {ww : World}
def ExcCK (K : PySem.W.Frag) (mg : Str → Option Value) (c : Str) : Prop := ∀ C, mg c = some (.ref C) → ExcC K C
def KitK (K : PySem.W.Frag) (mg : Str → Option Value) (c d : Str) (b : Bool) : Prop := ∀ C C2, mg c = some (.ref C) → mg d = some (.ref C2) → PySem.W.kitOne K (.ref C) (.ref C2) = some b
theorem excCB_ok {D : Addr} (h : excCB K D = true) : ExcC K D := by
  unfold excCB at h
  simp only [Bool.and_eq_true, decide_eq_true_eq] at h
  obtain ⟨h1, h2, h3, h4, h5, h6, h7, h8⟩ := h
  exact ⟨h1, h2, h3, h4, h5, h6, h7, h8⟩
theorem chkX_tab {tf : List He.Defn} {es : List Str} {ks : List (Str × Str × Bool)} (h : chkX tf es ks K = true) : tabAll tf K = true := by
  unfold chkX at h
  rw [Bool.and_eq_true] at h
  exact h.1
theorem chkX_exc {tf : List He.Defn} {es : List Str} {ks : List (Str × Str × Bool)} (h : chkX tf es ks K = true) {c : Str} (i : Nat) (hc : es[i]? = some c) (hg : mg c = some (.ref (He.ga K c))) : ExcCK K mg c := by
  unfold chkX at h
  rw [Bool.and_eq_true, Bool.and_eq_true] at h
  intro C hC
  have e := hC.symm.trans hg
  cases e
  exact excCB_ok (List.all_eq_true.mp h.2.1 c (List.mem_of_getElem? hc))
theorem chkX_kit {tf : List He.Defn} {es : List Str} {ks : List (Str × Str × Bool)} (h : chkX tf es ks K = true) {c d : Str} {b : Bool} (i : Nat) (hc : ks[i]? = some (c, d, b)) (hg : mg c = some (.ref (He.ga K c))) (hd : mg d = some (.ref (He.ga K d))) : KitK K mg c d b := by
  unfold chkX at h
  rw [Bool.and_eq_true, Bool.and_eq_true] at h
  intro C C2 hC hC2
  have e := hC.symm.trans hg
  cases e
  have e2 := hC2.symm.trans hd
  cases e2
  exact of_decide_eq_true (List.all_eq_true.mp h.2.2 (c, d, b) (List.mem_of_getElem? hc))
theorem exmK_of {x y : Str} {b : Bool} (c : (He.Fa.exm x y b).ok K = true) (hg : mg x = some (.ref (He.ga K x))) (hd : mg y = some (.ref (He.ga K y))) : ExmK K mg y x b := by
  intro C C' hC hC'
  have e := hC.symm.trans hg
  cases e
  have e2 := hC'.symm.trans hd
  cases e2
  exact He.exm_ok c
theorem law_atX {l : PySem.W.OpenLaw} {w : World} {K : PySem.W.Frag} {mg : Str → Option Value} {fa : Addr} {h : Heap} {fas : List He.Fa} {fns : List He.DefD} {tf : List He.Defn} {es : List Str} {ks : List (Str × Str × Bool)} {k : Nat} {x : Str} {fd : FuncData} {F : List D → Oc D} (KX : K.In h) (c : He.SaysX fas fns [] tf (chkX tf es ks) w h K)
    (hb : ∀ (s : Shared) (u : Value), BindsTo s fd ⟨[u], []⟩ [(x, u)]) (hF : ∀ ns : List Int, ns.length ≤ 63 → F [.fz (ns.map .int)] = .ok (.bl true))
    (ok : ∀ base : Heap, K.In base → base.Ns mainGlobals mg → Tbs K mg base → FnOk l.prog w K mg base (L2.CX l.prog w) k fa fd [x] (spF K mg w 1 F)) : LamX.LawAtS l w K (L2.CX l.prog w) k 63 x mg fa h :=
  law_atT KX ⟨c.t, chkX_tab c.more, c.hd, c.out, c.empty⟩ hb hF ok
end Fx

set_option Elab.async false
set_option linter.all false
set_option maxRecDepth 100000
set_option maxHeartbeats 4000000
/-! Fx19: evaluation of try, list(range), isinstance of an exception. -/
namespace Fx
open PySem (Str)
theorem tryO_ok {cs ns : List Str} {f : En → Oc D} {gs : En → Oc Res} {ρ : En} {d : D} (h : f ρ = .ok d) : tryO cs ns f gs ρ = .ok (.nx ρ) := by
  unfold tryO; rw [h]
theorem tryO_ex {cs ns : List Str} {f : En → Oc D} {gs : En → Oc Res} {ρ : En} {c : Str} {r : Res} (h : f ρ = .ex c) (hc : c ∈ cs) (hg : gs ρ = .ok r) : tryO cs ns f gs ρ = .ok r := by
  unfold tryO; rw [h]; simp only [hc, if_true, hg]
theorem tryA_ok {i j : Nat} {cs ns : List Str} {f : En → Oc D} {gs : Nat → En → Oc Res} {ρ : En} {d : D} (h : f ρ = .ok d) : tryA i j cs ns f gs ρ = .ok (.nx (ρ.set i (.sh d))) := by
  unfold tryA; rw [h]
theorem tryA_ex {i j : Nat} {cs ns : List Str} {f : En → Oc D} {gs : Nat → En → Oc Res} {ρ : En} {c : Str} {d : D} (h : f ρ = .ex c) (hc : c ∈ cs) (hg : ∀ a, gs a (ρ.set j (.exn a)) = .ok (.rt d)) : tryA i j cs ns f gs ρ = .ok (.rt d) := by
  unfold tryA; rw [h]
  have hx : ∃ d, ∀ a, gs a (ρ.set j (.exn a)) = .ok (.rt d) := ⟨d, hg⟩
  simp only [hc, if_true, hx, dif_pos]
  have := hx.choose_spec 0
  rw [hg 0] at this
  exact this.symm
def isER (a : Nat) (b : Bool) : Option Sl → Oc D
  | some (.exn q) => chk (decide (q = a)) (.ok (.bl b))
  | _ => .st
@[simp] theorem isE_ap (a j : Nat) (b : Bool) (ρ : En) : isE a j b ρ = isER a b ρ[j]? := by
  unfold isE isER
  rcases ρ[j]? with _ | s
  · rfl
  · cases s <;> rfl
@[simp] theorem isER_exn (a : Nat) (b : Bool) : isER a b (some (.exn a)) = .ok (.bl b) := by
  simp [isER]
def lrgR : D → Oc D
  | .int n => chk (decide (-1000 ≤ n ∧ n ≤ 16777216)) (.ok (.lst (rgD n)))
  | _ => .st
@[simp] theorem lrg_ap (f : En → Oc D) (ρ : En) : lrg f ρ = bd (f ρ) lrgR := by
  unfold lrg
  cases f ρ with
  | ok d => cases d <;> rfl
  | st => rfl
  | ex c => rfl
@[simp] theorem lrgR_int (n : Int) : lrgR (.int n) = chk (decide (-1000 ≤ n ∧ n ≤ 16777216)) (.ok (.lst (rgD n))) := id rfl
end Fx

set_option Elab.async false
set_option linter.all false
set_option maxRecDepth 100000
set_option maxHeartbeats 4000000
/-! Fx20: sets and dicts of the def's own. -/
namespace Fx
open PySem PySem.Spec PyProof.Rows L2 Sx
variable {K : PySem.W.Frag} {mg : Str → Option Value} {ww : World}
section
variable {X : Cx} {pins : List (Addr × Obj)} {σ : L2.St} {G H : Hp} {s : Shared}
theorem keyNs_cons {d : D} {ds : List D} {ks : List NestedKey} (h : keyNs (d :: ds) = some ks) : ∃ k ks', keyN d = some k ∧ keyNs ds = some ks' ∧ ks = k :: ks' := by
  unfold keyNs at h
  cases h1 : keyN d with
  | none => rw [h1] at h; cases h
  | some k =>
    cases h2 : keyNs ds with
    | none => rw [h1, h2] at h; cases h
    | some ks' => rw [h1, h2] at h; cases h; exact ⟨k, ks', rfl, rfl, rfl⟩
mutual
theorem Rep.key (I : Inv X pins σ H s) (sm : Vw G H) : ∀ {v : V} {d : D} {k : NestedKey} {u : Value}, Rep X.K X.mg ww G v d → keyN d = some k → L2.RelV v u → NestedIs s.heap k u
  | _, .non, _, _, r, e, rv => by cases r; cases e; cases rv; exact .none
  | _, .bl b, _, _, r, e, rv => by cases r; cases e; cases rv; exact .bool rfl
  | _, .int i, _, _, r, e, rv => by cases r; cases e; obtain ⟨t, rfl⟩ := rv; exact .int i t
  | _, .str x, _, _, r, e, rv => by cases r; cases e; obtain ⟨t, rfl⟩ := rv; exact .text x t
  | _, .tup ds, _, _, r, e, rv => by
    cases r with
    | tup h r =>
      simp only [keyN] at e
      obtain ⟨ks, hk, rfl⟩ := Option.map_eq_some_iff.mp e
      cases rv
      obtain ⟨its, rr, ⟨o, ho, hc, n, hd⟩, _⟩ := I.tuple (sm.sqT h)
      refine .tup ho hc hd ?_
      exact RepL.key I sm r hk rr
theorem RepL.key (I : Inv X pins σ H s) (sm : Vw G H) : ∀ {vs : List V} {ds : List D} {ks : List NestedKey} {us : List Value}, RepL X.K X.mg ww G vs ds → keyNs ds = some ks → Vals vs us → NestedAll s.heap ks us
  | _, [], _, _, r, e, rv => by cases r; cases e; cases rv; exact .nil
  | _, d :: ds, _, _, r, e, rv => by
    obtain ⟨k, ks', h1, h2, rfl⟩ := keyNs_cons e
    cases r with
    | cons r t =>
      cases rv with
      | cons q qs => exact .cons (Rep.key I sm r h1 q) (RepL.key I sm t h2 qs)
end
theorem Rep.ka {b : Addr} {d : D} {k : NestedKey} (sm : Vw G H) (r : Rep X.K X.mg ww G (.ref b) d) (h : keyN d = some k) (hd : k.depth ≤ 8) : KA X H b k := fun pins σ s I => ⟨r.key I sm h rfl, hd⟩
theorem RepL.ka : ∀ {bs : List Addr} {ds : List D} {ks : List NestedKey}, Vw G H → RepL X.K X.mg ww G (bs.map V.ref) ds → keyNs ds = some ks → depOk ks → ∀ p ∈ bs.zip ks, KA X H p.1 p.2
  | [], _, _, _, _, _, _, p, hp => by cases hp
  | b :: bs, ds, ks, sm, r, e, dk, p, hp => by
    cases r with
    | cons r t =>
      obtain ⟨k, ks', h1, h2, rfl⟩ := keyNs_cons e
      rw [List.zip_cons_cons] at hp
      rcases List.mem_cons.mp hp with q | hp
      · rw [q]; exact r.ka sm h1 (dk _ List.mem_cons_self)
      · exact RepL.ka sm t h2 (fun k hk => dk k (List.mem_cons_of_mem _ hk)) p hp
end
def isTup : D → Bool
  | .tup _ => true
  | _ => false
theorem tup_ref {G : Hp} {v : V} {d : D} (r : Rep K mg ww G v d) (h : isTup d = true) : ∃ b, v = .ref b := by
  cases d with
  | tup ds => cases r; exact ⟨_, rfl⟩
  | _ => cases h
theorem RepQ.tupr {G H : Hp} {v : V} {d : D} (r : RepQ K mg ww G H v d) (h : isTup d = true) : Rep K mg ww G v d := by
  rcases r with r | ⟨_, _, _, z⟩
  · exact r
  · cases d with
    | tup ds => exact z.elim
    | _ => cases h
def inK (ds : List D) (d : D) : Option Bool := match keyNs ds, keyN d with
  | some ks, some k => if isTup d && decide (k.depth ≤ 8) then some (decide (k ∈ ks)) else none
  | _, _ => none
theorem inK_some {ds : List D} {d : D} {b : Bool} (h : inK ds d = some b) : ∃ ks k, keyNs ds = some ks ∧ keyN d = some k ∧ isTup d = true ∧ k.depth ≤ 8 ∧ b = decide (k ∈ ks) := by
  unfold inK at h
  split at h
  · rename_i ks k h1 h2
    split at h
    · rename_i hc
      rw [Bool.and_eq_true, decide_eq_true_eq] at hc
      exact ⟨ks, k, h1, h2, hc.1, hc.2, (Option.some.inj h).symm⟩
    · cases h
  · cases h
section
variable {X : Cx} {G H : Hp}
theorem mem_zip (M : Mem) : (M.map (·.1)).zip (M.map (·.2)) = M := by
  induction M with
  | nil => rfl
  | cons p M ih => rw [List.map_cons, List.map_cons, List.zip_cons_cons, ih]
structure SetQ (X : Cx) (ww : World) (G H : Hp) (a : Addr) (L M : Mem) (ds : List D) : Prop where
  at_ : H a = some (SetNO ww a L)
  pm : L.Perm M
  rep : RepL X.K X.mg ww G (M.map fun p => .ref p.1) ds
  key : keyNs ds = some (M.map (·.2))
  dep : depOk (M.map (·.2))
theorem RepQ.set {v : V} {ds : List D} (s : Vw G H) (r : RepQ X.K X.mg ww G H v (.set ds)) : ∃ a L M, v = .ref a ∧ SetQ X ww G H a L M ds := by
  rcases r with r | ⟨a, e, _, L, M, h1, h2, h3, h4, h5⟩
  · cases r with
    | set h1 h2 h3 h4 h5 => exact ⟨_, _, _, rfl, s _ _ h1, h2, h3, h4, h5⟩
  · exact ⟨a, L, M, e, h1, h2, h3, h4, h5⟩
theorem SetQ.ka {a : Addr} {L M : Mem} {ds : List D} (q : SetQ X ww G H a L M ds) (s : Vw G H) : ∀ p ∈ L, KA X H p.1 p.2 := fun p hp => by
  have e : (M.map fun p => V.ref p.1) = (M.map (·.1)).map V.ref := by simp
  have r := q.rep
  rw [e] at r
  exact RepL.ka s r q.key q.dep p (by rw [mem_zip]; exact q.pm.mem_iff.mp hp)
theorem SetQ.mem {a : Addr} {L M : Mem} {ds : List D} (q : SetQ X ww G H a L M ds) {k : NestedKey} : k ∈ L.map (·.2) ↔ k ∈ M.map (·.2) := (q.pm.map (·.2)).mem_iff
structure DctQ (X : Cx) (ww : World) (G H : Hp) (a : Addr) (xs : List Ent) (ds vs : List D) : Prop where
  at_ : H a = some (DctNO ww a xs)
  rep : RepL X.K X.mg ww G (xs.map fun x => .ref x.2.1) ds
  key : keyNs ds = some (xs.map (·.1))
  dep : depOk (xs.map (·.1))
  val : RepL X.K X.mg ww G (xs.map (·.2.2)) vs
theorem RepQ.dct {v : V} {ds vs : List D} (s : Vw G H) (r : RepQ X.K X.mg ww G H v (.dct ds vs)) : ∃ a xs, v = .ref a ∧ DctQ X ww G H a xs ds vs := by
  rcases r with r | ⟨a, e, _, xs, h1, h2, h3, h4, h5⟩
  · cases r with
    | dn h1 h2 h3 h4 h5 => exact ⟨_, _, rfl, s _ _ h1, h2, h3, h4, h5⟩
  · exact ⟨a, xs, e, h1, h2, h3, h4, h5⟩
theorem DctQ.ka {a : Addr} {xs : List Ent} {ds vs : List D} (q : DctQ X ww G H a xs ds vs) (s : Vw G H) : ∀ x ∈ xs, KA X H x.2.1 x.1 := fun x hx => by
  have e : (xs.map fun x => V.ref x.2.1) = (xs.map (·.2.1)).map V.ref := by simp
  have r := q.rep
  rw [e] at r
  refine RepL.ka s r q.key q.dep (x.2.1, x.1) ?_
  have : (xs.map (·.2.1)).zip (xs.map (·.1)) = xs.map fun x => (x.2.1, x.1) := by
    clear q r e hx
    induction xs with
    | nil => rfl
    | cons y xs ih => simp only [List.map_cons, List.zip_cons_cons, ih]
  rw [this]
  exact List.mem_map.mpr ⟨x, hx, rfl⟩
structure DksQ (X : Cx) (ww : World) (G H : Hp) (a : Addr) (kvs : List (Key × V)) (ks : List Str) (vs : List D) : Prop where
  at_ : H a = some (.dK kvs)
  key : kvs.map (·.1) = ks.map Sum.inr
  nd : ks.Nodup
  val : RepL X.K X.mg ww G (kvs.map (·.2)) vs
theorem RepQ.dks {v : V} {ks : List Str} {vs : List D} (s : Vw G H) (r : RepQ X.K X.mg ww G H v (.dks ks vs)) : ∃ a kvs, v = .ref a ∧ DksQ X ww G H a kvs ks vs := by
  rcases r with r | ⟨a, e, _, kvs, h1, h2, h3, h4⟩
  · cases r with
    | dk h1 h2 h3 h4 => exact ⟨_, _, rfl, s _ _ h1, h2, h3, h4⟩
  · exact ⟨a, kvs, e, h1, h2, h3, h4⟩
theorem atX_mem (xs : List Ent) (k : NestedKey) : (atX xs k).isSome = decide (k ∈ xs.map (·.1)) := by
  unfold atX
  induction xs with
  | nil => simp
  | cons x xs ih =>
    rw [List.find?_cons]
    by_cases e : x.1 = k
    · simp [e]
    · have e' : ¬ k = x.1 := fun z => e z.symm
      simp only [e, decide_false]
      rw [ih]
      simp [e']
def getL (ks : List NestedKey) (vs : List D) (k : NestedKey) : Option D := match ks, vs with
  | a :: ks, v :: vs => if a = k then some v else getL ks vs k
  | _, _ => none
theorem atX_get {G : Hp} : ∀ {xs : List Ent} {vs : List D} {k : NestedKey} {d : D}, RepL K mg ww G (xs.map (·.2.2)) vs → getL (xs.map (·.1)) vs k = some d → ∃ c v, atX xs k = some (c, v) ∧ Rep K mg ww G v d
  | [], _, _, _, r, h => by cases r; cases h
  | x :: xs, _, k, d, r, h => by
    cases r with
    | cons r t =>
      simp only [List.map_cons, getL] at h
      by_cases e : x.1 = k
      · rw [if_pos e] at h
        cases h
        exact ⟨x.2.1, x.2.2, by unfold atX; simp [List.find?_cons, e], r⟩
      · rw [if_neg e] at h
        obtain ⟨c, v, h1, h2⟩ := atX_get t h
        refine ⟨c, v, ?_, h2⟩
        unfold atX at h1 ⊢
        rw [List.find?_cons]
        simp only [e, decide_false]
        exact h1
def getS (ks : List Str) (vs : List D) (k : Str) : Option D := match ks, vs with
  | a :: ks, v :: vs => if a = k then some v else getS ks vs k
  | _, _ => none
theorem valV_get {G : Hp} : ∀ {kvs : List (Key × V)} {ks : List Str} {vs : List D} {k : Str}, kvs.map (·.1) = ks.map Sum.inr → RepL K mg ww G (kvs.map (·.2)) vs →
    (match getS ks vs k with | some d => ∃ v, valV kvs (.inr k) = some v ∧ Rep K mg ww G v d | none => valV kvs (.inr k) = none) ∧ ((getS ks vs k).isSome = decide (k ∈ ks))
  | [], [], _, _, _, r => by cases r; exact ⟨rfl, rfl⟩
  | [], _ :: _, _, _, h, _ => by cases h
  | _ :: _, [], _, _, h, _ => by cases h
  | p :: kvs, x :: ks, _, k, h, r => by
    cases r with
    | cons r t =>
      rw [List.map_cons, List.map_cons, List.cons.injEq] at h
      obtain ⟨i1, i2⟩ := valV_get (k := k) h.2 t
      unfold getS
      by_cases e : x = k
      · subst e
        rw [if_pos rfl]
        exact ⟨⟨p.2, by rw [valV_pos h.1], r⟩, by simp⟩
      · rw [if_neg e]
        have ne : ¬ p.1 = Sum.inr k := fun z => e (by rw [h.1] at z; exact Sum.inr.inj z)
        have e' : ¬ k = x := fun z => e z.symm
        rw [valV_neg ne]
        exact ⟨i1, by rw [i2]; simp [e']⟩
end
/-! ### in -/
def inXB (d e : D) : Option Bool := match e with
  | .set ds => inK ds d
  | .dct ks _ => inK ks d
  | .dks ks _ => match d with
    | .str x => some (decide (x ∈ ks))
    | _ => none
  | _ => none
def inXD (d e : D) : Oc D := match inXB d e with
  | some b => .ok (.bl b)
  | none => .st
def ninXD (d e : D) : Oc D := match inXB d e with
  | some b => .ok (.bl (!b))
  | none => .st
section
variable {X : Cx} {W : WX} {U : XK} {fre : Fr} {a b c e : Expr} {es : List Expr} {f g h : En → Oc D} {fs : En → Oc (List D)} {pos : Pos}
variable {G H : Hp} {x y : V} {d1 d2 : D} {Q : VK}
def rInS (X : Cx) (neg : Bool) : R2 := fun x y H Q => ∃ (a : Addr) (o : Option V), y = .ref a ∧ DGet H a x o ∧ Q (.bl (if neg then !o.isSome else o.isSome)) H
theorem or_inS (hu : X.A.units + 65 < cLine) : OpR X (compareOp .In) (rInS X false) := by
  intro pins s σ H x y v u Q I rx ry h
  obtain ⟨a, o, rfl, g, q⟩ := h
  cases ry
  exact d_in (by omega) I g rx fun s' I' => ⟨.bl o.isSome, H, I', rfl, q⟩
theorem or_ninS (hu : X.A.units + 65 < cLine) : OpR X (compareOp .NotIn) (rInS X true) := by
  intro pins s σ H x y v u Q I rx ry h
  obtain ⟨a, o, rfl, g, q⟩ := h
  cases ry
  exact d_notIn (by omega) I g rx fun s' I' => ⟨.bl (!o.isSome), H, I', rfl, q⟩
def rInY (X : Cx) (neg : Bool) : R2 := fun x y H Q => rInN X neg x y H Q ∨ rInX X neg x y H Q ∨ rInS X neg x y H Q
theorem inY_of {neg : Bool} {t : Bool} (s : Vw G H) (r1 : RepQ X.K X.mg X.w G H x d1) (r2 : RepQ X.K X.mg X.w G H y d2) (e : inXB d1 d2 = some t) (q : Q (.bl (if neg then !t else t)) H) : rInY X neg x y H Q := by
  unfold inXB at e
  split at e
  · rename_i ds
    obtain ⟨ks, k, h1, h2, ht, hd, rfl⟩ := inK_some e
    obtain ⟨a, L, M, rfl, S⟩ := r2.set s
    obtain ⟨b, rfl⟩ := tup_ref (r1.tupr ht) ht
    have ek : ks = M.map (·.2) := Option.some.inj (h1.symm.trans S.key)
    refine .inl ⟨a, b, k, L, rfl, rfl, S.at_, (r1.tupr ht).ka s h2 hd, S.ka s, ?_⟩
    have em : decide (k ∈ L.map (·.2)) = decide (k ∈ ks) := by rw [ek]; exact decide_eq_decide.mpr S.mem
    rw [em]; exact q
  · rename_i kd vd
    obtain ⟨ks, k, h1, h2, ht, hd, rfl⟩ := inK_some e
    obtain ⟨a, xs, rfl, S⟩ := r2.dct s
    obtain ⟨b, rfl⟩ := tup_ref (r1.tupr ht) ht
    have ek : ks = xs.map (·.1) := Option.some.inj (h1.symm.trans S.key)
    refine .inr (.inl ⟨a, b, k, xs, rfl, rfl, S.at_, (r1.tupr ht).ka s h2 hd, S.ka s, ?_⟩)
    rw [atX_mem, ← ek]; exact q
  · split at e
    · rename_i ks vs _ z
      obtain ⟨a, kvs, rfl, S⟩ := r2.dks s
      cases e
      have hv := valV_get (k := z) S.key S.val
      refine .inr (.inr ⟨a, valV kvs (.inr z), rfl, ?_, ?_⟩)
      · rw [r1.str]; exact DGet.k (k := .inr z) S.at_
      · have : (valV kvs (.inr z)).isSome = decide (z ∈ ks) := by
          rw [← hv.2]
          have h1 := hv.1
          cases hg : getS ks vs z with
          | none => rw [hg] at h1; simp only at h1; rw [h1]; rfl
          | some d => rw [hg] at h1; obtain ⟨v, hv, _⟩ := h1; rw [hv]; rfl
        rw [this]; exact q
    · cases e
  · cases e
theorem se_inX (ha : SQ X W a f) (hb : SQ X W b g) (hu : X.A.units + 65 < cLine) (hm : behindInMarks .In b = false := by rfl) : SE X W (.Compare a [.In] [b] pos) (bi inXD f g) :=
  se_op2 (fun ha hb => pe_cmpR ((or_inN hu).or ((or_inX hu).or (or_inS hu))) ha hb hm) (fun {G H x y d1 d2 Q U} s r1 r2 p => by
    unfold inXD at p
    cases e : inXB d1 d2 with
    | none => rw [e] at p; exact p.elim
    | some t => rw [e] at p; exact inY_of (neg := false) s r1 r2 e (p.here s (.bl _))) ha hb
theorem se_ninX (ha : SQ X W a f) (hb : SQ X W b g) (hu : X.A.units + 65 < cLine) (hm : behindInMarks .NotIn b = false := by rfl) : SE X W (.Compare a [.NotIn] [b] pos) (bi ninXD f g) :=
  se_op2 (fun ha hb => pe_cmpR ((or_ninN hu).or ((or_ninX hu).or (or_ninS hu))) ha hb hm) (fun {G H x y d1 d2 Q U} s r1 r2 p => by
    unfold ninXD at p
    cases e : inXB d1 d2 with
    | none => rw [e] at p; exact p.elim
    | some t => rw [e] at p; exact inY_of (neg := true) s r1 r2 e (p.here s (.bl _))) ha hb
theorem st_inX (ha : SQ X W a f) (hb : SQ X W b g) (hu : X.A.units + 65 < cLine) (hm : behindInMarks .In b = false := by rfl) : STT X W (.Compare a [.In] [b] pos) (tst (bi inXD f g)) := st_op2 (fun ha hb => pt_cmpR ((or_inN hu).or ((or_inX hu).or (or_inS hu))) ha hb hm) (fun {G H x y d1 d2 Q U} s r1 r2 p => by
    unfold inXD at p
    cases e : inXB d1 d2 with
    | none => rw [e] at p; exact p.elim
    | some t => rw [e] at p; exact inY_of (neg := false) s r1 r2 e (p.here s (.bl _))) ha hb
theorem st_ninX (ha : SQ X W a f) (hb : SQ X W b g) (hu : X.A.units + 65 < cLine) (hm : behindInMarks .NotIn b = false := by rfl) : STT X W (.Compare a [.NotIn] [b] pos) (tst (bi ninXD f g)) := st_op2 (fun ha hb => pt_cmpR ((or_ninN hu).or ((or_ninX hu).or (or_ninS hu))) ha hb hm) (fun {G H x y d1 d2 Q U} s r1 r2 p => by
    unfold ninXD at p
    cases e : inXB d1 d2 with
    | none => rw [e] at p; exact p.elim
    | some t => rw [e] at p; exact inY_of (neg := true) s r1 r2 e (p.here s (.bl _))) ha hb
/-! ### d[k] -/
def ixXD (d e : D) : Oc D := match d with
  | .dct ds vs => match keyNs ds, keyN e with
    | some ks, some k => chk (isTup e && decide (k.depth ≤ 8)) (match getL ks vs k with
      | some r => .ok r
      | none => .st)
    | _, _ => .st
  | .dks ks vs => match e with
    | .str x => (match getS ks vs x with
      | some r => .ok r
      | none => .st)
    | _ => .st
  | _ => .st
def rGetS : R2 := fun x y H Q => ∃ (a : Addr) (v : V), x = .ref a ∧ DGet H a y (some v) ∧ Q v H
theorem isDT {pins : List (Addr × Obj)} {σ : L2.St} {s : Shared} {a : Addr} {y : V} {r : Option V} (I : Inv X pins σ H s) (g : DGet H a y r) : s.TypeIs (.ref a) "dict" := by
  rcases g with ⟨kvs, k, e, _⟩ | ⟨kvs, k, b, e, _⟩
  · exact (isD_at I (.inl ⟨kvs, e⟩)).1
  · exact (isD_at I (.inr ⟨kvs, e⟩)).1
theorem ix_getS (hu : X.A.units + 65 < cLine) : IxR X rGetS := by
  intro value slice pins s σ H x y v u Q I rx ry h hs
  obtain ⟨a, z, rfl, g, q⟩ := h
  cases rx
  exact tail_any (isDT I g) F.slot_dict_getitem.lookup (d_getItem (by omega) I g ry fun w' s' I' r' => ⟨z, H, I', r', q⟩) hs
theorem se_ixX (hu : X.A.units + 65 < cLine) (ha : SQ X W a f) (hb : SQ X W b g) (hs : PlainIx b) : SE X W (.Subscript a b pos) (bi ixXD f g) :=
  se_op2 (fun ha hb => pe_ix ((ix_getX hu).or (ix_getS hu)) ha hb hs) (fun {G H x y d1 d2 Q U} s r1 r2 p => by
    unfold ixXD at p
    split at p
    · rename_i ds vs
      split at p
      · rename_i ks k h1 h2
        obtain ⟨hc, p⟩ := p.chk
        rw [Bool.and_eq_true, decide_eq_true_eq] at hc
        split at p
        · rename_i r hr
          obtain ⟨a, xs, rfl, S⟩ := r1.dct s
          obtain ⟨b, rfl⟩ := tup_ref (r2.tupr hc.1) hc.1
          have ek : ks = xs.map (·.1) := Option.some.inj (h1.symm.trans S.key)
          rw [ek] at hr
          obtain ⟨c, v, g1, g2⟩ := atX_get S.val hr
          exact .inl ⟨a, b, c, k, xs, v, rfl, rfl, S.at_, (r2.tupr hc.1).ka s h2 hc.2, S.ka s, g1, p.here s g2⟩
        · exact p.elim
      · exact p.elim
    · rename_i ks vs
      split at p
      · rename_i z
        obtain ⟨a, kvs, rfl, S⟩ := r1.dks s
        have hv := valV_get (k := z) S.key S.val
        split at p
        · rename_i r hr
          have h1 := hv.1
          rw [hr] at h1
          obtain ⟨v, g1, g2⟩ := h1
          refine .inr ⟨a, v, rfl, ?_, p.here s g2⟩
          rw [r2.str, ← g1]
          exact DGet.k (k := .inr z) S.at_
        · exact p.elim
      · exact p.elim
    · exact p.elim) ha hb
/-! ### fresh ones -/
theorem sf_set0 {p : Pos} (hg : Gl X "set") (hm : X.mg "set" = none) : SF X W (.Call (.Name "set" p) [] [] pos) (cst (.set [])) :=
  PE.weak (pe_callTy0 cr_setN0 hg hm (by decide +kernel) (by decide) (by decide)) fun σ H Q ⟨G, ρ, R, q⟩ => ⟨rfl, fun p hp => by
    have x := Ext.newH (o := SetNO X.w p []) R.sub hp
    exact q p G _ x hp (R.sub.free hp) ⟨[], [], upd_same, .nil, .nil, rfl, fun k hk => absurd hk List.not_mem_nil⟩⟩
end
end Fx

set_option Elab.async false
set_option linter.all false
set_option maxRecDepth 100000
set_option maxHeartbeats 4000000
/-! Fx21: own sets, dicts, lists made and written. -/
namespace Fx
open PySem PySem.Spec PyProof.Rows L2 Sx
variable {K : PySem.W.Frag} {mg : Str → Option Value} {ww : World} {me : Addr}
def isObj : D → Bool
  | .obj _ _ => true
  | _ => false
theorem Bs.setW {G0 H0 G1 H1 G H : Hp} {ρ : En} {σ : L2.St} (B : Bs K mg ww me G0 H0 G1 H1 ρ σ) (x : Ext G1 H1 G H) (i : Nat) {p : Addr} {d : D} (hd : isObj d = false) (hp : H1 p = none) (g : G p = none) (r : OwAt K mg ww G H p d) : Bs K mg ww me G0 H0 G H (ρ.set i (.ow d)) (σ.set i (some (.ref p))) := by
  refine ⟨(B.rel.ext x).setO i g r fun j e h1 h2 => ?_, B.ext.trans x, fun j a d' h1 h2 => ?_, fun j c fs h1 => ?_⟩
  · obtain ⟨o, ho, a, e2, ga, ow⟩ := B.rel.get h1
    rw [h2] at ho
    cases ho
    cases e2
    obtain ⟨u, hu⟩ := ow.ex
    rw [hp] at hu
    cases hu
  · by_cases hj : i = j
    · subst hj
      have hi : i < σ.length := by simpa using (List.getElem?_eq_some_iff.mp h2).1
      rw [List.getElem?_set_self hi] at h2
      cases h2
      exact B.ext.hh.free hp
    · rw [List.getElem?_set_ne hj] at h1 h2
      exact B.own j a d' h1 h2
  · by_cases hj : i = j
    · subst hj
      have hi : i < (ρ.set i (.ow d)).length := (List.getElem?_eq_some_iff.mp h1).1
      rw [List.getElem?_set_self (by simpa using hi)] at h1
      cases h1
      cases hd
    · rw [List.getElem?_set_ne hj] at h1 ⊢
      exact B.self j c fs h1
def asgW (i : Nat) (f : En → Oc D) : En → Oc Res := fun ρ => bd (f ρ) fun d => chk (!isObj d) (.ok (.nx (ρ.set i (.ow d))))
theorem PostS.chk {W : XK} {fre : Fr} {G0 H0 : Hp} {E : Ends} {b : Bool} {o : Oc Res} (h : PostS K mg ww W fre me G0 H0 E (Fx.chk b o)) : b = true ∧ PostS K mg ww W fre me G0 H0 E o := chk_some (P := PostS K mg ww W fre me G0 H0 E) (fun z => z) h
theorem asgW_post {U : XK} {fre : Fr} {f : En → Oc D} {G0 H0 G H : Hp} {ρ : En} {σ : L2.St} {D : Ends} {i : Nat} (B : Bs K mg ww me G0 H0 G H ρ σ) (p : PostS K mg ww U fre me G0 H0 D (asgW i f ρ)) : tF K mg ww (up U) f σ H fun x H1 => gName i x σ H1 D.nx := by
  refine ⟨G, ρ, B.rel, ?_⟩
  revert p
  unfold asgW
  cases f ρ with
  | st => exact id
  | ex c => exact fun p C G' H' x m => p C G' H' (B.ext.trans x) m
  | ok d =>
    intro p a G' H' x ha ga ow
    simp only [bd_ok] at p
    obtain ⟨c, p⟩ := p.chk
    exact p _ G' H' (B.setW x i (by simpa using c) ha ga ow)
section
variable {X : Cx} {W : WX} {U : XK} {fre : Fr} {a b c e : Expr} {es : List Expr} {f g h : En → Oc D} {fs : En → Oc (List D)} {pos : Pos} {i : Nat} {x : Str} {pos' : Pos}
theorem ss_setW (C : Ctx X (up U)) (hi : X.N[i]? = some x) (hx : Loc X.env.scope x) (ha : SF X (up U) a f) (hs : swapsWith a (some (.Name x pos')) pos.line X.env = pure false := by rfl) (hf : X.fn x = true ∨ X.env.scope.names.lookup x = some .local := by first | exact .inl rfl | exact .inr rfl | assumption) :
    SS X U fre (.Assign [.Name x pos'] a pos) (asgW i f) := PS.weak (ps_set C.nd hi hx ha hs hf) fun D σ H ⟨G, ρ, me, G0, H0, B, p⟩ => asgW_post B p
/-! ### s.add(x) -/
def addSR (ds : List D) (d : D) : Oc D := match inK ds d with
  | some b => chk (decide (ds.length + 1 ≤ 1000)) (.ok (.set (if b then ds else ds ++ [d])))
  | none => .st
def addS (i : Nat) (f : En → Oc D) : En → Oc Res := fun ρ => match ρ[i]? with
  | some (.ow (.set ds)) => bd (f ρ) fun d => bd (addSR ds d) fun z => .ok (.nx (ρ.set i (.ow z)))
  | _ => .st
theorem keyNs_app : ∀ {ds : List D} {ks : List NestedKey} {d : D} {k : NestedKey}, keyNs ds = some ks → keyN d = some k → keyNs (ds ++ [d]) = some (ks ++ [k])
  | [], ks, d, k, h, e => by cases h; simp [keyNs, e]
  | x :: ds, ks, d, k, h, e => by
    obtain ⟨k1, ks1, h1, h2, rfl⟩ := keyNs_cons h
    have ih := keyNs_app h2 e
    rw [List.cons_append]
    unfold keyNs
    rw [h1, ih]; rfl
theorem ss_addS {p1 apos cpos : Pos} (hu : X.A.units + 65 < cLine) (hv : PE X (.Name x p1) (tVar i)) (ha : SE X (up U) a f)
    (hbase : attributeBase (.Name x p1) "add" X.env (eval (.Name x p1) X.env) = eval (.Name x p1) X.env := by rfl)
    (hfew : ((backTo cpos (starEach [a] X.env)).all (fun x => !x.1) && (backToKw cpos (keywordEach [] X.env)).all (fun x => x.1.isSome)
      && decide (([a] : List Expr).length + ([] : List Keyword).length + (if ([] : List Keyword).isEmpty then 0 else 1) < 30)) = true := by rfl)
    (hline : (apos.endLine == cpos.line) = true := by rfl) (hs : starEach [a] X.env = (false, eval a X.env) :: starEach [] X.env := by rfl) (hplain : (backTo cpos (starEach [] X.env)).any (·.1) = false := by rfl)
    (hsw : swapsWith (.Call (.Attribute (.Name x p1) "add" apos) [a] [] cpos) none pos.line X.env = pure false := by rfl) :
    SS X U fre (.Expr (.Call (.Attribute (.Name x p1) "add" apos) [a] [] cpos) pos) (addS i f) :=
  PS.weak (ps_expr (pe_addN hu hv (pa_cons ha pa_nil hs) hbase hfew hline hs hplain) hsw) fun D σ H ⟨G, ρ, me, G0, H0, B, p⟩ => by
  revert p
  unfold addS
  cases q : ρ[i]? with
  | none => exact fun p => p.elim
  | some s =>
    cases s with
    | no => exact fun p => p.elim
    | exn _ => exact fun p => p.elim
    | fn _ _ _ => exact fun p => p.elim
    | ls _ _ => exact fun p => p.elim
    | sh d => exact fun p => p.elim
    | ow d =>
      cases d with
      | set ds =>
        intro p
        obtain ⟨o, ho, l, rfl, gl, L, M, hl, pm, rl, kl, dl⟩ := B.rel.get q
        refine ⟨.ref l, ho, ⟨l, L, rfl, hl⟩, tE_in B ?_⟩
        revert p
        simp only
        cases f ρ with
        | st => exact id
        | ex c => exact id
        | ok d =>
          intro p v G' H' B' r
          simp only [bd_ok] at p
          unfold addSR at p
          cases hk : inK ds d with
          | none => rw [hk] at p; exact p.elim
          | some t =>
            rw [hk] at p
            simp only at p
            cases hc : decide (ds.length + 1 ≤ 1000) with
            | false => rw [hc] at p; exact p.elim
            | true =>
              rw [hc] at p
              simp only [chk_true, bd_ok] at p
              obtain ⟨ks, k, h1, h2, ht, hd, rfl⟩ := inK_some hk
              obtain ⟨b, rfl⟩ := tup_ref r ht
              obtain ⟨o2, ho2, l2, e2, gl2, L2', M2, hl2, pm2, rl2, kl2, dl2⟩ := B'.rel.get q
              rw [ho] at ho2
              cases ho2
              cases e2
              have S : SetQ X X.w G' H' l L2' M2 ds := ⟨hl2, pm2, rl2, kl2, dl2⟩
              have ek : ks = M2.map (·.2) := Option.some.inj (h1.symm.trans kl2)
              have few : L2'.length + 1 ≤ 1000 := by
                have e1 : M2.length = ds.length := by have := rl2.length; simpa using this
                have := of_decide_eq_true hc
                rw [pm2.length_eq, e1]; exact this
              refine ⟨l, b, k, L2', rfl, rfl, hl2, r.ka B'.rel.sub h2 hd, S.ka B'.rel.sub, few, fun L' z1 z2 => ?_⟩
              refine p σ G' _ (B'.chg q ho (fun _ _ z => by cases z) gl2 ?_)
              by_cases hm : k ∈ L2'.map (·.2)
              · rw [z1 hm]
                have hm2 : k ∈ ks := by rw [ek]; exact S.mem.mp hm
                rw [if_pos (by simpa using hm2)]
                exact ⟨L2', M2, upd_same, pm2, rl2, kl2, dl2⟩
              · have hm2 : ¬ k ∈ ks := by rw [ek]; exact fun z => hm (S.mem.mpr z)
                rw [if_neg (by simpa using hm2)]
                refine ⟨L', M2 ++ [(b, k)], upd_same, (z2 hm).trans ((pm2.cons _).trans (List.perm_append_singleton _ _).symm), ?_, ?_, ?_⟩
                · rw [List.map_append]; exact rl2.append (.cons r .nil)
                · rw [List.map_append]; exact keyNs_app kl2 h2
                · rw [List.map_append]
                  intro k' hk'
                  rcases List.mem_append.mp hk' with z | z
                  · exact dl2 k' z
                  · rw [List.mem_singleton.mp z]; exact hd
      | _ => exact fun p => p.elim
/-! ### o[k] = v of an own list or dict -/
def zipPut {κ : Type} [DecidableEq κ] (k : κ) (v : D) : List κ → List D → List D
  | a :: ks, x :: vs => (if a = k then v else x) :: zipPut k v ks vs
  | _, _ => []
def putIR (d k v : D) : Oc D := match d with
  | .lst ds => (match k with
    | .int i => (match ixN ds.length i with
      | some j => .ok (.lst (ds.set j v))
      | none => .st)
    | _ => .st)
  | .dct ds vs => (match inK ds k, keyNs ds, keyN k with
    | some b, some ks, some kk => chk (decide (ds.length ≤ 1000000)) (.ok (if b then .dct ds (zipPut kk v ks vs) else .dct (ds ++ [k]) (vs ++ [v])))
    | _, _, _ => .st)
  | .dks ks vs => (match k with
    | .str z => chk (decide (ks.length ≤ 1000000)) (.ok (if decide (z ∈ ks) then .dks ks (zipPut z v ks vs) else .dks (ks ++ [z]) (vs ++ [v])))
    | _ => .st)
  | _ => .st
def setI (i : Nat) (fk fv : En → Oc D) : En → Oc Res := fun ρ => bd (fv ρ) fun v => match ρ[i]? with
  | some (.ow d) => bd (fk ρ) fun k => bd (putIR d k v) fun z => .ok (.nx (ρ.set i (.ow z)))
  | _ => .st
def rSetI (X : Cx) : TSet := fun o i v H Q => rSetL o i v H Q ∨ rSetX X o i v H Q ∨ rSetD o i v H Q
theorem set_I (hu : X.A.units + 65 < cLine) : PSet X (rSetI X) := by
  intro pins s σ H o i v ov iv u Q I ro ri rv h
  rcases h with h | h | h
  · exact set_list pins s σ H o i v ov iv u Q I ro ri rv h
  · exact set_X hu pins s σ H o i v ov iv u Q I ro ri rv h
  · exact set_dict (by omega) pins s σ H o i v ov iv u Q I ro ri rv h
theorem RepL.set {G : Hp} {v : V} {d : D} : ∀ {xs : List V} {ds : List D} (j : Nat), RepL K mg ww G xs ds → Rep K mg ww G v d → RepL K mg ww G (xs.set j v) (ds.set j d)
  | _, _, _, .nil, _ => .nil
  | _, _, 0, .cons _ t, q => .cons q t
  | _, _, j + 1, .cons r t, q => .cons r (RepL.set j t q)
theorem zipPut_rep {G : Hp} {v : V} {d : D} (q : Rep K mg ww G v d) {k : NestedKey} : ∀ {xs : List Ent} {vs : List D}, RepL K mg ww G (xs.map (·.2.2)) vs → RepL K mg ww G ((xs.map (putX k v)).map (·.2.2)) (zipPut k d (xs.map (·.1)) vs)
  | [], _, r => by cases r; exact .nil
  | x :: xs, _, r => by
    cases r with
    | cons r t =>
      simp only [List.map_cons, zipPut]
      refine .cons ?_ (zipPut_rep q t)
      unfold putX
      by_cases e : x.1 = k
      · rw [if_pos e, if_pos e]; exact q
      · rw [if_neg e, if_neg e]; exact r
theorem zipPutS_rep {G : Hp} {v : V} {d : D} (q : Rep K mg ww G v d) {k : Str} : ∀ {kvs : List (Key × V)} {ks : List Str} {vs : List D}, kvs.map (·.1) = ks.map Sum.inr → RepL K mg ww G (kvs.map (·.2)) vs → RepL K mg ww G ((kvs.map fun kv => if kv.1 = Sum.inr k then (kv.1, v) else kv).map (·.2)) (zipPut k d ks vs)
  | [], [], _, _, r => by cases r; exact .nil
  | [], _ :: _, _, h, _ => by cases h
  | _ :: _, [], _, h, _ => by cases h
  | p :: kvs, x :: ks, _, h, r => by
    cases r with
    | cons r t =>
      rw [List.map_cons, List.map_cons, List.cons.injEq] at h
      simp only [List.map_cons, zipPut]
      refine .cons ?_ (zipPutS_rep q h.2 t)
      by_cases e : x = k
      · subst e
        rw [if_pos h.1, if_pos rfl]; exact q
      · have ne : ¬ p.1 = Sum.inr k := fun z => e (by rw [h.1] at z; exact Sum.inr.inj z)
        rw [if_neg ne, if_neg e]; exact r
theorem putX_keys (k : NestedKey) (v : V) (xs : List Ent) : (xs.map (putX k v)).map (·.1) = xs.map (·.1) ∧ ((xs.map (putX k v)).map fun x => V.ref x.2.1) = xs.map fun x => V.ref x.2.1 := by
  constructor
  · rw [List.map_map]; exact List.map_congr_left fun x _ => by show (putX k v x).1 = x.1; unfold putX; split <;> rfl
  · rw [List.map_map]; exact List.map_congr_left fun x _ => by show V.ref (putX k v x).2.1 = V.ref x.2.1; unfold putX; split <;> rfl
theorem putI_of {X : Cx} {G H : Hp} {l : Addr} {d k v z : D} {kv vv : V} {Q : Hp → Prop} (sm : Vw G H) (ow : OwAt X.K X.mg X.w G H l d) (rk : Rep X.K X.mg X.w G kv k) (rv : Rep X.K X.mg X.w G vv v) (h : putIR d k v = .ok z)
    (q : ∀ o, OwAt X.K X.mg X.w G (L2.upd H l o) l z → Q (L2.upd H l o)) : rSetI X (.ref l) kv vv H Q := by
  unfold putIR at h
  split at h
  · rename_i ds
    split at h
    · rename_i i
      split at h
      · rename_i j hj
        cases h
        obtain ⟨xs, hl, rl⟩ := ow
        cases rk
        exact .inl ⟨l, xs, i, j, rfl, rfl, hl, by rw [rl.length]; exact hj, q _ ⟨_, upd_same, rl.set j rv⟩⟩
      · cases h
    · cases h
  · rename_i ds vs
    split at h
    · rename_i b ks kk h1 h2 h3
      cases hc : decide (ds.length ≤ 1000000) with
      | false => rw [hc] at h; cases h
      | true =>
        rw [hc] at h
        simp only [chk_true] at h
        have h := Oc.ok.inj h
        obtain ⟨ks', k', g1, g2, ht, hd, rfl⟩ := inK_some h1
        rw [h2] at g1
        cases g1
        rw [h3] at g2
        cases g2
        obtain ⟨xs, hl, rl, kl, dl, vl⟩ := ow
        have ek : ks = xs.map (·.1) := Option.some.inj (h2.symm.trans kl)
        have S : DctQ X X.w G H l xs ds vs := ⟨hl, rl, kl, dl, vl⟩
        obtain ⟨bb, rfl⟩ := tup_ref rk ht
        have lt : xs.length < sizeLine := by
          have e1 : xs.length = ds.length := by have := rl.length; simpa using this
          have := of_decide_eq_true hc
          rw [sizeLine_val]; omega
        refine .inr (.inl ⟨l, bb, kk, xs, rfl, rfl, hl, rk.ka sm h3 hd, S.ka sm, lt, q _ ?_⟩)
        have ma := atX_mem xs kk
        by_cases hm : kk ∈ ks
        · rw [if_pos (by simpa using hm)] at h
          rw [← h]
          have e2 : (atX xs kk).isSome = true := by rw [ma, ← ek]; simpa using hm
          have e3 : setX xs kk bb vv = xs.map (putX kk vv) := by unfold setX; rw [if_pos e2]
          refine ⟨_, upd_same, ?_, ?_, ?_, ?_⟩
          · rw [e3, (putX_keys kk vv xs).2]; exact rl
          · rw [e3, (putX_keys kk vv xs).1]; exact kl
          · rw [e3, (putX_keys kk vv xs).1]; exact dl
          · rw [e3, ek]; exact zipPut_rep rv vl
        · rw [if_neg (by simpa using hm)] at h
          rw [← h]
          have e2 : (atX xs kk).isSome = false := by rw [ma, ← ek]; simpa using hm
          have e3 : setX xs kk bb vv = xs ++ [(kk, bb, vv)] := by unfold setX; rw [if_neg (by rw [e2]; decide)]
          refine ⟨_, upd_same, ?_, ?_, ?_, ?_⟩
          · rw [e3, List.map_append]; exact rl.append (.cons rk .nil)
          · rw [e3, List.map_append]; exact keyNs_app kl h3
          · rw [e3, List.map_append]
            intro k' hk'
            rcases List.mem_append.mp hk' with z | z
            · exact dl k' z
            · rw [List.mem_singleton.mp z]; exact hd
          · rw [e3, List.map_append]; exact vl.append (.cons rv .nil)
    · cases h
  · rename_i ks vs
    split at h
    · rename_i zz
      cases hc : decide (ks.length ≤ 1000000) with
      | false => rw [hc] at h; cases h
      | true =>
        rw [hc] at h
        simp only [chk_true] at h
        have h := Oc.ok.inj h
        obtain ⟨kvs, hl, kl, nd, vl⟩ := ow
        cases rk
        have e1 : kvs.length = ks.length := by have := congrArg List.length kl; simpa using this
        have lt : kvs.length < sizeLine := by
          have := of_decide_eq_true hc
          rw [sizeLine_val]; omega
        refine .inr (.inr ⟨l, _, rfl, DPut.k (k := .inr zz) (v := vv) hl lt, q _ ?_⟩)
        have ma : (kvs.any fun kv => decide (kv.1 = Sum.inr zz)) = decide (zz ∈ ks) := by
          rw [Bool.eq_iff_iff, List.any_eq_true, decide_eq_true_eq]
          have e5 : zz ∈ ks ↔ (Sum.inr zz : Key) ∈ kvs.map (·.1) := by rw [kl]; simp
          rw [e5, List.mem_map]
          simp only [decide_eq_true_eq]
        by_cases hm : zz ∈ ks
        · rw [if_pos (by simpa using hm)] at h
          rw [← h]
          have e3 : putK kvs (Sum.inr zz) vv = kvs.map fun kv => if kv.1 = Sum.inr zz then (kv.1, vv) else kv := by unfold putK; rw [if_pos (by rw [ma]; simpa using hm)]
          refine ⟨_, upd_same, ?_, nd, ?_⟩
          · rw [e3, ← kl, List.map_map]
            exact List.map_congr_left fun p _ => by simp only [Function.comp]; split <;> rfl
          · rw [e3]; exact zipPutS_rep rv kl vl
        · rw [if_neg (by simpa using hm)] at h
          rw [← h]
          have e3 : putK kvs (Sum.inr zz) vv = kvs ++ [(Sum.inr zz, vv)] := by unfold putK; rw [if_neg (by rw [ma]; simpa using hm)]
          refine ⟨_, upd_same, ?_, ?_, ?_⟩
          · rw [e3, List.map_append, kl, List.map_append]; rfl
          · rw [List.nodup_append]
            refine ⟨nd, by simp, fun a ha b hb e => ?_⟩
            rw [List.mem_singleton] at hb
            rw [e, hb] at ha
            exact hm ha
          · rw [e3, List.map_append]; exact vl.append (.cons rv .nil)
    · cases h
  · cases h
theorem putIR_ex {d k v : D} {c : Str} (h : putIR d k v = .ex c) : False := by
  unfold putIR at h
  repeat' split at h
  all_goals first | cases h | (unfold Fx.chk at h; split at h <;> cases h)
theorem putIR_obj {d k v z : D} (h : putIR d k v = .ok z) : isObj z = false := by
  unfold putIR at h
  repeat' split at h
  all_goals first | cases h | skip
  all_goals first | rfl | skip
  all_goals first | (unfold Fx.chk at h; split at h <;> first | (cases h; done) | (cases h; rfl) | (cases h; split <;> rfl) | (split at h <;> (cases h; rfl))) | (split <;> rfl)
theorem ss_setI {p1 tpos : Pos} (hu : X.A.units + 65 < cLine) (hv : PE X (.Name x p1) (tVar i)) (hk : SE X (up U) b g) (ha : SE X (up U) a f)
    (hs : swapsWithSole [.Subscript (.Name x p1) b tpos] a pos.line X.env = pure false := by rfl) (hw : swappedStores [.Subscript (.Name x p1) b tpos] a X.env = pure none := by rfl)
    (h1 : (assignEach [.Subscript (.Name x p1) b tpos] X.env).map (·.2) = [assign (.Subscript (.Name x p1) b tpos) X.env] := by rfl)
    (hat : ∀ v, assign (.Subscript (.Name x p1) b tpos) X.env v = (do
      let ov ← holding [v] (eval (.Name x p1) X.env)
      let iv ← holding [v, ov] (eval b X.env)
      standAt tpos
      holding [v, ov, iv] (setItem ov iv v)
      release [v, ov, iv] []) := by intro _; rfl) :
    SS X U fre (.Assign [.Subscript (.Name x p1) b tpos] a pos) (setI i g f) :=
  PS.weak (ps_asg ha (pg_sub hv hk (set_I hu) hat) hs hw h1) fun D σ H ⟨G, ρ, me, G0, H0, B, p⟩ => by
  refine tE_in B ?_
  revert p
  unfold setI
  cases f ρ with
  | st => exact id
  | ex c => exact id
  | ok v =>
    intro p vv G1 H1 B1 rv
    simp only [bd_ok] at p
    revert p
    cases q : ρ[i]? with
    | none => exact fun p => p.elim
    | some s =>
      cases s with
      | no => exact fun p => p.elim
      | exn _ => exact fun p => p.elim
      | fn _ _ _ => exact fun p => p.elim
      | ls _ _ => exact fun p => p.elim
      | sh d => exact fun p => p.elim
      | ow d =>
        intro p
        obtain ⟨o, ho, l, rfl, gl, ow⟩ := B1.rel.get q
        refine ⟨.ref l, ho, G1, ρ, B1.rel, ?_⟩
        revert p
        simp only
        cases g ρ with
        | st => exact id
        | ex c => exact fun p C G' H' x m => p C G' H' (B1.ext.trans x) m
        | ok k =>
          intro p kv G2 H2 x2 rk
          have B2 := B1.step x2
          simp only [bd_ok] at p
          cases hz : putIR d k v with
          | st => rw [hz] at p; exact p.elim
          | ex c => exact (putIR_ex hz).elim
          | ok z =>
            rw [hz] at p
            simp only [bd_ok] at p
            obtain ⟨o2, ho2, l2, e2, gl2, ow2⟩ := B2.rel.get q
            rw [ho] at ho2
            cases ho2
            cases e2
            refine putI_of B2.rel.sub ow2 rk (rv.same x2.gg) hz fun o hw2 => p σ G2 _ (B2.chg q ho (fun c fs e => ?_) gl2 hw2)
            subst e
            exact absurd (putIR_obj hz) (by simp [isObj])
end
end Fx

set_option Elab.async false
set_option linter.all false
set_option maxRecDepth 100000
set_option maxHeartbeats 4000000
/-! Fx22: a def within a def, handed on as an argument and called there. -/
namespace Fx
open PySem PySem.Spec PyProof.Rows L2 Sx NdefX
variable {K : PySem.W.Frag} {mg : Str → Option Value} {ww : World} {me : Addr}
/-! ### slots -/
theorem Rel.setS {G H : Hp} {ρ : En} {σ : L2.St} (R : Rel K mg ww G H ρ σ) (i : Nat) {o : Option V} {s : Sl} (h : SlOk K mg ww G H o s) (n : ∀ d, s ≠ .ow d) : Rel K mg ww G H (ρ.set i s) (σ.set i o) := by
  refine ⟨R.sub, R.tabs, by simp [R.len], fun j s' o' h1 h2 => ?_, fun j k a d' e' h1 h2 h3 h4 => ?_⟩
  · by_cases hj : i = j
    · subst hj
      have hi : i < (ρ.set i s).length := (List.getElem?_eq_some_iff.mp h1).1
      have hr : i < ρ.length := by simpa using hi
      rw [List.getElem?_set_self hr] at h1
      rw [List.getElem?_set_self (by rw [R.len]; exact hr)] at h2
      cases h1; cases h2
      exact h
    · rw [List.getElem?_set_ne hj] at h1 h2
      exact R.at_ j s' o' h1 h2
  · have nj : ∀ {m : Nat} {y : D}, (ρ.set i s)[m]? = some (.ow y) → i ≠ m := fun {m y} h e => by
      subst e
      have hi : i < (ρ.set i s).length := (List.getElem?_eq_some_iff.mp h).1
      rw [List.getElem?_set_self (by simpa using hi)] at h
      cases h
      exact n y rfl
    have n1 := nj h1
    have n2 := nj h2
    rw [List.getElem?_set_ne n1] at h1 h3
    rw [List.getElem?_set_ne n2] at h2 h4
    exact R.apart j k a d' e' h1 h2 h3 h4
theorem Bs.setS {G0 H0 G H : Hp} {ρ : En} {σ : L2.St} (B : Bs K mg ww me G0 H0 G H ρ σ) (i : Nat) {o : Option V} {s : Sl} (h : SlOk K mg ww G H o s) (n : ∀ d, s ≠ .ow d) : Bs K mg ww me G0 H0 G H (ρ.set i s) (σ.set i o) := by
  have key : ∀ {j : Nat} {e : D}, (ρ.set i s)[j]? = some (.ow e) → i ≠ j ∧ ρ[j]? = some (.ow e) := fun {j e} h1 => by
    by_cases hj : i = j
    · subst hj
      have hi : i < (ρ.set i s).length := (List.getElem?_eq_some_iff.mp h1).1
      rw [List.getElem?_set_self (by simpa using hi)] at h1
      cases h1
      exact absurd rfl (n e)
    · rw [List.getElem?_set_ne hj] at h1
      exact ⟨hj, h1⟩
  refine ⟨B.rel.setS i h n, B.ext, fun j a d' h1 h2 => ?_, fun j c ds h1 => ?_⟩
  · obtain ⟨k1, k2⟩ := key h1
    rw [List.getElem?_set_ne k1] at h2
    exact B.own j a d' k2 h2
  · obtain ⟨k1, k2⟩ := key h1
    rw [List.getElem?_set_ne k1]
    exact B.self j c ds k2
/-! ### the def statement -/
theorem Ext.made {G H H1 : Hp} {P f c : Addr} {q : Str} {F : NF} (s : Vw G H) (t : Gx.TabX H P) (g : G P = none) (m : Made P q H H1 f c F) : Ext G H G H1 := by
  have ne : ∀ {b o}, H b = some o → (∀ ps, o ≠ .tbl ps) → b ≠ P := fun {b o} e n z => by
    obtain ⟨ps, e2, _⟩ := t
    rw [z, e2] at e
    cases e
    exact n ps rfl
  refine ⟨⟨fun b o e n _ => m.keep b o (ne e n) e, fun b o e => ?_, fun P' t' => ?_⟩, .refl _, fun b o e => ?_, fun _ _ _ g => g⟩
  · cases e1 : H1 b with
    | none => rw [m.dom b e1] at e; cases e
    | some o' => exact ⟨o', rfl⟩
  · by_cases hb : P' = P
    · rw [hb]; exact m.tab
    · exact t'.ext (fun ps e => m.keep _ _ hb e) fun c q e => m.keep _ _ (ne e fun ps => LamX.codeO_ne ps) e
  · have nb : b ≠ P := fun z => by rw [z, g] at e; cases e
    have q := s b o e
    cases o <;> first | exact q.elim | exact m.keep b _ nb q | exact ⟨_, m.keep b _ nb q.choose_spec.1, q.choose_spec.2⟩
def okR : Oc Res → Prop
  | .ok (.rt _) => True
  | .ex _ => True
  | _ => False
open Classical in
noncomputable def dfs (i : Nat) (rest : NF → En → Oc Res) : En → Oc Res := fun ρ => if h : ∃ o, okR o ∧ ∀ F, rest F (ρ.set i (.fn F [] [])) = o then h.choose else .st
theorem dfs_of {i : Nat} {rest : NF → En → Oc Res} {ρ : En} {o : Oc Res} (ho : okR o) (h : ∀ F, rest F (ρ.set i (.fn F [] [])) = o) : dfs i rest ρ = o := by
  have hex : ∃ o, okR o ∧ ∀ F, rest F (ρ.set i (.fn F [] [])) = o := ⟨o, ho, h⟩
  unfold dfs
  rw [dif_pos hex]
  have z := hex.choose_spec.2
  exact (z ⟨"", "", (default : Arguments), [], (default : Scope), [], 0⟩).symm.trans (h _)
theorem dfs_at {i : Nat} {rest : NF → En → Oc Res} {ρ : En} (n : dfs i rest ρ ≠ .st) (F : NF) : rest F (ρ.set i (.fn F [] [])) = dfs i rest ρ := by
  unfold dfs at n ⊢
  by_cases h : ∃ o, okR o ∧ ∀ F, rest F (ρ.set i (.fn F [] [])) = o
  · rw [dif_pos h]
    exact h.choose_spec.2 F
  · rw [dif_neg h] at n
    exact absurd rfl n
section
variable {X : Cx} {W : WX} {U : XK} {fre : Fr} {sts : List Stmt}
theorem sss_def {c P : Addr} {q name : Str} {st : Stmt} {pos : Pos} {i : Nat} {rest : NF → En → Oc Res} (t : TbOk X c P) (C : Ctx X (up U)) (hst : st = .FunctionDef name (defArgs st) (defBody st) [] none [] (defScope st) none name pos) (hcode : X.env.code = .ref c) (hn : q = X.env.qual ++ name) (hpos : Gx.nstPos pos.line pos.col = some q)
    (hfree : ∀ y ∈ (defScope st).names, y.2 = .free → X.env.scope.names.lookup y.1 = some .cell ∨ X.env.scope.names.lookup y.1 = some .free) (hd0 : (defArgs st).defaults = []) (hk0 : (defArgs st).kw_defaults = []) (ha : annTrees (defArgs st) none X.env = [])
    (hi : X.N[i]? = some name) (hx : Loc X.env.scope name) (hf : X.fn name = true ∨ X.env.scope.names.lookup name = some .local)
    (hr : ∀ c', SSs X U fre sts (rest ⟨name, X.env.qual ++ name, defArgs st, defBody st, defScope st, cloFrom X.env.cells (defScope st).names [], c'⟩)) : SSs X U fre (st :: sts) (dfs i rest) := by
  have TBL : LamX.TabB X.base X.mg c P := ⟨t.tb.code, t.tb.bm, t.tb.gP⟩
  have h1 : PS X st (tNdefX P q i fun c' => ⟨name, X.env.qual ++ name, defArgs st, defBody st, defScope st, cloFrom X.env.cells (defScope st).names [], c'⟩) := by
    have z := ps_ndefX (X := X) (params := defArgs st) (body := defBody st) (scope := defScope st) (pos := pos) TBL hcode hn hpos hfree hd0 hk0 ha C.nd hi hx hf
    rw [← hst] at z
    exact z
  have h2 : PSs X sts (fun D σ H => ∃ c', tS X.K X.mg X.w U fre (rest ⟨name, X.env.qual ++ name, defArgs st, defBody st, defScope st, cloFrom X.env.cells (defScope st).names [], c'⟩) D σ H) := ⟨fun pins s σ H D I h => by
    obtain ⟨c', h⟩ := h
    exact (hr c').run pins s σ H D I h⟩
  refine PSs.weak (pss_cons h1 h2) fun D σ H ⟨G, ρ, me, G0, H0, B, p⟩ => ?_
  have np : dfs i rest ρ ≠ .st := fun z => by rw [z] at p; exact p
  obtain ⟨tx, gP⟩ := B.rel.tabs P t.is
  refine ⟨tx, fun f c' H1 m => ⟨c', ?_⟩⟩
  have x := Ext.made B.rel.sub tx gP m
  subst hn
  refine ⟨G, ρ.set i (.fn ⟨name, X.env.qual ++ name, defArgs st, defBody st, defScope st, cloFrom X.env.cells (defScope st).names [], c'⟩ [] []), me, G0, H0, (B.step x).setS i (o := some (.ref f)) ⟨f, rfl, m.fn, m.cod, .nil⟩ (fun d z => by cases z), ?_⟩
  rw [dfs_at np]
  revert p
  cases dfs i rest ρ with
  | st => exact id
  | ex c => exact id
  | ok r =>
    cases r with
    | nx ρ => exact id
    | rt d => exact id
    | bk ρ => exact id
    | ct ρ => exact id
end
/-! ### the function -/
def spN (K : PySem.W.Frag) (mg : Str → Option Value) (ww : World) (n : Nat) (Fol : List D → Oc D) : List (Option V) → Sp := fun ws vs H Q E => vs.length = n ∧ ∃ us G ds es, ws = us.map some ∧ Vw G H ∧ Tabs K G H ∧ RepL K mg ww G vs ds ∧ RepL K mg ww G us es ∧ PostE K mg ww E G H Q (Fol (ds ++ es))
section
variable {P : Program} {w : World} {base : Heap}
theorem ctx_ndef {N ps fr : List Str} {F : NF} {f : Addr} {A : Around} {outer : List Env} {s : Shared} {H : Hp} {E : XK} {k : Nat} (S : NScope N ps fr F.scope) (hr : Room k (A.deeper (envF F f s.heap.objs.size))) : Ctx (ncx (L2.CX P w) P w K mg base N F f A outer s H E) (up E) :=
  ⟨rfl, S.nd, takes_of rfl rfl rfl rfl, by have := hr.un; show (A.deeper (envF F f s.heap.objs.size)).units + 65 < cLine; omega⟩
theorem po_ndef {N : List Str} {F : NF} {f : Addr} {A : Around} {outer : List Env} {s : Shared} {H : Hp} {E : XK} :
    PassesOwn (model (ncx (L2.CX P w) P w K mg base N F f A outer s H E).prog (ncx (L2.CX P w) P w K mg base N F f A outer s H E).w) (ncx (L2.CX P w) P w K mg base N F f A outer s H E).A (ncx (L2.CX P w) P w K mg base N F f A outer s H E).env (ncx (L2.CX P w) P w K mg base N F f A outer s H E).xe := passes_of rfl
theorem nok_fx {N ps fr : List Str} {F : NF} {f : Addr} {k : Nat} {g : En → Oc Res} (S : NScope N ps fr F.scope) (hb : ∀ (doc pm ctv : Value) (us : List Value), us.length = ps.length → bindArgs (F.fd doc pm ctv) ⟨us, []⟩ = pure (ps.zip us))
    (hbody : ∀ (A : Around) (outer : List Env) (s : Shared) (H : Hp) (E : XK), Room k (A.deeper (envF F f s.heap.objs.size)) → Ctx (ncx (L2.CX P w) P w K mg base N F f A outer s H E) (up E) → SSs (ncx (L2.CX P w) P w K mg base N F f A outer s H E) E .s F.body g) :
    NOk P w K mg base (L2.CX P w) (k + 1) f F ps fr (spN K mg w ps.length (fnB N.length (ps.length + fr.length) g)) := by
  refine nok_of (N := N) S hb (fun ws vs H Q E h => h.1) fun A outer s H vs ws Q E hr hf hc hw h => ?_
  obtain ⟨hl, us, G, ds, es, rfl, sG, tb, r, r2, p⟩ := h
  refine ⟨_, hbody A outer s H E hr (ctx_ndef S hr), ?_⟩
  have hst : startF N vs (us.map some) = L2.start N (vs ++ us) := by
    unfold startF L2.start
    rw [List.map_append, List.append_assoc]
    congr 2
    rw [List.length_map, List.length_append, Nat.sub_sub]
  rw [hst]
  have rr := r.append r2
  have hl2 : (ds ++ es).length = ps.length + fr.length := by
    rw [← rr.length, List.length_append, hl]
    rw [List.length_map] at hw
    rw [hw]
  unfold fnB at p
  rw [decide_eq_true hl2] at p
  simp only [chk_true] at p
  have R := rel_start (N := N) sG tb rr
  rw [hl2] at R
  refine ⟨G, _, 0, G, H, ⟨R, .refl sG, fun i a d h1 _ => absurd h1 (noOwn i d), fun i c fs h1 => absurd h1 (noOwn i _)⟩, ?_⟩
  revert p
  unfold outR
  cases g ((ds ++ es).map .sh ++ List.replicate (N.length - (ps.length + fr.length)) .no) with
  | st => exact id
  | ex c => exact id
  | ok r =>
    simp only [bd_ok]
    cases r with
    | nx ρ => exact fun p σ G' H' B => p .non G' H' B.ext .non
    | rt d => exact fun p v G' H' x r => p v G' H' x r
    | bk ρ => exact fun p => p.elim
    | ct ρ => exact fun p => p.elim
end
/-! ### its call where it was handed to -/
structure FolOk (X : Cx) (kf : Nat) (F : NF) (us : List V) (es : List D) (Ψ : List D → Oc D) : Prop where
  ex : ∃ (psN fr : List Str) (Fol : List D → Oc D), Ψ = (fun ds => Fol (ds ++ es)) ∧ psN.length = 1 ∧ (∀ f, NOk X.prog X.w X.K X.mg X.base (L2.CX X.prog X.w) kf f F psN fr (spN X.K X.mg X.w 1 Fol)) ∧ CellsAt F.cl fr (us.map some) X.s_0.heap X.H_0
  nf : ∀ y c, F.cl.lookup y = some c → c ∉ X.fs
  nx : X.ex = []
open Classical in
noncomputable def calF (F : NF) (us : List V) (es : List D) (Ψ : List D → Oc D) (i : Nat) (fs : En → Oc (List D)) : En → Oc D := fun ρ => if ρ[i]? = some (.fn F us es) then bd (fs ρ) fun ds => chk (decide (ds.length = 1)) (Ψ ds) else .st
theorem calF_of {F : NF} {us : List V} {es : List D} {Ψ : List D → Oc D} {i : Nat} {fs : En → Oc (List D)} {ρ : En} (h : ρ[i]? = some (.fn F us es)) : calF F us es Ψ i fs ρ = bd (fs ρ) fun ds => chk (decide (ds.length = 1)) (Ψ ds) := by
  unfold calF
  rw [if_pos h]
section
variable {X : Cx} {W : WX} {U : XK} {fre : Fr} {e : Expr} {es : List Expr} {pos p : Pos} {x : Str} {i j k kf : Nat}
theorem runN {pins : List (Addr × Obj)} {σ : L2.St} {H : Hp} {s : Shared} {Q : VK} {f : Addr} {F : NF} {us : List Value} {vs : List V} {ps fr : List Str} {sp : List (Option V) → Sp} {ws : List (Option V)} (Fn : NOk X.prog X.w X.K X.mg X.base (L2.CX X.prog X.w) k f F ps fr sp) (hr : Room k X.A) (tk : Takes X W) (I : Inv X pins σ H s)
    (hf : H f = some (FnO f F)) (hc : H F.c = some (LamX.CodeO F.c F.qual)) (C : CellsAt F.cl fr ws s.heap H) (r : Vals vs us) (q : sp ws vs H Q fun c d H' => W c d σ H') :
    wpAny (model X.prog X.w) X.A (call (.ref f) us) (EP X pins σ Q) X.xe s := by
  refine wpAny_call (codeAny_mono (Fn.run X.A X.stack s H us vs _ Q _ hr I.env0 hf hc C r q) fun res s' z => ?_)
  cases res with
  | ok fl =>
    cases fl with
    | ret u => exact I.after z
    | next => cases z
    | brk => cases z
    | cont => cases z
  | error u => exact tk u s' (XE.of_call I (fun _ _ _ q => q) z)
theorem se_fol {F : NF} {us : List V} {ds : List D} {Ψ : List D → Oc D} {fs : En → Oc (List D)} (fo : FolOk X kf F us ds Ψ) (C : Ctx X W) (hr : Room kf X.A) (hN : X.N[i]? = some x) (hv : Vis X.env.scope x) (ha : SA X W (e :: es) fs)
    (hd : (x == ("__debug__" : Str)) = false := by decide) (hcd : (x == ("__classdict__" : Str)) = false := by decide)
    (he : starEach (e :: es) X.env = (false, eval e X.env) :: starEach es X.env := by rfl) (hpl : (backTo pos (starEach es X.env)).any (·.1) = false := by rfl) : SE X W (.Call (.Name x p) (e :: es) [] pos) (calF F us ds Ψ i fs) := by
  obtain ⟨psN, fr, Fol, hΨ, hp1, Fn, C0⟩ := fo.ex
  subst hΨ
  refine ⟨fun pins s σ H Q I h => ?_⟩
  obtain ⟨G, ρ, R, q⟩ := h
  unfold calF at q
  split at q
  · rename_i hsl
    obtain ⟨o, ho, a, rfl, hfa, hco, rus⟩ := R.get hsl
    refine wpAny_Call_Name_kw (thn ((pe_var (pos := p) hN hv hd hcd).run pins s σ H (fun v H1 => v = .ref a ∧ H1 = H) I ⟨.ref a, ho, rfl, rfl⟩) fun u s1 ⟨v, H1, I1, r1, q1⟩ => ?_)
    obtain ⟨ev, eH⟩ := q1
    subst ev
    subst eH
    obtain rfl : u = Value.ref a := r1
    refine PySem.W.callWith_F (first := []) (fnAt_of I1 hfa) (thn (ha.run pos pins s1 σ H1 (fun vs H2 => ∃ G2 es2, Ext G H1 G2 H2 ∧ RepL X.K X.mg X.w G2 vs es2 ∧ es2.length = 1 ∧ PostE X.K X.mg X.w (fun c d H' => W c d σ H') G2 H2 Q (Fol (es2 ++ ds))) I1 ⟨G, ρ, R, ?_⟩) fun us2 s2 ⟨vs, H2, I2, r, G2, es2, x2, rl, hl, p2⟩ => ⟨fnAt_of I2 (x2.hh.ob _ _ hfa (fun ps => fnO_ne ps) fun _ z => by cases z), ?_⟩) he hpl
    · revert q
      cases fs ρ with
      | st => exact id
      | ex c => exact id
      | ok es2 =>
        intro q vs G2 H2 x2 rl
        simp only [bd_ok] at q
        have q := PostE.imp x2 q fun _ _ z => z
        obtain ⟨c, q⟩ := q.chk
        exact ⟨G2, es2, x2, rl, of_decide_eq_true c, q⟩
    · show wpAny _ _ (call (.ref a) us2) _ _ _
      refine runN (Fn a) hr C.tk I2 (x2.hh.ob _ _ hfa (fun ps => fnO_ne ps) fun _ z => by cases z) (x2.hh.ob _ _ hco (fun ps => LamX.codeO_ne ps) fun _ z => by cases z) (CellsAt.later C0 fo.nf (fun y c _ z => by rw [fo.nx] at z; cases z) I2) r ⟨by rw [rl.length, hl], us, G2, es2, ds, rfl, x2.gh, (R.ext x2).tabs, rl, rus.same x2.gg, p2⟩
  · exact q.elim
end
/-! ### a def that takes a function -/
structure FnOkE (P : Program) (w : World) (K : PySem.W.Frag) (mg : Str → Option Value) (base : Heap) (k kf : Nat) (f : Addr) (fd : FuncData) (ps : List Str) (gE : NF → List V → List D → (List D → Oc D) → List D → Oc D) : Prop where
  run : ∀ (F : NF) (psN fr : List Str) (us : List V) (es : List D) (Fol : List D → Oc D) (A : Around) (outer : List Env) (s : Shared) (H : Hp) (args : Args) (us0 : List Value) (v0 v2 : V) (fa : Addr) (G : Hp) (d m : D) (Q : VK) (E : XK), psN.length = 1 →
    (∀ f, NOk P w K mg base (L2.CX P w) kf f F psN fr (spN K mg w 1 Fol)) → Room k A → Env0 P w K mg base A outer s H → BindsTo s fd args (ps.zip us0) → us0.length = ps.length → Vals [v0, .ref fa, v2] us0 → CellsAt F.cl fr (us.map some) s.heap H → (∀ y c, F.cl.lookup y = some c → c ∉ frs outer) →
    Vw G H → Tabs K G H → Rep K mg w G v0 d → Rep K mg w G v2 m → RepL K mg w G us es → H fa = some (FnO fa F) → H F.c = some (LamX.CodeO F.c F.qual) → PostE K mg w E G H Q (gE F us es (fun ds => Fol (ds ++ es)) [d, m]) →
    codeAny (model P w) A (.call (.ref f) args) (CR (L2.CX P w) outer P w H s Q E) s
structure KnE (P : Program) (w : World) (K : PySem.W.Frag) (mg : Str → Option Value) (base : Heap) (k kf : Nat) (x : Str) (gE : NF → List V → List D → (List D → Oc D) → List D → Oc D) : Prop where
  ex : ∃ (f : Addr) (fd : FuncData) (ps : List Str), FnOkE P w K mg base k kf f fd ps gE ∧ mg x = some (.ref f) ∧ PySem.W.keepIn K (.ref f) = true ∧ Binds K fd ps [] ∧ ps.length = 3
abbrev XKnE (X : Cx) := KnE X.prog X.w X.K X.mg X.base
def capt (ρ : En) : List Nat → Option (List D)
  | [] => some []
  | j :: js => match ρ[j]?, capt ρ js with
    | some (.sh d), some ds => some (d :: ds)
    | _, _ => none
theorem capt_rel {G H : Hp} {ρ : En} {σ : L2.St} (R : Rel K mg ww G H ρ σ) : ∀ {js : List Nat} {es : List D}, capt ρ js = some es → ∃ us, js.map (slotAt σ) = us.map some ∧ RepL K mg ww G us es
  | [], es, h => by cases h; exact ⟨[], rfl, .nil⟩
  | j :: js, es, h => by
    unfold capt at h
    split at h
    · rename_i d ds h1 h2
      cases h
      obtain ⟨us, e1, r1⟩ := capt_rel R h2
      obtain ⟨o, ho, v, rfl, r⟩ := R.get h1
      exact ⟨v :: us, by rw [List.map_cons, List.map_cons, slotAt_of ho, e1], .cons r r1⟩
    · cases h
open Classical in
noncomputable def xpl (F : NF) (js : List Nat) (j : Nat) (Fol : List D → Oc D) (gE : NF → List V → List D → (List D → Oc D) → List D → Oc D) (fa fm : En → Oc D) : En → Oc D := fun ρ => if ρ[j]? = some (.fn F [] []) then bd (fa ρ) fun d => bd (fm ρ) fun m => match capt ρ js with
    | some es => if h : ∃ o, ∀ us, gE F us es (fun ds => Fol (ds ++ es)) [d, m] = o then h.choose else .st
    | none => .st
  else .st
theorem xpl_of {F : NF} {js : List Nat} {j : Nat} {Fol : List D → Oc D} {gE : NF → List V → List D → (List D → Oc D) → List D → Oc D} {fa fm : En → Oc D} {ρ : En} {d m : D} {es : List D} {o : Oc D} (h1 : fa ρ = .ok d) (h2 : fm ρ = .ok m) (h3 : ρ[j]? = some (.fn F [] [])) (h4 : capt ρ js = some es) (h5 : ∀ us, gE F us es (fun ds => Fol (ds ++ es)) [d, m] = o) :
    xpl F js j Fol gE fa fm ρ = o := by
  unfold xpl
  rw [if_pos h3, h1, h2]
  simp only [bd_ok]
  rw [h4]
  have hex : ∃ o, ∀ us, gE F us es (fun ds => Fol (ds ++ es)) [d, m] = o := ⟨o, h5⟩
  simp only
  rw [dif_pos hex]
  exact (hex.choose_spec []).symm.trans (h5 [])
section
variable {X : Cx} {W : WX} {U : XK} {fre : Fr} {a b e : Expr} {es : List Expr} {pos p py : Pos} {x y : Str} {i j k kf : Nat}
theorem cells_nf {pins : List (Addr × Obj)} {σ : L2.St} {H : Hp} {s : Shared} {cl : List (Str × Addr)} {fr : List Str} {js : List Nat} (I : Inv X pins σ H s) (cp : Caps X cl fr js) (hcell : ∀ y, X.fn y = true) (hst : X.stack = X.env :: X.outer) (hfr : X.env.frame = some X.env.locals) (y : Str) (c : Addr) (e : cl.lookup y = some c) : c ∉ frs X.stack := by
  have e2 := cp.sub y c e
  intro z
  rw [hst] at z
  unfold frs at z
  rw [List.filterMap_cons, hfr] at z
  rcases List.mem_cons.mp z with z | z
  · exact I.cne y c e2 z
  · obtain ⟨_, o, ho, _⟩ := I.ok.funs.mem z
    exact absurd (Heap.lt_size ho) (Nat.not_lt.mpr (I.ok.cab y c (hcell y) e2))
theorem se_xpl {F : NF} {js : List Nat} {Fol : List D → Oc D} {gE : NF → List V → List D → (List D → Oc D) → List D → Oc D} {fa fm : En → Oc D} {psN fr : List Str} (kn : XKnE X k kf x gE) (Fn : ∀ f, NOk X.prog X.w X.K X.mg X.base (L2.CX X.prog X.w) kf f F psN fr (spN X.K X.mg X.w 1 Fol)) (hpn : psN.length = 1) (cp : X.Ok → Caps X F.cl fr js) (hcell : ∀ y, X.fn y = true) (C : Ctx X W) (hr : Room k X.A) (hg : Gl X x)
    (hN : X.N[j]? = some y) (hv : Vis X.env.scope y) (ha : SE X W a fa) (hb : SE X W b fm) (hst : X.stack = X.env :: X.outer) (hfr : X.env.frame = some X.env.locals)
    (hd : (y == ("__debug__" : Str)) = false := by decide) (hcd : (y == ("__classdict__" : Str)) = false := by decide) (hdb : (x == ("__debug__" : Str)) = false := by decide)
    (he : starEach (a :: [.Name y py, b]) X.env = (false, eval a X.env) :: starEach [.Name y py, b] X.env := by rfl) (he2 : starEach (.Name y py :: [b]) X.env = (false, eval (.Name y py) X.env) :: starEach [b] X.env := by rfl) (he3 : starEach (b :: []) X.env = (false, eval b X.env) :: starEach [] X.env := by rfl) (hpl : (backTo pos (starEach [.Name y py, b] X.env)).any (·.1) = false := by rfl) :
    SE X W (.Call (.Name x p) [a, .Name y py, b] [] pos) (xpl F js j Fol gE fa fm) := by
  obtain ⟨f, fd, ps, ok, gm, kp, bi, hps⟩ := kn.ex
  refine ⟨fun pins s σ H Q I h => wpAny_Call_Name_kw (ld_glob I hg gm ?_ hdb)⟩
  have hpa := pa_cons ha (pa_cons (pe_var (pos := py) hN hv hd hcd) (pa_cons hb pa_nil he3) he2) he
  refine PySem.W.callWith_K (h₀ := X.base) I.ok.mod.kin kp (thn (hpa.run pos pins s σ H (fun vs H1 => ∃ v0 v2 fa' G1 d m es us, vs = [v0, .ref fa', v2] ∧ Vw G1 H1 ∧ Tabs X.K G1 H1 ∧ Rep X.K X.mg X.w G1 v0 d ∧ Rep X.K X.mg X.w G1 v2 m ∧ RepL X.K X.mg X.w G1 us es ∧ js.map (slotAt σ) = us.map some ∧ H1 fa' = some (FnO fa' F) ∧ H1 F.c = some (LamX.CodeO F.c F.qual) ∧ PostE X.K X.mg X.w (fun c d H' => W c d σ H') G1 H1 Q (gE F us es (fun ds => Fol (ds ++ es)) [d, m])) I ?_) fun us0 s1 ⟨vs, H1, I1, r, v0, v2, fa', G1, d, m, es, us, e1, sG, tb, r0, r2, ru, hjs, hfa, hco, q⟩ => ⟨I1.kIn, ?_⟩) he hpl
  · obtain ⟨G, ρ, R, q⟩ := h
    refine ⟨G, ρ, R, ?_⟩
    unfold xpl at q
    by_cases hsl : ρ[j]? = some (.fn F [] [])
    · rw [if_pos hsl] at q
      obtain ⟨o, ho, fa', rfl, hfa, hco, _⟩ := R.get hsl
      revert q
      cases fa ρ with
      | st => exact id
      | ex c => exact id
      | ok d =>
        intro q v0 G1 H1 x1 r0
        simp only [bd_ok] at q
        have R1 := R.ext x1
        refine ⟨.ref fa', ho, G1, ρ, R1, ?_⟩
        have q := PostE.imp x1 q fun _ _ z => z
        revert q
        cases fm ρ with
        | st => exact id
        | ex c => exact id
        | ok m =>
          intro q v2 G2 H2 x2 r2
          simp only [bd_ok] at q
          have q := PostE.imp x2 q fun _ _ z => z
          have R2 := R1.ext x2
          cases hc : capt ρ js with
          | none => rw [hc] at q; exact q.elim
          | some es =>
            rw [hc] at q
            simp only at q
            by_cases hex : ∃ o, ∀ us, gE F us es (fun ds => Fol (ds ++ es)) [d, m] = o
            · rw [dif_pos hex] at q
              obtain ⟨us, hjs, ru⟩ := capt_rel R2 hc
              rw [← hex.choose_spec us] at q
              have x12 := x1.trans x2
              exact ⟨v0, v2, fa', G2, d, m, es, us, rfl, x2.gh, R2.tabs, r0.same x2.gg, r2, ru, hjs, x12.hh.ob _ _ hfa (fun ps => fnO_ne ps) (fun _ z => by cases z), x12.hh.ob _ _ hco (fun ps => LamX.codeO_ne ps) (fun _ z => by cases z), q⟩
            · rw [dif_neg hex] at q
              exact q.elim
    · rw [if_neg hsl] at q
      exact q.elim
  · subst e1
    have hl : us0.length = ps.length := by rw [← r.length, hps] <;> rfl
    have hC := cells_of I1 (cp I1.ok)
    rw [hjs] at hC
    have bt := bi s1 us0 I1.kIn (by rw [List.append_nil]; exact hl)
    rw [List.append_nil] at bt
    refine wpAny_call (codeAny_mono (ok.run F psN fr us es Fol X.A X.stack s1 H1 ⟨us0, []⟩ us0 v0 v2 fa' G1 d m Q _ hpn Fn hr I1.env0 bt hl r hC (cells_nf I1 (cp I1.ok) hcell hst hfr) sG tb r0 r2 ru hfa hco q) fun res s' z => ?_)
    cases res with
    | ok fl =>
      cases fl with
      | ret u => exact I1.after z
      | next => cases z
      | brk => cases z
      | cont => cases z
    | error u => exact C.tk u s' (XE.of_call I1 (fun _ _ _ q => q) z)
end
section
variable {P : Program} {w : World} {base : Heap}
theorem fnE_ok {x qual : Str} {pa : Arguments} {bd : List Stmt} {sc : Scope} {dvs : List V} {kws : List (Str × V)} {f : Addr} {fd : FuncData} {N ps : List Str} {k kf : Nat} {g : NF → List V → List D → (List D → Oc D) → En → Oc Res} (F : FunD K x qual pa bd sc dvs kws f fd) (S : FnScope N ps sc) (hps : ps.length = 3)
    (hb : ∀ (cdv : Value) (A : Around) (outer : List Env) (s : Shared) (H : Hp) (E : XK) (Fn : NF) (us : List V) (es : List D) (Ψ : List D → Oc D), fd.code = cdv → Room k (A.deeper (envOfC qual sc s.heap.objs.size f cdv)) → Ctx (cxOf (L2.CX P w) P w K mg base N qual sc f cdv A outer s H E) (up E) → FolOk (cxOf (L2.CX P w) P w K mg base N qual sc f cdv A outer s H E) kf Fn us es Ψ →
      SSs (cxOf (L2.CX P w) P w K mg base N qual sc f cdv A outer s H E) E .s bd (g Fn us es Ψ)) :
    FnOkE P w K mg base (k + 1) kf f fd ps (fun Fn us es Ψ ds => match ds with | [d, m] => outR (g Fn us es Ψ ([.sh d, .fn Fn us es, .sh m] ++ List.replicate (N.length - 3) .no)) | _ => .st) := by
  obtain ⟨oc, od, dV, kV, doc, pm, an, cdv, ct, osl, rfl, lk, hcd, _, _⟩ := F.ex
  refine ⟨fun Fn psN fr us es Fol A outer s H args us0 v0 v2 fa G d m Q E hpn hN hr e0 hbt hl r hC nf sG tb r0 r2 ru hfa hco q => ?_⟩
  have KX : K.In s.heap := e0.mod.kin.keeps fun b o e => (e0.bs b o e).1
  have lim : s.heap.NoLimit := e0.mod.nolimit.keeps fun b o e => (e0.bs b o e).1
  have hkind : ∀ y ∈ ps.zip us0, sc.names.lookup y.1 = some .local ∨ (sc.names.lookup y.1 = some .cell ∧ ((cellsFrom (s.heap.objs.size + 1) sc.names []).lookup y.1).isSome = true) := fun ⟨n, v⟩ hy => by
    rcases S.par n (List.of_mem_zip hy).1 with q | q
    · exact .inl q
    · exact .inr ⟨q, PySem.W.cellsFrom_some _ _ _ (.inl q)⟩
  refine codeAny_call_function hr.depth (KX _ _ lk) rfl S.co S.gen rfl (PySem.W.codeRec_of KX hcd) (hbt _ _ _ _ ?_)
  refine wpAny_newFunctionEnv_cells S.kind hkind fun env he s1 x => ?_
  subst he
  refine ⟨lim.keeps x.toInCall.keep, codeAny_func ?_⟩
  have I : Inv (cxOf (L2.CX P w) P w K mg base N qual sc f cdv A outer s H E) [] (start N [v0, .ref fa, v2]) H s1 := inv_start S hr.hd e0 (by rw [hps] <;> rfl) r x
  have fo : FolOk (cxOf (L2.CX P w) P w K mg base N qual sc f cdv A outer s H E) kf Fn us es (fun ds => Fol (ds ++ es)) := ⟨⟨psN, fr, Fol, rfl, hpn, hN, hC⟩, nf, rfl⟩
  have hN3 : 3 ≤ N.length := by
    have := congrArg List.length S.pre
    rw [List.length_take] at this
    omega
  have hq : tS K mg w E .s (g Fn us es fun ds => Fol (ds ++ es)) { nx := fun _ H' => Q .non H', rt := Q } (start N [v0, .ref fa, v2]) H := by
    have R0 := rel_start (N := N) sG tb (RepL.cons r0 (RepL.cons (.non) (RepL.cons r2 .nil)))
    have R1 := R0.setS 1 (o := some (.ref fa)) (s := .fn Fn us es) ⟨fa, rfl, hfa, hco, ru⟩ fun d z => by cases z
    have e1 : (([d, D.non, m].map Sl.sh ++ List.replicate (N.length - [d, D.non, m].length) Sl.no).set 1 (.fn Fn us es)) = [.sh d, .fn Fn us es, .sh m] ++ List.replicate (N.length - 3) .no := rfl
    have e2 : (start N [v0, .non, v2]).set 1 (some (.ref fa)) = start N [v0, .ref fa, v2] := rfl
    rw [e1, e2] at R1
    have no : ∀ (i : Nat) (d' : D), ([Sl.sh d, .fn Fn us es, .sh m] ++ List.replicate (N.length - 3) .no)[i]? ≠ some (.ow d') := fun i d' z => by
      rcases i with _ | _ | _ | i
      · cases z
      · cases z
      · cases z
      · rw [List.getElem?_append_right (by simp), List.getElem?_replicate] at z
        split at z <;> cases z
    refine ⟨G, _, 0, G, H, ⟨R1, .refl sG, fun i a d' h1 _ => absurd h1 (no i d'), fun i c fs h1 => absurd h1 (no i _)⟩, ?_⟩
    revert q
    simp only
    unfold outR
    cases g Fn us es (fun ds => Fol (ds ++ es)) ([.sh d, .fn Fn us es, .sh m] ++ List.replicate (N.length - 3) .no) with
    | st => exact id
    | ex c => exact id
    | ok r =>
      simp only [bd_ok]
      cases r with
      | nx ρ => exact fun p σ G' H' B => p .non G' H' B.ext .non
      | rt d => exact fun p v G' H' x r => p v G' H' x r
      | bk ρ => exact fun p => p.elim
      | ct ρ => exact fun p => p.elim
  have hd := hr.deeper (envOfC qual sc s.heap.objs.size f cdv)
  refine wpAny_mono ((hb cdv A outer s H E Fn us es _ rfl hd (ctx_def S hd) fo).run [] s1 (start N [v0, .ref fa, v2]) H _ I hq) (fun fl s' hs => ?_) fun e s' hs => hs
  have fin : ∀ {σ' : L2.St} {H' : Hp} {v : V} {u : Value}, Inv (cxOf (L2.CX P w) P w K mg base N qual sc f cdv A outer s H E) [] σ' H' s' → RelV v u → Q v H' → CE outer P w H s Q u s' :=
    fun {σ' H' v u} J rv q => ⟨v, H', J.os, J.bare, J.base, J.hok, rv, q⟩
  cases fl with
  | ret u =>
    obtain ⟨v, σ', H', J, rv, q⟩ := hs
    exact fin J rv q
  | next =>
    obtain ⟨σ', H', J, q⟩ := hs
    exact fin (v := V.non) (u := Value.none) J rfl q
  | brk =>
    obtain ⟨_, _, _, q⟩ := hs
    exact False.elim q
  | cont =>
    obtain ⟨_, _, _, q⟩ := hs
    exact False.elim q
end
end Fx

set_option Elab.async false
set_option linter.all false
set_option maxRecDepth 100000
set_option maxHeartbeats 4000000
/-! Fx23: zip, displays of dicts, dict of pairs, get, try: x = e; except C. -/
namespace Fx
open PySem PySem.Spec PyProof.Rows L2 Sx
variable {K : PySem.W.Frag} {mg : Str → Option Value} {ww : World} {me : Addr}
/-! ### zip -/
def zipL : List D → List D → List D
  | x :: xs, y :: ys => .tup [x, y] :: zipL xs ys
  | _, _ => []
theorem zipL_len : ∀ {xs ys : List D}, (zipL xs ys).length = min xs.length ys.length
  | [], ys => by simp [zipL]
  | _ :: _, [] => by simp [zipL]
  | x :: xs, y :: ys => by
    have := zipL_len (xs := xs) (ys := ys)
    unfold zipL
    rw [List.length_cons, List.length_cons, List.length_cons, this]
    omega
theorem zipL_get : ∀ {xs ys : List D} {i : Nat} {d : D}, (zipL xs ys)[i]? = some d → ∃ x y, xs[i]? = some x ∧ ys[i]? = some y ∧ d = .tup [x, y]
  | [], ys, i, d, h => by simp [zipL] at h
  | _ :: _, [], i, d, h => by simp [zipL] at h
  | x :: xs, y :: ys, 0, d, h => by simp [zipL] at h; exact ⟨x, y, rfl, rfl, h.symm⟩
  | x :: xs, y :: ys, i + 1, d, h => by
    obtain ⟨a, b, h1, h2, h3⟩ := zipL_get (xs := xs) (ys := ys) (i := i) (d := d) (by simpa [zipL] using h)
    exact ⟨a, b, by simpa using h1, by simpa using h2, h3⟩
theorem sqB_vw {k : Bool} {H H' : Hp} {a : Addr} {xs : List V} (e : Vw H H') (h : SqB K k H a xs) : SqB K k H' a xs := by
  unfold SqB at h ⊢
  split
  · rename_i z; rw [if_pos z] at h; exact e.sqT h
  · rename_i z; rw [if_neg z] at h; exact e.seq h
theorem sqB_same {k : Bool} {H H' : Hp} {a : Addr} {xs : List V} (e : Same H H') (h : SqB K k H a xs) : SqB K k H' a xs := by
  unfold SqB at h ⊢
  split
  · rename_i z; rw [if_pos z] at h; exact SqT.same e h
  · rename_i z; rw [if_neg z] at h; exact e.seq h
theorem yld_zip {G' : Hp} {a b : Addr} {k1 k2 : Bool} {xs ys : List V} {ds es : List D} (h1 : SqB K k1 G' a xs) (h2 : SqB K k2 G' b ys) (r1 : RepL K mg ww G' xs ds) (r2 : RepL K mg ww G' ys es) : Yld K mg ww (ItzB K k1 k2 a b) G' (zipL ds es) := by
  have l1 := r1.length
  have l2 := r2.length
  refine ⟨fun i G H hi s1 s2 => ?_, fun G H s1 s2 => ?_, fun i d x G H H' hd s1 s2 y => ?_⟩
  · rw [zipL_len] at hi
    have i1 : i < xs.length := by omega
    have i2 : i < ys.length := by omega
    exact ⟨xs, ys, xs[i], ys[i], sqB_vw s2 (sqB_same s1 h1), sqB_vw s2 (sqB_same s1 h2), by simp [i1], by simp [i2]⟩
  · exact ⟨xs, ys, sqB_vw s2 (sqB_same s1 h1), sqB_vw s2 (sqB_same s1 h2), by rw [zipL_len]; omega, by rw [zipL_len]; omega, by rw [zipL_len]; omega⟩
  · obtain ⟨T, x', y', rfl, hT, rfl, g1, g2⟩ := y
    obtain ⟨d1, d2, e1, e2, rfl⟩ := zipL_get hd
    obtain ⟨u1, f1, q1⟩ := r1.get e1
    obtain ⟨u2, f2, q2⟩ := r2.get e2
    have z1 := g1 xs (sqB_vw s2 (sqB_same s1 h1))
    have z2 := g2 ys (sqB_vw s2 (sqB_same s1 h2))
    rw [f1] at z1
    rw [f2] at z2
    have x := Ext.new (o := .tup [x', y']) s2 hT
    obtain rfl := Option.some.inj z1
    obtain rfl := Option.some.inj z2
    exact ⟨_, x, .tup (.inl (.inl upd_same)) (.cons ((q1.same s1).same x.gg) (.cons ((q2.same s1).same x.gg) .nil))⟩
def zipI (fs : En → Oc (List D)) : En → Oc (List D) := fun ρ => bd (fs ρ) fun ds => match ds with
  | [a, b] => match items a, items b with
    | some xs, some ys => .ok (zipL xs ys)
    | _, _ => .st
  | _ => .st
theorem Rep.sqB {G : Hp} {v : V} {d : D} {ds : List D} (r : Rep K mg ww G v d) (h : items d = some ds) : ∃ a k xs, v = .ref a ∧ SqB K k G a xs ∧ RepL K mg ww G xs ds := by
  cases d with
  | lst es =>
    cases h
    cases r with
    | lst h r => exact ⟨_, false, _, rfl, by unfold SqB; rw [if_neg (by decide)]; exact SqL.of h, r⟩
  | tup es =>
    cases h
    cases r with
    | tup h r => exact ⟨_, true, _, rfl, by unfold SqB; rw [if_pos rfl]; exact h, r⟩
  | fz es =>
    cases h
    cases r with
    | fz h r => exact ⟨_, false, _, rfl, by unfold SqB; rw [if_neg (by decide)]; exact h, r⟩
  | _ => cases h
section
variable {X : Cx} {W : WX} {U : XK} {fre : Fr} {a b c e : Expr} {es : List Expr} {f g h : En → Oc D} {fs : En → Oc (List D)} {pos p tpos : Pos}
theorem si_zip {elts : List Expr} {kk : Nat} (hg : Gl X "zip") (hm : X.mg "zip" = none) (ha : SA X W [a, b] fs)
    (hs : starEach [a, b] X.env = (false, eval a X.env) :: starEach [b] X.env := by rfl) (hpl : (backTo pos (starEach [b] X.env)).any (·.1) = false := by rfl) : SI X W (.Tuple elts kk tpos) (.Call (.Name "zip" p) [a, b] [] pos) (zipI fs) := PI.weak (pi_zipB hg hm ha hs hpl) fun σ H Q ⟨G, ρ, R, q⟩ => by
  refine ⟨G, ρ, R, ?_⟩
  revert q
  unfold zipI
  cases fs ρ with
  | st => exact id
  | ex c => exact id
  | ok ds =>
    intro q vs G1 H1 x1 r
    simp only [bd_ok] at q
    split at q
    · rename_i d1 d2
      split at q
      · rename_i xs ys h1 h2
        cases r with
        | cons ra r =>
          cases r with
          | cons rb r =>
            cases r
            obtain ⟨a', k1, us, rfl, s1, l1⟩ := ra.sqB h1
            obtain ⟨b', k2, ws, rfl, s2, l2⟩ := rb.sqB h2
            exact ⟨a', b', us, ws, k1, k2, rfl, sqB_vw x1.gh s1, sqB_vw x1.gh s2, q _ G1 H1 x1 (yld_zip s1 s2 l1 l2)⟩
      · exact q.elim
    · exact q.elim
/-! ### dicts' displays -/
def dsp1 (fk fv : En → Oc D) : En → Oc D := fun ρ => bd (fk ρ) fun k => bd (fv ρ) fun v => match inK [] k with
  | some _ => .ok (.dct [k] [v])
  | none => .st
theorem notFn_dct {H : Hp} {w : World} {p : Addr} {xs : List Ent} (e : H p = some (DctNO w p xs)) : NotFn H p := ⟨fun ps z => by rw [e] at z; exact HO.noConfusion (Option.some.inj z), fun q z => by rw [e] at z; exact dct_ne_code (Option.some.inj z), fun q z => by rw [e] at z; exact dct_ne_fn (Option.some.inj z)⟩
theorem dct_tbl {w : World} {p : Addr} {xs : List Ent} (ps : Array Value) : DctNO w p xs ≠ .tbl ps := fun z => by unfold DctNO at z; cases z
theorem sf_dsp1 (hu : X.A.units + 65 < cLine) (ha : SE X W a f) (hb : SE X W b g) : SF X W (.Dict [some a] [b] pos) (dsp1 f g) := PE.weak (pe_disp1 hu ha hb) fun σ H Q ⟨G, ρ, R, q⟩ p hp => by
  have x0 := Ext.newH (o := DctNO X.w p []) R.sub hp
  refine ⟨G, ρ, R.ext x0, ?_⟩
  revert q
  unfold dsp1
  cases f ρ with
  | st => exact id
  | ex c => exact fun q C G' H' x m => q C G' H' (x0.trans x) m
  | ok k =>
    intro q v1 G1 H1 x1 r1
    have x01 := x0.trans x1
    refine ⟨G1, ρ, R.ext x01, ?_⟩
    revert q
    simp only [bd_ok]
    cases g ρ with
    | st => exact id
    | ex c => exact fun q C G' H' x m => q C G' H' (x01.trans x) m
    | ok v =>
      intro q v2 G2 H2 x2 r2
      simp only [bd_ok] at q
      cases hk : inK [] k with
      | none => rw [hk] at q; exact q.elim
      | some t =>
        rw [hk] at q
        simp only at q
        obtain ⟨ks, k', h1, h2, ht, hd, _⟩ := inK_some hk
        obtain ⟨b', rfl⟩ := tup_ref r1 ht
        have x12 := x1.trans x2
        have x02 := x01.trans x2
        have e2 : H2 p = some (DctNO X.w p []) := x12.hh.ob _ _ upd_same (fun ps => dct_tbl ps) (fun _ z => by cases z)
        have g2 : G2 p = none := x12.nc p _ upd_same (R.sub.free hp)
        have r1' := r1.same x2.gg
        refine ⟨e2, b', k', rfl, r1'.ka x2.gh h2 hd, ?_⟩
        refine q p G2 _ ⟨x02.hh.upd hp (notFn_dct e2), x02.gg, fun c u e => ?_, x02.nc⟩ hp g2 ⟨[(k', b', v2)], upd_same, .cons r1' .nil, ?_, ?_, .cons r2 .nil⟩
        · exact (x02.gh _ _ e).upd (ne_of_none e g2)
        · show keyNs [k] = some [k']
          unfold keyNs
          rw [h2]; rfl
        · intro z hz
          have : z = k' := by simpa using hz
          rw [this]; exact hd
theorem sf_dsp0 : SF X W (.Dict [] [] pos) (cst (.dct [] [])) := PE.weak pe_disp0 fun σ H Q ⟨G, ρ, R, q⟩ p hp =>
  q p G _ (Ext.newH (o := DctNO X.w p []) R.sub hp) hp (R.sub.free hp) ⟨[], upd_same, .nil, rfl, fun k hk => absurd hk List.not_mem_nil, .nil⟩
theorem sf_dspS : SF X W (.Dict [] [] pos) (cst (.dks [] [])) := PE.weak pe_dnewK fun σ H Q ⟨G, ρ, R, q⟩ p hp =>
  q p G _ (Ext.newH (o := .dK []) R.sub hp) hp (R.sub.free hp) ⟨[], upd_same, rfl, List.nodup_nil, .nil⟩
/-! ### dict of pairs; get -/
def prsD : List D → Option (List Str × List D)
  | [] => some ([], [])
  | .tup [.str k, v] :: ds => match prsD ds with
    | some (ks, vs) => some (k :: ks, v :: vs)
    | none => none
  | _ => none
def dctP (d : D) : Oc D := match items d with
  | some ds => match prsD ds with
    | some (ks, vs) => chk (decide ks.Nodup) (.ok (.dks ks vs))
    | none => .st
  | none => .st
theorem mergeK_nodup : ∀ {more kvs : List (Key × V)}, ((kvs ++ more).map (·.1)).Nodup → mergeK kvs more = kvs ++ more
  | [], kvs, _ => by simp [mergeK]
  | q :: more, kvs, h => by
    have hq : ∀ z ∈ kvs, ¬ z.1 = q.1 := fun z hz e => by
      rw [List.map_append, List.map_cons] at h
      exact (List.nodup_append.mp h).2.2 z.1 (List.mem_map.mpr ⟨z, hz, rfl⟩) q.1 List.mem_cons_self e
    have e1 : putK kvs q.1 q.2 = kvs ++ [q] := by
      unfold putK
      rw [if_neg]
      simp only [List.any_eq_true, decide_eq_true_eq, not_exists, not_and]
      exact fun z hz => hq z hz
    unfold mergeK
    rw [List.foldl_cons, e1]
    have ih := mergeK_nodup (more := more) (kvs := kvs ++ [q]) (by rw [List.append_assoc]; exact h)
    unfold mergeK at ih
    rw [ih, List.append_assoc]; rfl
theorem prs_rep {G : Hp} : ∀ {ds : List D} {xs : List V} {ks : List Str} {vs : List D}, RepL K mg ww G xs ds → prsD ds = some (ks, vs) →
    ∃ (ps : List Addr) (kvs : List (Key × V)), xs = ps.map V.ref ∧ Paired (fun p kv => SqT K G p [kV kv.1, kv.2]) ps kvs ∧ kvs.map (·.1) = ks.map Sum.inr ∧ RepL K mg ww G (kvs.map (·.2)) vs
  | [], xs, ks, vs, r, h => by
    cases h
    cases r
    exact ⟨[], [], rfl, .nil, rfl, .nil⟩
  | d :: ds, xs, ks, vs, r, h => by
    unfold prsD at h
    split at h
    · rename_i heq; cases heq
    · rename_i k v ds' heq
      cases heq
      split at h
      · rename_i ks' vs' h2
        cases h
        cases r with
        | cons r t =>
          obtain ⟨ps, kvs, e1, e2, e3, e4⟩ := prs_rep t h2
          cases r with
          | tup hs rl =>
            rename_i a ys
            obtain ⟨y1, y2, rfl, q1, q2⟩ : ∃ y1 y2, ys = [y1, y2] ∧ Rep K mg ww G y1 (.str k) ∧ Rep K mg ww G y2 v := by
              cases rl with
              | cons q1 rl =>
                cases rl with
                | cons q2 rl =>
                  cases rl
                  exact ⟨_, _, rfl, q1, q2⟩
            cases q1
            exact ⟨a :: ps, (.inr k, y2) :: kvs, by rw [e1]; rfl, .cons hs e2, by rw [List.map_cons, List.map_cons, e3], .cons q2 e4⟩
      · cases h
    · cases h
theorem Paired.imp {α β : Type} {F F' : α → β → Prop} (h : ∀ a b, F a b → F' a b) : ∀ {l : List α} {m : List β}, Paired F l m → Paired F' l m
  | _, _, .nil => .nil
  | _, _, .cons q t => .cons (h _ _ q) (Paired.imp h t)
theorem Rep.sqLx {G : Hp} {v : V} {ds : List D} (r : Rep K mg ww G v (.lst ds)) : ∃ a xs, v = .ref a ∧ SqL K G a xs ∧ RepL K mg ww G xs ds := by
  cases r with
  | lst h r => exact ⟨_, _, rfl, SqL.of h, r⟩
def dctPL (d : D) : Oc D := match d with
  | .lst ds => dctP (.lst ds)
  | _ => .st
theorem sf_dctP (C : Ctx X W) (hg : Gl X "dict") (hm : X.mg "dict" = none) (ha : SQ X W a f) (he : starEach [a] X.env = (false, eval a X.env) :: starEach [] X.env := by rfl) : SF X W (.Call (.Name "dict" p) [a] [] pos) (un dctPL f) :=
  sf_un (fun ha => pe_T1 (call_dictP C.calm) hg hm (by decide +kernel) ha (by decide) (by decide) he) (fun {G H x d1 Q U} s r q => by
    unfold dctPL at q
    split at q
    · rename_i ds
      unfold dctP at q
      simp only [items] at q
      split at q
      · rename_i ks vs hp
        obtain ⟨c, q⟩ := q.chk
        have nd := of_decide_eq_true c
        obtain ⟨l, xs, e, hl, rl⟩ := r.lst s
        subst e
        obtain ⟨ps, kvs, rfl, e2, e3, e4⟩ := prs_rep rl hp
        refine ⟨l, ps, kvs, rfl, SqL.of hl, Paired.imp (fun a b z => s.sqT z) e2, fun p hp => ?_⟩
        rw [mergeK_nodup (by rw [List.nil_append, e3]; exact List.Pairwise.map _ (fun a b hab z => hab (Sum.inr.inj z)) nd), List.nil_append]
        exact q p G _ (Ext.newH (o := .dK kvs) s hp) hp (s.free hp) ⟨kvs, upd_same, e3, nd, e4⟩
      · exact q.elim
    · exact q.elim) ha
def getM (d k : D) : Oc D := match d with
  | .dks ks vs => match k with
    | .str x => match getS ks vs x with
      | some v => .ok v
      | none => .ok .non
    | _ => .st
  | _ => .st
def isDks : D → Bool
  | .dks _ _ => true
  | _ => false
def getE (f g : En → Oc D) : En → Oc D := fun ρ => bd (f ρ) fun d => chk (isDks d) (bd (g ρ) fun k => getM d k)
theorem se_get {apos : Pos} (hu : X.A.units + 65 < cLine) (ha : SQ X W a f) (hb : SE X W b g) (m : M1 X a "get" apos b pos) : SE X W (.Call (.Attribute a "get" apos) [b] [] pos) (getE f g) := PE.weak (pe_dget1 (by omega) ha hb m) fun σ H Q ⟨G, ρ, R, q⟩ => by
  refine ⟨G, ρ, R, ?_⟩
  revert q
  unfold getE
  cases f ρ with
  | st => exact id
  | ex c => exact id
  | ok d =>
    intro q x G1 H1 x1 r1
    have q := PostE.imp x1 q fun _ _ z => z
    simp only [bd_ok] at q
    obtain ⟨c, q⟩ := q.chk
    cases d with
    | dks ks vs =>
      obtain ⟨l, kvs, rfl, S⟩ := RepQ.dks x1.gh r1
      refine ⟨l, rfl, .inl ⟨kvs, .inl S.at_⟩, G1, ρ, R.ext x1, ?_⟩
      revert q
      cases g ρ with
      | st => exact id
      | ex c => exact id
      | ok k =>
        intro q y G2 H2 x2 r2
        have q := PostE.imp x2 q fun _ _ z => z
        simp only [bd_ok] at q
        unfold getM at q
        simp only at q
        cases k with
        | str z =>
          cases r2
          simp only at q
          have e2 : H2 l = some (.dK kvs) := x2.hh.ob _ _ S.at_ (fun _ z => by cases z) (fun _ z => by cases z)
          have v := (valV_get (k := z) S.key (S.val.same x2.gg)).1
          split at q
          · rename_i dv hv
            rw [hv] at v
            obtain ⟨u, g1, g2⟩ := v
            refine ⟨some u, ?_, q.here x2.gh g2⟩
            rw [← g1]
            exact DGet.k (k := .inr z) e2
          · rename_i hv
            rw [hv] at v
            refine ⟨none, ?_, q.here x2.gh .non⟩
            rw [← v]
            exact DGet.k (k := .inr z) e2
        | _ => exact q.elim
    | _ => cases c
end
end Fx

set_option Elab.async false
set_option linter.all false
set_option maxRecDepth 100000
set_option maxHeartbeats 4000000
/-! Fx24: try: x = e; except C: .. (no name). -/
namespace Fx
open PySem PySem.Spec PyProof.Rows L2
variable {K : PySem.W.Frag} {mg : Str → Option Value} {ww : World}
def tryB (i : Nat) (cs ns : List Str) (f : En → Oc D) (gs : En → Oc Res) : En → Oc Res := fun ρ => match f ρ with
  | .st => .st
  | .ok d => .ok (.nx (ρ.set i (.sh d)))
  | .ex c => if c ∈ cs then (match gs ρ with | .ex _ => .st | o => o) else if c ∈ ns then .ex c else .st
section
variable {X : Cx} {U : XK} {fre : Fr} {e : Expr} {suite : List Stmt} {b₀ : Stmt} {f : En → Oc D} {gs : En → Oc Res} {pos pos2 np pos' py : Pos} {nm x : Str} {cs ns : List Str} {C : Addr} {i : Nat}
theorem ss_tryB (Cx : Ctx X (up U)) (hs : X.stack = X.env :: X.outer) (hf : X.env.frame = some X.env.locals) (hC : X.mg nm = some (.ref C)) (hg : Gl X nm) (hdb : (nm == ("__debug__" : Str)) = false)
    (hi : X.N[i]? = some x) (hx : Loc X.env.scope x) (hxf : X.fn x = true ∨ X.env.scope.names.lookup x = some .local)
    (h1 : ∀ c ∈ cs, ExmK X.K X.mg nm c true) (h2 : ∀ c ∈ ns, ExmK X.K X.mg nm c false)
    (hb : ∀ (W : WX) (pn : List (Addr × Obj)) (xe : Value → Shared → Prop), Ctx (X.tr pn xe) W → SE (X.tr pn xe) W e f)
    (hsw : swapsWith e (some (.Name x py)) pos2.line X.env = pure false)
    (hsu : ∀ (a : Addr) (pn : List (Addr × Obj)), SSs (X.suite a pn) (fun _ _ _ => False) fre (b₀ :: suite) gs) :
    SS X U fre (.Try [.Assign [.Name x py] e pos2] [.ExceptHandler (some (.Name nm np)) none (b₀ :: suite) pos'] [] [] pos) (tryB i cs ns f gs) :=
  PS.weak (ps_try_only (tb := fun W => tAsg (tE X.K X.mg X.w W f) (gName i)) (ts := fun _ _ _ => tS X.K X.mg X.w (fun _ _ _ => False) fre gs) hs hf ⟨hg, hdb, .inl hC⟩ Cx.tk
    (fun W pn xe tk _ => pss_one (ps_set (X := X.tr pn xe) Cx.nd hi hx (hb W pn xe ⟨Cx.calm, Cx.nd, tk, Cx.units⟩) hsw hxf)) (fun a oe _ _ pn _ _ => hsu a _)) fun D σ H ⟨G, ρ, me, G0, H0, B, p⟩ => by
  refine ⟨G, ρ, B.rel, ?_⟩
  revert p
  unfold tryB
  cases f ρ with
  | st => exact id
  | ok d => exact fun p v G' H' x r => p _ G' H' ((B.step x).set i r)
  | ex c =>
    simp only
    intro p C1 G' H' x m
    split at p
    · rename_i hc
      refine ⟨true, h1 c hc _ _ m hC, fun _ a ha => ⟨G', ρ, me, G0, H0, B.step x, ?_⟩, fun z => by cases z⟩
      revert p
      cases gs ρ with
      | st => exact id
      | ex c => exact fun p => p.elim
      | ok r => cases r <;> exact id
    · split at p
      · rename_i hn
        exact ⟨false, h2 c hn _ _ m hC, (fun z => by cases z), fun _ => p C1 G' H' (B.ext.trans x) m⟩
      · exact p.elim
end
theorem tryB_ok {i : Nat} {cs ns : List Str} {f : En → Oc D} {gs : En → Oc Res} {ρ : En} {d : D} (h : f ρ = .ok d) : tryB i cs ns f gs ρ = .ok (.nx (ρ.set i (.sh d))) := by
  unfold tryB; rw [h]
theorem tryB_ex {i : Nat} {cs ns : List Str} {f : En → Oc D} {gs : En → Oc Res} {ρ : En} {c : Str} {r : Res} (h : f ρ = .ex c) (hc : c ∈ cs) (hg : gs ρ = .ok r) : tryB i cs ns f gs ρ = .ok r := by
  unfold tryB; rw [h]; simp only; rw [if_pos hc, hg]
end Fx

set_option Elab.async false
set_option linter.all false
set_option maxRecDepth 100000
set_option maxHeartbeats 4000000
/-! Fx25: a def within a def that has cells of its own, too. -/
namespace Fx
open PySem PySem.Spec PyProof.Rows L2 Sx NdefX
/-! ### the cells: its own ahead of the captured ones -/
theorem cellsFrom_app : ∀ (nm : List (Str × NameKind)) (n : Nat) (a b : List (Str × Addr)), cellsFrom n nm (a ++ b) = cellsFrom n nm a ++ b
  | [], _, _, _ => rfl
  | (x, k) :: r, n, a, b => by
    unfold cellsFrom
    split
    · exact cellsFrom_app r (n + 1) ((x, n) :: a) b
    · exact cellsFrom_app r n a b
theorem cellsFrom_two (nm : List (Str × NameKind)) (n : Nat) (b : List (Str × Addr)) : cellsFrom n nm b = cellsFrom n nm [] ++ b := cellsFrom_app nm n [] b
theorem cellsFrom_key : ∀ (nm : List (Str × NameKind)) (n : Nat) (a : List (Str × Addr)) (y : Str) (c : Addr), (y, c) ∈ cellsFrom n nm a → (y, c) ∈ a ∨ (y, NameKind.cell) ∈ nm
  | [], _, _, _, _, h => .inl h
  | (x, k) :: r, n, a, y, c, h => by
    unfold cellsFrom at h
    split at h
    · rename_i hk
      rcases cellsFrom_key r (n + 1) ((x, n) :: a) y c h with z | z
      · rcases List.mem_cons.mp z with e | z
        · cases e
          have : k = NameKind.cell := by cases k <;> first | rfl | exact absurd hk (by decide)
          subst this
          exact .inr List.mem_cons_self
        · exact .inl z
      · exact .inr (List.mem_cons_of_mem _ z)
    · rcases cellsFrom_key r n a y c h with z | z
      · exact .inl z
      · exact .inr (List.mem_cons_of_mem _ z)
section
variable {M : Model} {A : Around} {E : Value → Shared → Prop} {s : Shared}
theorem env_mixed {scope : Scope} {gl : Addr} {clo : List (Str × Addr)} {bn : List (Str × Value)} {q : Str} {fu : Option Addr} {cd : Value} {bl : Addr} {Q : Env → Shared → Prop} (hk : scope.kind = .function)
    (hl : ∀ z ∈ bn, scope.names.lookup z.1 = some .local)
    (hQ : ∀ g, g.Ns s.heap.objs.size (fun y => bn.reverse.lookup y) → Heap.SameBut s.heap.objs.size (pushCells (s.heap.push { cls := .type "frame", data := .dict #[] }) scope.names) g →
      Q (newEnv scope s.heap.objs.size gl (cellsFrom (s.heap.objs.size + 1) scope.names clo) q fu cd none bl) { s with heap := g, toks := s.toks + bn.length }) :
    wpAny M A (newFunctionEnv scope gl clo bn q fu cd none bl) Q E s := by
  simp only [newFunctionEnv, Option.isSome_none, Bool.false_eq_true, if_false]
  refine wpAny_bind (wpAny_alloc ?_)
  refine wpAny_bind (wpAny_layCells _ (fun x k cs => by cases hx : k == NameKind.cell <;> simp [hx]) _ _ _ _ ?_)
  have ez : ({ s with heap := s.heap.push { cls := .type "frame", data := .dict #[] } } : Shared).heap.objs.size = s.heap.objs.size + 1 := Heap.size_push ..
  rw [ez]
  refine wpAny_bind ?_
  refine wpAny_forIn_list _ (fun rest _ t => ∃ d g, bn = d ++ rest ∧ t = { s with heap := g, toks := s.toks + d.length } ∧ g.Ns s.heap.objs.size (fun y => d.reverse.lookup y) ∧
      Heap.SameBut s.heap.objs.size (pushCells (s.heap.push { cls := .type "frame", data := .dict #[] }) scope.names) g) _ ?_ ?_ bn _
    ⟨[], _, rfl, rfl, (Heap.Ns.new s.heap (.type "frame")).keeps (pushCells_keeps _ _), Heap.SameBut.refl ..⟩
  · rintro ⟨x, v⟩ rest _ t ⟨d, g, hb, rfl, hns, hsb⟩
    have kx : (newEnv scope s.heap.objs.size gl (cellsFrom (s.heap.objs.size + 1) scope.names clo) q fu cd none bl).kindOf x = some .local := hl (x, v) (by rw [hb]; simp)
    have px : ((newEnv scope s.heap.objs.size gl (cellsFrom (s.heap.objs.size + 1) scope.names clo) q fu cd none bl).scope.kind == .class || ((newEnv scope s.heap.objs.size gl (cellsFrom (s.heap.objs.size + 1) scope.names clo) q fu cd none bl).scope.kind == .module && (newEnv scope s.heap.objs.size gl (cellsFrom (s.heap.objs.size + 1) scope.names clo) q fu cd none bl).locals != (newEnv scope s.heap.objs.size gl (cellsFrom (s.heap.objs.size + 1) scope.names clo) q fu cd none bl).globals)) = false := by
      show (scope.kind == .class || (scope.kind == .module && _)) = false
      rw [hk]; rfl
    have st := storeName_local kx px v
    unfold newEnv at st
    simp only at st
    rw [st]
    refine wpAny_bind (wpAny_nsSet hns fun g2 n2 s2 => wpAny_pure ⟨d ++ [(x, v)], g2, by simp [hb], ?_, ?_, hsb.trans s2⟩)
    · simp [Nat.add_assoc]
    · rw [lookup_reverse_snoc]; exact n2
  · rintro _ t ⟨d, g, hb, rfl, hns, hsb⟩
    rw [List.append_nil] at hb
    subst hb
    exact wpAny_pure (hQ g hns hsb)
end
/-! ### the body -/
structure NScopeC (N ps fr : List Str) (sc : Scope) : Prop where
  fn : sc.kind = .function
  noCo : sc.isCoroutine = false
  noGen : sc.isGenerator = false
  once : N.Nodup
  first : ∃ rest, N = ps ++ (fr ++ rest)
  arg : ∀ x ∈ ps, sc.names.lookup x = some .local
  apart : ∀ y ∈ sc.names, y.2 = .cell → y.1 ∉ fr
  taken : ∀ y ∈ sc.names, y.2 = .free → y.1 ∈ fr
  seen : ∀ x ∈ fr, sc.names.lookup x = some .free
def nscCB (N ps fr : List Str) (sc : Scope) : Bool :=
  decide (sc.kind = .function ∧ sc.isCoroutine = false ∧ sc.isGenerator = false ∧ N.Nodup) && (decide (N.take (ps.length + fr.length) = ps ++ fr) && (ps.all (fun x => decide (sc.names.lookup x = some .local)) &&
  (sc.names.all (fun y => decide (y.2 = .cell → y.1 ∉ fr) && decide (y.2 = .free → y.1 ∈ fr)) && fr.all (fun x => decide (sc.names.lookup x = some .free)))))
theorem nscopeC_by {N ps fr : List Str} {sc : Scope} (h : nscCB N ps fr sc = true) : NScopeC N ps fr sc := by
  obtain ⟨a, h⟩ := (Bool.and_eq_true _ _).mp h
  obtain ⟨b, h⟩ := (Bool.and_eq_true _ _).mp h
  obtain ⟨c, h⟩ := (Bool.and_eq_true _ _).mp h
  obtain ⟨d, e⟩ := (Bool.and_eq_true _ _).mp h
  obtain ⟨a1, a2, a3, a4⟩ := of_decide_eq_true a
  have both : ∀ y ∈ sc.names, (y.2 = .cell → y.1 ∉ fr) ∧ (y.2 = .free → y.1 ∈ fr) := fun y m => by
    obtain ⟨u, v⟩ := (Bool.and_eq_true _ _).mp (List.all_eq_true.mp d y m)
    exact ⟨of_decide_eq_true u, of_decide_eq_true v⟩
  have cut := List.take_append_drop (ps.length + fr.length) N
  rw [of_decide_eq_true b, List.append_assoc] at cut
  exact ⟨a1, a2, a3, a4, ⟨_, cut.symm⟩, fun x m => of_decide_eq_true (List.all_eq_true.mp c x m), fun y m => (both y m).1, fun y m => (both y m).2, fun x m => of_decide_eq_true (List.all_eq_true.mp e x m)⟩
theorem startF_at {N : List Str} {vs : List V} {ws : List (Option V)} {i : Nat} {v : V} (h : (startF N vs ws)[i]? = some (some v)) : vs[i]? = some v ∨ ∃ j, i = vs.length + j ∧ ws[j]? = some (some v) := by
  unfold startF at h
  rcases Nat.lt_or_ge i vs.length with l | l
  · rw [List.getElem?_append_left (by rwa [List.length_map])] at h
    exact .inl (by simpa using h)
  · refine .inr ⟨i - vs.length, by omega, ?_⟩
    rw [List.getElem?_append_right (by rwa [List.length_map]), List.length_map] at h
    rcases Nat.lt_or_ge (i - vs.length) ws.length with m | m
    · rwa [List.getElem?_append_left m] at h
    · rw [List.getElem?_append_right m] at h
      have := List.mem_of_getElem? h
      cases (List.mem_replicate.mp this).2
abbrev envG (F : NF) (f L : Addr) : Env := PySem.W.envX F.qual F.scope L f (.ref F.c) (cellsFrom (L + 1) F.scope.names F.cl)
def ncy (CX : CXT) (P : Program) (w : World) (K : PySem.W.Frag) (mg : Str → Option Value) (base : Heap) (N : List Str) (F : NF) (f : Addr) (A : Around) (outer : List Env) (s : Shared) (H : Hp) (E : XK) : Cx :=
  let v := envG F f s.heap.objs.size
  { prog := P, w := w, K := K, mg := mg, base := base, A := A.deeper v, N := N, s_0 := s, H_0 := H, env := v, outer := outer, stack := v :: outer, ex := [], calm := true,
    fn := fun y => decide (F.scope.names.lookup y = some .cell), pn := [],
    xe := fun e s' => wpAny (model P w) (A.deeper v) (leaving v e) (fun _ t => CX outer H s E e t) (fun e' t => CX outer H s E e' t) s' }
section
variable {CX : CXT} {P : Program} {w : World} {K : PySem.W.Frag} {mg : Str → Option Value} {base : Heap} {N ps fr : List Str} {F : NF} {f : Addr} {A : Around} {outer : List Env} {s : Shared} {H : Hp} {E : XK} {us : List Value} {vs : List V} {ws : List (Option V)}
theorem inv_ncy {g : Heap} {tk : Nat} (S : NScopeC N ps fr F.scope) (hd : A.handled = none) (e0 : Env0 P w K mg base A outer s H) (hl : vs.length = ps.length) (r : Vals vs us) (C : CellsAt F.cl fr ws s.heap H) (hns : g.Ns s.heap.objs.size fun y => (ps.zip us).reverse.lookup y)
    (hsb : Heap.SameBut s.heap.objs.size (pushCells (s.heap.push { cls := .type "frame", data := .dict #[] }) F.scope.names) g) :
    (∀ b o, s.heap.get? b = some o → g.get? b = some o) ∧ Inv (ncy CX P w K mg base N F f A outer s H E) [] (startF N vs ws) H { s with heap := g, toks := tk } := by
  obtain ⟨rest, hN⟩ := S.first
  have hpl : ps.length + fr.length ≤ N.length := by
    rw [hN]
    simp only [List.length_append]
    omega
  have kp : ∀ b o, s.heap.get? b = some o → g.get? b = some o := fun b o e => by
    rw [hsb.2 b (Nat.ne_of_lt (Heap.lt_size e))]
    exact pushCells_keeps _ _ b o (Heap.get?_push_of_some _ e)
  refine ⟨kp, ?_⟩
  have oldK : ∀ {c : Addr} {v : Option Value}, s.heap.IsCell c v → g.IsCell c v := fun x => x.keeps kp
  have ok := cellsFrom_ok F.scope.names (s.heap.push { cls := .type "frame", data := .dict #[] }) (s.heap.objs.size + 1) [] ⟨fun _ _ hm => (nomatch hm), List.Pairwise.nil⟩ (by rw [Heap.size_push]; omega)
  rw [Heap.size_push] at ok
  have two : ∀ {y : Str} {c : Addr}, (cellsFrom (s.heap.objs.size + 1) F.scope.names F.cl).lookup y = some c → (cellsFrom (s.heap.objs.size + 1) F.scope.names []).lookup y = some c ∨ F.cl.lookup y = some c := fun {y c} e => by
    rw [cellsFrom_two, List.lookup_append] at e
    cases q : (cellsFrom (s.heap.objs.size + 1) F.scope.names []).lookup y with
    | none => rw [q] at e; exact .inr e
    | some d => rw [q] at e; exact .inl e
  have newC : ∀ {y : Str} {c : Addr}, (cellsFrom (s.heap.objs.size + 1) F.scope.names []).lookup y = some c → g.IsCell c none ∧ s.heap.objs.size + 1 ≤ c := fun {y c} e => by
    obtain ⟨h1, h2⟩ := ok.empty y c (PySem.mem_of_lookup e)
    exact ⟨h1.sameBut hsb (Nat.ne_of_gt (Nat.lt_of_succ_le h2)), h2⟩
  have oldC : ∀ {y : Str} {c : Addr}, F.cl.lookup y = some c → c < s.heap.objs.size := fun {y c} e => by
    obtain ⟨v, z⟩ := (C.all y c e).2
    exact z.lt
  have noA : ∀ b : Addr, b ∉ (ncy CX P w K mg base N F f A outer s H E).ex := fun b z => absurd (show b ∈ ([] : List Addr) from z) (by simp)
  have inFr : ∀ {y : Str} {c : Addr}, y ∈ fr → F.cl.lookup y = some c → (cellsFrom (s.heap.objs.size + 1) F.scope.names F.cl).lookup y = some c := fun {y c} hy e => by
    rw [cellsFrom_two, List.lookup_append]
    cases q : (cellsFrom (s.heap.objs.size + 1) F.scope.names []).lookup y with
    | none => exact e
    | some d =>
      rcases cellsFrom_key _ _ _ _ _ (PySem.mem_of_lookup q) with z | z
      · cases z
      · exact absurd hy (S.apart _ z rfl)
  have own : ∀ {y : Str}, F.scope.names.lookup y = some .cell → ∃ c, (cellsFrom (s.heap.objs.size + 1) F.scope.names []).lookup y = some c := fun {y} e => Option.isSome_iff_exists.mp (PySem.W.cellsFrom_some F.scope.names _ [] (.inl e))
  have okX : (ncy CX P w K mg base N F f A outer s H E).Ok := by
    refine { mod := e0.mod, kind := S.fn, glob := rfl, blt := rfl, above := Nat.le_refl _, inj := fun x y c h1 h2 => ?_, has := fun y hy => ?_, cab := fun y c z e => ?_, hd := fun _ => hd, frames := Around.frames_deeper e0.frames, stk := .inr ⟨rfl, rfl⟩, exf := fun b z => absurd z (noA b), bs := e0.bs, bsz := e0.bsz, noex := fun b _ _ => noA b, exfs := fun b z => absurd z (noA b), funs := e0.funs, frf := e0.frf }
    · rcases two h1 with a | a <;> rcases two h2 with b | b
      · exact name_of_addr ok.apart (PySem.mem_of_lookup a) (PySem.mem_of_lookup b)
      · exact absurd (oldC b) (Nat.not_lt.mpr (Nat.le_of_succ_le (newC a).2))
      · exact absurd (oldC a) (Nat.not_lt.mpr (Nat.le_of_succ_le (newC b).2))
      · exact C.inj _ _ _ a b
    · rcases (hy : F.scope.names.lookup y = some .cell ∨ F.scope.names.lookup y = some .free) with mine | its
      · obtain ⟨d, e⟩ := own mine
        refine ⟨d, ?_⟩
        show (cellsFrom (s.heap.objs.size + 1) F.scope.names F.cl).lookup y = some d
        rw [cellsFrom_two, List.lookup_append, e]; rfl
      · have m := S.taken _ (PySem.mem_of_lookup its) rfl
        obtain ⟨j, at_⟩ := List.mem_iff_getElem?.mp m
        obtain ⟨d, e, _⟩ := C.has j y at_
        exact ⟨d, inFr m e⟩
    · have z : F.scope.names.lookup y = some .cell := of_decide_eq_true z
      obtain ⟨d, hd⟩ := own z
      have e : (cellsFrom (s.heap.objs.size + 1) F.scope.names F.cl).lookup y = some c := e
      rw [cellsFrom_two, List.lookup_append, hd] at e
      cases e
      have := (newC hd).2
      show s.heap.objs.size ≤ c
      omega
  refine { ok := okX, os := rfl, bare := e0.bare, base := Un.kept kp, loc := ⟨_, hns, fun i y v e1 e2 e3 => ?_⟩, cell := fun y c e => ?_, free := e0.hok.fresh (Nat.le_refl _), freeC := fun y c e => ?_, pin := fun q hq => absurd (show q ∈ ([] : List (Addr × Obj)) ++ [] from hq) (by simp), hok := e0.hok.kept kp, len := ?_ }
  · have here : (ps ++ (fr ++ rest))[i]? = some y := hN ▸ e1
    have few := C.len
    rcases startF_at e2 with a | ⟨j, rfl, b⟩
    · have l : i < ps.length := hl ▸ (List.getElem?_eq_some_iff.mp a).1
      rw [List.getElem?_append_left l] at here
      obtain ⟨u, hu, rv⟩ := r.get a
      have own1 : ps.Nodup := (List.nodup_append.mp (hN ▸ S.once)).1
      exact ⟨u, rv, .inl ⟨S.arg y (List.mem_of_getElem? here), zip_look own1 here hu⟩⟩
    · have l : j < fr.length := few ▸ (List.getElem?_eq_some_iff.mp b).1
      rw [List.getElem?_append_right (by omega), hl, Nat.add_sub_cancel_left, List.getElem?_append_left l] at here
      obtain ⟨d, hd', val⟩ := C.has j y here
      obtain ⟨u, ru, hu⟩ := val v b
      have m := List.mem_of_getElem? here
      exact ⟨u, ru, .inr ⟨.inr (S.seen y m), d, inFr m hd', oldK hu⟩⟩
  · rcases two e with a | a
    · exact ⟨_, (newC a).1⟩
    · obtain ⟨v, z⟩ := (C.all y c a).2
      exact ⟨v, oldK z⟩
  · rcases two e with a | a
    · exact e0.hok.fresh (by have := (newC a).2; omega)
    · exact (C.all y c a).1
  · have clen := C.len
    show (startF N vs ws).length = N.length
    unfold startF
    simp only [List.length_append, List.length_map, List.length_replicate]
    omega
end
section
variable {P : Program} {w : World} {K : PySem.W.Frag} {mg : Str → Option Value} {base : Heap}
theorem ctx_ncy {N ps fr : List Str} {F : NF} {f : Addr} {A : Around} {outer : List Env} {s : Shared} {H : Hp} {E : XK} {k : Nat} (S : NScopeC N ps fr F.scope) (hr : Room k (A.deeper (envG F f s.heap.objs.size))) : Ctx (ncy (L2.CX P w) P w K mg base N F f A outer s H E) (up E) :=
  ⟨rfl, S.once, takes_of rfl rfl rfl rfl, by have := hr.un; show (A.deeper (envG F f s.heap.objs.size)).units + 65 < cLine; omega⟩
theorem po_ncy {N : List Str} {F : NF} {f : Addr} {A : Around} {outer : List Env} {s : Shared} {H : Hp} {E : XK} :
    PassesOwn (model (ncy (L2.CX P w) P w K mg base N F f A outer s H E).prog (ncy (L2.CX P w) P w K mg base N F f A outer s H E).w) (ncy (L2.CX P w) P w K mg base N F f A outer s H E).A (ncy (L2.CX P w) P w K mg base N F f A outer s H E).env (ncy (L2.CX P w) P w K mg base N F f A outer s H E).xe := passes_of rfl
theorem nok_y {N ps fr : List Str} {F : NF} {f : Addr} {k : Nat} {g : En → Oc Res} (S : NScopeC N ps fr F.scope) (hb : ∀ (doc pm ctv : Value) (us : List Value), us.length = ps.length → bindArgs (F.fd doc pm ctv) ⟨us, []⟩ = pure (ps.zip us))
    (hbody : ∀ (A : Around) (outer : List Env) (s : Shared) (H : Hp) (E : XK), Room k (A.deeper (envG F f s.heap.objs.size)) → Ctx (ncy (L2.CX P w) P w K mg base N F f A outer s H E) (up E) → SSs (ncy (L2.CX P w) P w K mg base N F f A outer s H E) E .s F.body g) :
    NOk P w K mg base (L2.CX P w) (k + 1) f F ps fr (spN K mg w ps.length (fnB N.length (ps.length + fr.length) g)) := by
  refine ⟨fun ws vs H Q E h => h.1, fun A outer s H us vs ws Q E hr e0 hf hc C r h => ?_⟩
  have hw := C.len
  have hl := h.1
  have lim : s.heap.NoLimit := e0.mod.nolimit.keeps fun b o e => (e0.bs b o e).1
  obtain ⟨od, sl, doc, pm, ctv, ho⟩ := fnO_at e0.hok hf
  refine codeAny_call_function hr.depth ho rfl S.noCo S.noGen rfl (codeO_at e0.hok hc) ?_
  have eb : bindArgs (F.fd doc pm ctv) ⟨us, []⟩ = pure (ps.zip us) := hb doc pm ctv us (r.length.symm.trans hl)
  rw [eb]
  refine wpAny_pure (env_mixed S.fn (fun z hz => S.arg z.1 (List.of_mem_zip hz).1) fun g2 hns hsb => ?_)
  obtain ⟨kp, I⟩ := inv_ncy (CX := L2.CX P w) (E := E) (f := f) (tk := s.toks + (ps.zip us).length) S hr.hd e0 hl r C hns hsb
  refine ⟨lim.keeps kp, ?_⟩
  show codeAny _ _ (.func F.body (envG F f s.heap.objs.size)) _ _
  refine codeAny_func ?_
  have hq : tS K mg w E .s g { nx := fun _ H' => Q .non H', rt := Q } (startF N vs ws) H := by
    obtain ⟨_, us', G, ds, es, rfl, sG, tb, r1, r2, p⟩ := h
    have hst : startF N vs (us'.map some) = L2.start N (vs ++ us') := by
      unfold startF L2.start
      simp only [List.map_append, List.append_assoc, List.length_map, List.length_append, Nat.sub_sub]
    rw [hst]
    have rr := r1.append r2
    have hl2 : (ds ++ es).length = ps.length + fr.length := by
      rw [← rr.length, List.length_append, hl]
      rw [List.length_map] at hw
      rw [hw]
    unfold fnB at p
    rw [decide_eq_true hl2] at p
    simp only [chk_true] at p
    have R := rel_start (N := N) sG tb rr
    rw [hl2] at R
    refine ⟨G, _, 0, G, H, ⟨R, .refl sG, fun i a d h1 _ => absurd h1 (noOwn i d), fun i c fs h1 => absurd h1 (noOwn i _)⟩, ?_⟩
    revert p
    unfold outR
    cases g ((ds ++ es).map .sh ++ List.replicate (N.length - (ps.length + fr.length)) .no) with
    | st => exact id
    | ex c => exact id
    | ok r =>
      simp only [bd_ok]
      cases r with
      | nx ρ => exact fun p σ G' H' B => p .non G' H' B.ext .non
      | rt d => exact fun p v G' H' x r => p v G' H' x r
      | bk ρ => exact fun p => p.elim
      | ct ρ => exact fun p => p.elim
  have hd2 := hr.deeper (envG F f s.heap.objs.size)
  refine wpAny_mono ((hbody A outer s H E hd2 (ctx_ncy S hd2)).run [] _ (startF N vs ws) H _ I hq) (fun fl t hs => ?_) fun e t hs => hs
  have fin : ∀ {σ' : L2.St} {H' : Hp} {v : V} {u : Value}, Inv (ncy (L2.CX P w) P w K mg base N F f A outer s H E) [] σ' H' t → L2.RelV v u → Q v H' → CE outer P w H s Q u t :=
    fun {σ' H' v u} J rv q => ⟨v, H', J.os, J.bare, J.base, J.hok, rv, q⟩
  cases fl with
  | ret u => exact let ⟨_, _, _, J, rv, q⟩ := hs; fin J rv q
  | next => exact let ⟨_, _, J, q⟩ := hs; fin (v := V.non) (u := Value.none) J rfl q
  | brk => exact let ⟨_, _, _, q⟩ := hs; q.elim
  | cont => exact let ⟨_, _, _, q⟩ := hs; q.elim
end
end Fx

set_option Elab.async false
set_option linter.all false
set_option maxRecDepth 100000
set_option maxHeartbeats 4000000
/-! Fx26: evaluation of sets, dicts, zip, functions handed on. -/
namespace Fx
open PySem (Str NestedKey)
open PySem.Spec
def asgWR (i : Nat) (ρ : En) : Oc D → Oc Res
  | .ok d => chk (!isObj d) (.ok (.nx (ρ.set i (.ow d))))
  | .st => .st
  | .ex c => .ex c
@[simp] theorem asgW_ap (i : Nat) (f : En → Oc D) (ρ : En) : asgW i f ρ = asgWR i ρ (f ρ) := by unfold asgW asgWR; cases f ρ <;> rfl
@[simp] theorem asgWR_set (i : Nat) (ρ : En) (ds : List D) : asgWR i ρ (.ok (.set ds)) = .ok (.nx (ρ.set i (.ow (.set ds)))) := id rfl
@[simp] theorem asgWR_dct (i : Nat) (ρ : En) (ds vs : List D) : asgWR i ρ (.ok (.dct ds vs)) = .ok (.nx (ρ.set i (.ow (.dct ds vs)))) := id rfl
@[simp] theorem asgWR_dks (i : Nat) (ρ : En) (ds : List Str) (vs : List D) : asgWR i ρ (.ok (.dks ds vs)) = .ok (.nx (ρ.set i (.ow (.dks ds vs)))) := id rfl
theorem addS_ok {i : Nat} {f : En → Oc D} {ρ : En} {ds : List D} {d z : D} (h : ρ[i]? = some (.ow (.set ds))) (hf : f ρ = .ok d) (ha : addSR ds d = .ok z) : addS i f ρ = .ok (.nx (ρ.set i (.ow z))) := by
  unfold addS
  rw [h]
  simp only
  rw [hf, bd_ok, ha, bd_ok]
theorem setI_ok {i : Nat} {fk fv : En → Oc D} {ρ : En} {d k v z : D} (hv : fv ρ = .ok v) (h : ρ[i]? = some (.ow d)) (hk : fk ρ = .ok k) (hz : putIR d k v = .ok z) : setI i fk fv ρ = .ok (.nx (ρ.set i (.ow z))) := by
  unfold setI
  rw [hv, bd_ok, h]
  simp only
  rw [hk, bd_ok, hz, bd_ok]
@[simp] theorem bindT_two (i j : Nat) (x y : D) (ρ : En) : bindT (.tup [i, j]) (.tup [x, y]) ρ = .ok ((ρ.set i (.sh x)).set j (.sh y)) := id rfl
@[simp] theorem bindT_twoL (i j : Nat) (x y : D) (ρ : En) : bindT (.tup [i, j]) (.lst [x, y]) ρ = .ok ((ρ.set i (.sh x)).set j (.sh y)) := id rfl
@[simp] theorem asgT_ap (T : Tg) (f : En → Oc D) (ρ : En) : asgT T f ρ = bd (f ρ) fun d => bd (bindT T d ρ) fun ρ' => .ok (.nx ρ') := id rfl
@[simp] theorem dsp1_ap (f g : En → Oc D) (ρ : En) : dsp1 f g ρ = bd (f ρ) fun k => bd (g ρ) fun v => match inK [] k with | some _ => .ok (.dct [k] [v]) | none => .st := id rfl
structure Enc {α : Type} (enc : α → D) (kf : α → NestedKey) : Prop where
  key : ∀ x, keyN (enc x) = some (kf x)
  inj : ∀ x y, kf x = kf y → x = y
  dep : ∀ x, (kf x).depth ≤ 8
  tup : ∀ x, isTup (enc x) = true
section
variable {α : Type} [DecidableEq α] {enc : α → D} {kf : α → NestedKey}
theorem Enc.keys (E : Enc enc kf) : ∀ xs : List α, keyNs (xs.map enc) = some (xs.map kf)
  | [] => rfl
  | x :: xs => by
    rw [List.map_cons, List.map_cons]
    unfold keyNs
    rw [E.key, E.keys xs]
theorem Enc.mem (E : Enc enc kf) (xs : List α) (x : α) : kf x ∈ xs.map kf ↔ x ∈ xs := by
  rw [List.mem_map]
  exact ⟨fun ⟨y, h1, h2⟩ => by rw [← E.inj _ _ h2]; exact h1, fun h => ⟨x, h, rfl⟩⟩
theorem Enc.inK (E : Enc enc kf) (xs : List α) (x : α) : Fx.inK (xs.map enc) (enc x) = some (decide (x ∈ xs)) := by
  unfold Fx.inK
  rw [E.keys, E.key]
  simp only [E.tup, E.dep, decide_true, Bool.and_self, if_true]
  exact congrArg some (decide_eq_decide.mpr (E.mem xs x))
theorem Enc.inSet (E : Enc enc kf) (xs : List α) (x : α) : ninXD (enc x) (.set (xs.map enc)) = .ok (.bl (!decide (x ∈ xs))) := by
  unfold ninXD inXB
  simp only [E.inK]
theorem Enc.inDct (E : Enc enc kf) (xs : List α) (vs : List D) (x : α) : ninXD (enc x) (.dct (xs.map enc) vs) = .ok (.bl (!decide (x ∈ xs))) := by
  unfold ninXD inXB
  simp only [E.inK]
theorem Enc.add (E : Enc enc kf) {xs : List α} {x : α} (h : x ∉ xs) (hl : xs.length + 1 ≤ 1000) : addSR (xs.map enc) (enc x) = .ok (.set ((xs ++ [x]).map enc)) := by
  unfold addSR
  rw [E.inK]
  simp only [List.length_map, hl, h, decide_true, chk_true, decide_false, Bool.false_eq_true, if_false, List.map_append, List.map_cons, List.map_nil]
theorem Enc.put (E : Enc enc kf) {xs : List α} {vs : List D} {x : α} {v : D} (h : x ∉ xs) (hl : xs.length ≤ 1000000) : putIR (.dct (xs.map enc) vs) (enc x) v = .ok (.dct ((xs ++ [x]).map enc) (vs ++ [v])) := by
  unfold putIR
  simp only [E.inK, E.keys, E.key]
  simp only [List.length_map, hl, h, decide_true, chk_true, decide_false, Bool.false_eq_true, if_false, List.map_append, List.map_cons, List.map_nil]
theorem Enc.one (E : Enc enc kf) (x : α) : Fx.inK [] (enc x) = some false := by
  have := E.inK [] x
  simpa using this
end
/-! ### while with an exception -/
theorem whF_ex (t : En → Oc Bool) (b : En → Oc Res) (n : Nat) (ρ : En) (h : t ρ = .ok true) {c : Str} (hb : b ρ = .ex c) : whF t b (n + 1) ρ = .ex c := by
  show (bd (t ρ) fun c => if c then bd (b ρ) fun r => match r with
    | .nx ρ' => whF t b n ρ'
    | .ct ρ' => whF t b n ρ'
    | .bk ρ' => .ok (.nx ρ')
    | .rt d => .ok (.rt d)
    else .ok (.nx ρ)) = _
  rw [h]
  simp only [bd_ok, if_true]
  rw [hb, bd_ex]
@[simp] theorem goOn_ex (T : Tg) (b : En → Oc Res) (ds : List D) (c : Str) : goOn T b ds (.ex c) = .ex c := id rfl
@[simp] theorem frR_ex (T : Tg) (b : En → Oc Res) (ρ : En) (c : Str) : frR T b ρ (.ex c) = .ex c := id rfl
@[simp] theorem asgR_ex (i : Nat) (ρ : En) (c : Str) : asgR i ρ (.ex c) = .ex c := id rfl
@[simp] theorem zipI_ap (fs : En → Oc (List D)) (ρ : En) : zipI fs ρ = bd (fs ρ) fun ds => match ds with
  | [a, b] => match items a, items b with
    | some xs, some ys => .ok (zipL xs ys)
    | _, _ => .st
  | _ => .st := id rfl
@[simp] theorem addS_set0 (i : Nat) (ρ : En) : wipeE ρ [] = ρ := id rfl
theorem isi_list (ds : List D) : isiD "list" (.lst ds) = .ok (.bl true) := by unfold isiD; simp only [tyName]; rfl
theorem isi_tuple (ds : List D) : isiD "tuple" (.tup ds) = .ok (.bl true) := by unfold isiD; simp only [tyName]; rfl
end Fx

set_option Elab.async false
set_option linter.all false
set_option maxRecDepth 100000
set_option maxHeartbeats 4000000
/-! Fx27: a list is copied, and compared with what it was copied from. -/
namespace Fx
open PySem PySem.Spec PyProof.Rows L2
variable {K : PySem.W.Frag} {mg : Str → Option Value} {ww : World} {me : Addr}
/-! ### lists of objects, the same ones in both -/
theorem vals_refs : ∀ {us : List V} {a b : List Value}, (∀ v ∈ us, ∃ c, v = V.ref c) → Vals us a → Vals us b → a = b
  | _, _, _, _, .nil, .nil => rfl
  | _, _, _, h, .cons q s, .cons q' s' => by
    obtain ⟨c, rfl⟩ := h _ List.mem_cons_self
    cases q
    cases q'
    rw [vals_refs (fun v hv => h v (List.mem_cons_of_mem _ hv)) s s']
def rNeL : R2 := fun x y H Q => ∃ (a b : Addr) (us : List V), x = .ref a ∧ y = .ref b ∧ H a = some (.lst us) ∧ H b = some (.lst us) ∧ (∀ v ∈ us, ∃ c, v = V.ref c) ∧ Q (.bl false) H
section
variable {X : Cx} {W : WX} {U : XK} {fre : Fr} {pos : Pos} {i j : Nat} {x y : Str} {p1 p2 : Pos} {sts : List Stmt}
theorem or_neL (hu : X.A.units + 65 < cLine) : OpR X (compareOp .NotEq) rNeL := by
  intro pins s σ H x y v u Q I rx ry h
  obtain ⟨a, b, us, rfl, rfl, ha, hb, hr, q⟩ := h
  cases rx
  cases ry
  obtain ⟨i1, v1, p1, _⟩ := I.list (SqL.of ha)
  obtain ⟨i2, v2, p2, _⟩ := I.list (SqL.of hb)
  obtain rfl := vals_refs hr v1 v2
  have l1 : s.heap.IsList a i1.toArray := by
    obtain ⟨o, m, e, c, d, q⟩ := p1
    exact ⟨o, e, c, m, q⟩
  have l2 : s.heap.IsList b i1.toArray := by
    obtain ⟨o, m, e, c, d, q⟩ := p2
    exact ⟨o, e, c, m, q⟩
  refine SeqAt.RcNeAt.lists (e := fun _ => true) l1 l2 rfl (by omega) (fun j _ _ => SeqAt.EqAt.same _) X.prog X.w _ _ ?_
  have e : (!(List.range i1.toArray.size).all fun _ => true) = false := by simp
  rw [e]
  exact ⟨.bl false, H, I, rfl, q⟩
open Classical in
noncomputable def neL (i j : Nat) : En → Oc Bool := fun ρ => match ρ[i]?, ρ[j]? with
  | some (.ls us es), some (.ls us' _) => if us = us' ∧ es.all isObj = true then .ok false else .st
  | _, _ => .st
theorem obj_refs {G : Hp} : ∀ {us : List V} {es : List D}, RepL K mg ww G us es → es.all isObj = true → ∀ v ∈ us, ∃ c, v = V.ref c
  | _, _, .nil, _, v, hv => by cases hv
  | _, _, .cons (d := d) r t, h, v, hv => by
    rw [List.all_cons, Bool.and_eq_true] at h
    rcases List.mem_cons.mp hv with e | hv
    · subst e
      cases d with
      | obj c fs => cases r; exact ⟨_, rfl⟩
      | _ => cases h.1
    · exact obj_refs t h.2 v hv
theorem st_neL (hv : PE X (.Name x p1) (tVar i)) (hy : PE X (.Name y p2) (tVar j)) (hu : X.A.units + 65 < cLine) : STT X W (.Compare (.Name x p1) [.NotEq] [.Name y p2] pos) (neL i j) :=
  PT.weak (pt_cmpR (or_neL hu) hv hy (nomark _)) fun σ H Q ⟨G, ρ, R, p⟩ => by
  revert p
  unfold neL
  split
  · rename_i us es us' es' h1 h2
    split
    · rename_i hc
      obtain ⟨rfl, ho⟩ := hc
      intro p
      obtain ⟨o, ho1, a, rfl, ga, r⟩ := R.get h1
      obtain ⟨o2, ho2, b, rfl, gb, _⟩ := R.get h2
      exact ⟨.ref a, ho1, .ref b, ho2, a, b, us, rfl, rfl, R.sub _ _ ga, R.sub _ _ gb, obj_refs r ho, false, rfl, p G H (.refl R.sub)⟩
    · exact False.elim
  · exact False.elim
/-! ### x = list(y); what comes does not hang on the items' places -/
open Classical in
noncomputable def cpy (i j : Nat) (rest : En → Oc Res) : En → Oc Res := fun ρ => match ρ[j]? with
  | some (.sh (.lst es)) => if h : ∃ o, o ≠ .st ∧ ∀ us, rest ((ρ.set j (.ls us es)).set i (.ls us es)) = o then h.choose else .st
  | _ => .st
theorem cpy_of {rest : En → Oc Res} {ρ : En} {es : List D} {o : Oc Res} (h : ρ[j]? = some (.sh (.lst es))) (ho : o ≠ .st) (hr : ∀ us, rest ((ρ.set j (.ls us es)).set i (.ls us es)) = o) : cpy i j rest ρ = o := by
  unfold cpy
  rw [h]
  have hex : ∃ o, o ≠ .st ∧ ∀ us, rest ((ρ.set j (.ls us es)).set i (.ls us es)) = o := ⟨o, ho, hr⟩
  simp only
  rw [dif_pos hex]
  exact (hex.choose_spec.2 []).symm.trans (hr [])
theorem set_same {α : Type} {l : List α} {k : Nat} {a : α} (h : l[k]? = some a) : l.set k a = l := by
  apply List.ext_getElem?
  intro m
  by_cases e : k = m
  · subst e
    rw [List.getElem?_set_self (List.getElem?_eq_some_iff.mp h).1, h]
  · rw [List.getElem?_set_ne e]
theorem sss_cpy {rest : En → Oc Res} {p pos' : Pos} (C : Ctx X (up U)) (hi : X.N[i]? = some x) (hx : Loc X.env.scope x) (hg : Gl X "list") (hm : X.mg "list" = none) (hv : PE X (.Name y p2) (tVar j)) (hr : SSs X U fre sts rest)
    (hs : swapsWith (.Call (.Name "list" p) [.Name y p2] [] pos') (some (.Name x p1)) pos.line X.env = pure false := by rfl) (hf : X.fn x = true ∨ X.env.scope.names.lookup x = some .local := by first | exact .inl rfl | exact .inr rfl | assumption)
    (he : starEach [.Name y p2] X.env = (false, eval (.Name y p2) X.env) :: starEach [] X.env := by rfl) :
    SSs X U fre (.Assign [.Name x p1] (.Call (.Name "list" p) [.Name y p2] [] pos') pos :: sts) (cpy i j rest) :=
  PSs.weak (pss_cons (ps_set C.nd hi hx (pe_T1 call_list_of hg hm (by decide +kernel) hv (by decide) (by decide) he) hs hf) hr) fun D σ H ⟨G, ρ, me, G0, H0, B, p⟩ => by
  revert p
  unfold cpy
  split
  · rename_i es hj
    split
    · rename_i hex
      intro p
      obtain ⟨o, ho, v, rfl, r⟩ := B.rel.get hj
      cases r with
      | lst ga rl =>
        rename_i a us
        refine ⟨.ref a, ho, a, us, rfl, .inl (SqL.of (B.rel.sub _ _ ga)), fun l hl => ?_⟩
        have x0 := Ext.new (o := .lst us) B.rel.sub hl
        have B1 := (B.step x0).setS j (o := some (.ref a)) (s := .ls us es) ⟨a, rfl, x0.gg _ _ ga, rl.same x0.gg⟩ (fun d z => by cases z)
        rw [set_same ho] at B1
        have B2 := B1.setS i (o := some (.ref l)) (s := .ls us es) ⟨l, rfl, upd_same, rl.same x0.gg⟩ (fun d z => by cases z)
        refine ⟨_, _, me, G0, H0, B2, ?_⟩
        have hc := hex.choose_spec.2 us
        exact (congrArg (PostS X.K X.mg X.w U fre me G0 H0 D) hc).mpr p
    · exact fun p => p.elim
  · exact fun p => p.elim
def unls (i : Nat) (ρ : En) : En := match ρ[i]? with
  | some (.ls _ es) => ρ.set i (.sh (.lst es))
  | _ => ρ
def fgt (i : Nat) (g : En → Oc Res) : En → Oc Res := fun ρ => g (unls i ρ)
theorem sss_fgt (i : Nat) {gs : En → Oc Res} (h : SSs X U fre sts gs) : SSs X U fre sts (fgt i gs) := PSs.weak h fun D σ H ⟨G, ρ, me, G0, H0, B, p⟩ => by
  unfold fgt unls at p
  split at p
  · rename_i us es hi
    obtain ⟨o, ho, a, rfl, ga, r⟩ := B.rel.get hi
    have B1 := B.setS i (o := some (.ref a)) (s := .sh (.lst es)) ⟨.ref a, rfl, .lst ga r⟩ (fun d z => by cases z)
    rw [set_same ho] at B1
    exact ⟨G, _, me, G0, H0, B1, p⟩
  · exact ⟨G, ρ, me, G0, H0, B, p⟩
end
end Fx

set_option Elab.async false
set_option linter.all false
set_option maxRecDepth 100000
set_option maxHeartbeats 4000000
/-! Fx28: results that are fresh or None; own names lent; a < b of nested data. -/
namespace Fx
open PySem PySem.Spec PyProof.Rows L2
variable {K : PySem.W.Frag} {mg : Str → Option Value} {ww : World} {me : Addr}
theorem non_of {d : D} (h : isNon d = true) : d = .non := by
  cases d <;> first | rfl | cases h
/-! ### fresh or None -/
def PostM (K : PySem.W.Frag) (mg : Str → Option Value) (ww : World) (W : XK) (G H : Hp) (Q : VK) : Oc D → Prop
  | .st => False
  | .ok d => (isNon d = true → ∀ G' H', Ext G H G' H' → Q .non H') ∧ (isNon d = false → ∀ a G' H', Ext G H G' H' → H a = none → G' a = none → OwAt K mg ww G' H' a d → Q (.ref a) H')
  | .ex c => ∀ C G' H', Ext G H G' H' → mg c = some (.ref C) → W (.ref C) none H'
def tM (K : PySem.W.Frag) (mg : Str → Option Value) (ww : World) (W : WX) (f : En → Oc D) : TE := fun σ H Q => ∃ G ρ, Rel K mg ww G H ρ σ ∧ PostM K mg ww (fun c d H' => W c d σ H') G H Q (f ρ)
abbrev SM (X : Cx) (W : WX) (e : Expr) (f : En → Oc D) : Prop := PE X e (tM X.K X.mg X.w W f)
def spFM (K : PySem.W.Frag) (mg : Str → Option Value) (ww : World) (n : Nat) (F : List D → Oc D) : Sp := fun vs H Q E => vs.length = n ∧ ∃ G ds, Vw G H ∧ Tabs K G H ∧ RepL K mg ww G vs ds ∧ PostM K mg ww E G H Q (F ds)
theorem PostM.chk {U : XK} {G H : Hp} {Q : VK} {b : Bool} {o : Oc D} (h : PostM K mg ww U G H Q (Fx.chk b o)) : b = true ∧ PostM K mg ww U G H Q o := chk_some (P := PostM K mg ww U G H Q) (fun z => z) h
theorem PostM.imp {W : XK} {G H G1 H1 : Hp} {Q Q' : VK} {o : Oc D} (x : Ext G H G1 H1) (h : PostM K mg ww W G H Q o) (q : ∀ v H, Q v H → Q' v H) : PostM K mg ww W G1 H1 Q' o := by
  cases o with
  | st => exact h
  | ok d => exact ⟨fun hn G' H' e => q _ _ (h.1 hn G' H' (x.trans e)), fun hn a G' H' e h0 h1 w => q _ _ (h.2 hn a G' H' (x.trans e) (x.hh.free h0) h1 w)⟩
  | ex c => exact fun C G' H' e m => h C G' H' (x.trans e) m
theorem postM_of {W : XK} {G H : Hp} {Q : VK} {o : Oc D} (p : PostE K mg ww W G H Q o) : PostM K mg ww W G H Q o := by
  cases o with
  | st => exact p
  | ex c => exact p
  | ok d =>
    refine ⟨fun hn G' H' x => ?_, fun _ a G' H' x ha ga ow => ?_⟩
    · obtain rfl := non_of hn
      exact p .non G' H' x .non
    · obtain ⟨u, hu⟩ := ow.ex
      have gg : Same G' (upd G' a u) := fun b o e => by rw [upd_ne (ne_of_none e ga)]; exact e
      refine p (.ref a) (upd G' a u) H' ⟨x.hh, x.gg.trans gg, fun b o e => ?_, fun b o hb gb => ?_⟩ (ow.rep gg fun o q => by rw [hu] at q; cases q; exact upd_same)
      · by_cases hb : b = a
        · subst hb; rw [upd_same] at e; cases e; exact ow.seen hu _ _ hu
        · rw [upd_ne hb] at e; exact x.gh _ _ e
      · rw [upd_ne (ne_of_none hb ha)]; exact x.nc b o hb gb
structure KnM (P : Program) (w : World) (K : PySem.W.Frag) (mg : Str → Option Value) (base : Heap) (k : Nat) (x : Str) (n : Nat) (dds : List D) (F : List D → Oc D) : Prop where
  ex : ∃ (f : Addr) (fd : FuncData) (ps : List Str) (ds : List Value) (dvs : List V), FnOk P w K mg base (L2.CX P w) k f fd ps (spFM K mg w (n + dds.length) F) ∧ mg x = some (.ref f) ∧ PySem.W.keepIn K (.ref f) = true ∧ Binds K fd ps ds ∧ Vals dvs ds ∧ (∀ G, RepL K mg w G dvs dds)
abbrev XKnM (X : Cx) := KnM X.prog X.w X.K X.mg X.base
theorem KnM.kn {P : Program} {w : World} {base : Heap} {k n : Nat} {x : Str} {dds : List D} {F : List D → Oc D} (h : KnM P w K mg base k x n dds F) : Kn P w K mg base k x n dds F := by
  obtain ⟨f, fd, ps, ds, dvs, ok, r⟩ := h.ex
  exact ⟨f, fd, ps, ds, dvs, ok.imp fun vs H Q E ⟨hl, G, es, s, t, r, p⟩ => ⟨hl, G, es, s, t, r, postM_of p⟩, r⟩
section
variable {X : Cx} {W : WX} {U : XK} {fre : Fr} {a b c e : Expr} {es : List Expr} {f g h : En → Oc D} {fs : En → Oc (List D)} {pos : Pos} {G H : Hp} {Q : VK} {i : Nat} {x : Str} {pos' : Pos} {t : En → Oc Bool}
theorem PostM.call {n : Nat} {vs dvs : List V} {ds dds : List D} {F : List D → Oc D} (s : Vw G H) (tb : Tabs K G H) (r : RepL K mg ww G vs ds) (rd : ∀ G, RepL K mg ww G dvs dds) (p : PostM K mg ww U G H Q (Fx.chk (decide (ds.length = n)) (F (ds ++ dds)))) : spFM K mg ww (n + dds.length) F (vs ++ dvs) H Q U := by
  obtain ⟨c, p⟩ := p.chk
  exact ⟨by rw [List.length_append, r.length, (rd G).length, of_decide_eq_true c], G, ds ++ dds, s, tb, r.append (rd G), p⟩
theorem sm_call {k n : Nat} {nm : Str} {dds : List D} {F : List D → Oc D} {p : Pos} (kn : XKnM X k nm n dds F) (C : Ctx X W) (hr : Room k X.A) (hg : Gl X nm) (ha : SA X W (e :: es) fs) (hdb : (nm == ("__debug__" : Str)) = false := by decide)
    (he : starEach (e :: es) X.env = (false, eval e X.env) :: starEach es X.env := by rfl) (hpl : (backTo pos (starEach es X.env)).any (·.1) = false := by rfl) : SM X W (.Call (.Name nm p) (e :: es) [] pos) (cal F n dds fs) := by
  obtain ⟨f, fd, ps, ds, dvs, ok, gm, kp, b, vd, rd⟩ := kn.ex
  refine PE.weak (pe_callW ok hr hg gm kp b vd C.tk ha hdb he hpl) fun σ H Q ⟨G, ρ, R, p⟩ => ?_
  refine ⟨G, ρ, R, ?_⟩
  revert p
  unfold cal
  cases fs ρ with
  | st => exact id
  | ex c => exact id
  | ok ds =>
    intro p vs G1 H1 x1 r1
    have p := PostM.imp x1 p fun _ _ q => q
    exact p.call x1.gh (R.ext x1).tabs r1 rd
def asgM (i : Nat) (f : En → Oc D) : En → Oc Res := fun ρ => bd (f ρ) fun d => chk (!isObj d) (.ok (.nx (ρ.set i (if isNon d then .sh d else .ow d))))
theorem ss_setM (C : Ctx X (up U)) (hi : X.N[i]? = some x) (hx : Loc X.env.scope x) (ha : SM X (up U) a f) (hs : swapsWith a (some (.Name x pos')) pos.line X.env = pure false := by rfl) (hf : X.fn x = true ∨ X.env.scope.names.lookup x = some .local := by first | exact .inl rfl | exact .inr rfl | assumption) :
    SS X U fre (.Assign [.Name x pos'] a pos) (asgM i f) := PS.weak (ps_set C.nd hi hx ha hs hf) fun D σ H ⟨G, ρ, me, G0, H0, B, p⟩ => by
  refine ⟨G, ρ, B.rel, ?_⟩
  revert p
  unfold asgM
  cases f ρ with
  | st => exact id
  | ex c => exact fun p C G' H' x m => p C G' H' (B.ext.trans x) m
  | ok d =>
    intro p
    simp only [bd_ok] at p
    obtain ⟨c, p⟩ := p.chk
    refine ⟨fun hn G' H' x => ?_, fun hn a G' H' x ha ga ow => ?_⟩
    · rw [if_pos hn] at p
      obtain rfl := non_of hn
      exact p _ G' H' ((B.step x).set i .non)
    · rw [if_neg (by rw [hn]; decide)] at p
      exact p _ G' H' (B.setW x i (by simpa using c) ha ga ow)
def retP (f : En → Oc D) : En → Oc Res := fun ρ => bd (f ρ) fun d => chk (isNon d) (.ok (.rt d))
theorem ss_retP (ha : SE X (up U) a f) : SS X U .o (.Return (some a) pos) (retP f) := PS.weak (ps_ret ha) fun D σ H ⟨G, ρ, me, G0, H0, B, p⟩ => by
  refine tE_in B ?_
  revert p
  unfold retP
  cases f ρ with
  | st => exact id
  | ex c => exact id
  | ok d =>
    intro p v G' H' B' r
    simp only [bd_ok] at p
    obtain ⟨c, p⟩ := p.chk
    obtain rfl := non_of c
    cases r
    exact p.1 rfl G' H' B'.ext
theorem sf_rev {k : Nat} {p1 p2 p3 : Pos} (ha : SQ X W a f) : SF X W (.Subscript a (.Slice none none (some (.UnaryOp .USub (.Constant (.int 1) k p1) p2)) p3) pos) (un revD f) :=
  sf_un (r := fun x H Q => ∃ a xs, x = .ref a ∧ SqL X.K H a xs ∧ ∀ p, H p = none → Q (.ref p) (upd H p (.lst xs.reverse))) (fun ha => pe_revL ha) (fun {G H x d1 Q U} s r p => by
    unfold revD at p
    split at p
    · obtain ⟨q, xs, e, hq, rr⟩ := r.lst s
      exact ⟨q, xs, e, SqL.of hq, p.newL s rr.reverse⟩
    · obtain ⟨q, xs, e, hq, rr⟩ := r.fz s
      exact ⟨q, xs, e, hq, p.newL s rr.reverse⟩
    · exact p.elim) ha
/-! ### own names lent -/
def isPl : D → Bool
  | .non => true
  | .bl _ => true
  | .int _ => true
  | .str _ => true
  | _ => false
theorem rep_pl {G G' : Hp} {v : V} {d : D} (h : isPl d = true) (r : Rep K mg ww G v d) : Rep K mg ww G' v d := by
  cases r <;> first | exact .non | exact .bl _ | exact .int _ | exact .str _ | cases h
def brT (i : Nat) (t : En → Oc Bool) : En → Oc Bool := fun ρ => match ρ[i]? with
  | some (.ow d) => t (ρ.set i (.sh d))
  | _ => t ρ
theorem st_brT (i : Nat) (h : STT X W e t) : STT X W e (brT i t) := PT.weak h fun σ H Q ⟨G, ρ, R, p⟩ => by
  unfold brT at p
  split at p
  · rename_i d hi
    obtain ⟨a, G', ha, ga, ⟨o, ho, rfl⟩, rp, R'⟩ := R.freeze i hi
    refine ⟨upd G a o, _, R', ?_⟩
    have key : ∀ {G1 H1 : Hp}, Ext (upd G a o) H G1 H1 → Ext G H G H1 := fun {G1 H1} x => ⟨x.hh, .refl _, fun b u e => x.gh _ _ (x.gg _ _ (by rw [upd_ne (ne_of_none e ga)]; exact e)), fun _ _ _ g => g⟩
    revert p
    cases t (ρ.set i (.sh d)) with
    | st => exact id
    | ok b => exact fun p G1 H1 x => p G H1 (key x)
    | ex c => exact fun p C G1 H1 x m => p C G H1 (key x) m
  · exact ⟨G, ρ, R, p⟩
/-! ### a < b of nested data -/
def notNone : PyData → Bool
  | .none => false
  | _ => true
def ltB (d e : D) : Option Bool := match toPD d, toPD e with
  | some p, some q => if (SeqAt.shaped p && (SeqAt.shaped q && (PySem.W.alike p q && notNone p))) = true then some (PySem.W.dataLt p q) else none
  | _, _ => none
theorem ltB_some {d e : D} {b : Bool} (h : ltB d e = some b) : ∃ p q, toPD d = some p ∧ toPD e = some q ∧ SeqAt.shaped p = true ∧ PySem.W.alike p q = true ∧ p ≠ .none ∧ b = PySem.W.dataLt p q := by
  unfold ltB at h
  cases e1 : toPD d with
  | none => rw [e1] at h; cases h
  | some p =>
    cases e2 : toPD e with
    | none => rw [e1, e2] at h; cases h
    | some q =>
      rw [e1, e2] at h
      simp only at h
      by_cases hc : (SeqAt.shaped p && (SeqAt.shaped q && (PySem.W.alike p q && notNone p))) = true
      · rw [if_pos hc] at h
        simp only [Bool.and_eq_true] at hc
        exact ⟨p, q, rfl, rfl, hc.1, hc.2.2.1, (fun z => by rw [z] at hc; exact absurd hc.2.2.2 (by decide)), (Option.some.inj h).symm⟩
      · rw [if_neg hc] at h; cases h
def ltD (d e : D) : Oc D := match ltB d e with
  | some b => .ok (.bl b)
  | none => .st
def rLtD (K : PySem.W.Frag) : R2 := fun x y H Q => ∃ d e, Dp K H x d ∧ Dp K H y e ∧ d.depth ≤ 64 ∧ PySem.W.alike d e = true ∧ d ≠ .none ∧ Q (.bl (PySem.W.dataLt d e)) H
theorem or_ltD (hu : X.A.units + 65 < cLine) : OpR X (compareOp .Lt) (rLtD X.K) := by
  intro pins s σ H x y v u Q I rx ry h
  obtain ⟨d, e, hd, he, dp, al, hn, q⟩ := h
  obtain ⟨as, r1⟩ := Dp.reads I d x v hd rx
  obtain ⟨bs, r2⟩ := Dp.reads I e y u he ry
  exact PySem.W.rcLt_alike d e X.A s v u as bs r1 r2 al hn (by omega) X.prog X.w _ _ ⟨.bl _, H, I, rfl, q⟩
theorem shaped_depth {p : PyData} (h : SeqAt.shaped p = true) : p.depth ≤ 64 := by
  unfold SeqAt.shaped at h
  rw [Bool.and_eq_true, decide_eq_true_eq] at h
  exact h.2
theorem lt_of {U : XK} {y : V} {d1 d2 : D} {v : V} (s : Vw G H) (r1 : RepQ X.K X.mg X.w G H v d1) (r2 : RepQ X.K X.mg X.w G H y d2) (p : PostE X.K X.mg X.w U G H Q (ltD d1 d2)) : rLtD X.K v y H Q := by
  unfold ltD at p
  cases e : ltB d1 d2 with
  | none => rw [e] at p; exact p.elim
  | some b =>
    rw [e] at p
    obtain ⟨p1, q1, e1, e2, h1, h2, h3, rfl⟩ := ltB_some e
    exact ⟨p1, q1, r1.dp s e1, r2.dp s e2, shaped_depth h1, h2, h3, p.here s (.bl _)⟩
theorem st_ltD (ha : SQ X W a f) (hb : SQ X W b g) (hu : X.A.units + 65 < cLine) : STT X W (.Compare a [.Lt] [b] pos) (tst (bi ltD f g)) := st_op2 (fun ha hb => pt_cmpR (or_ltD hu) ha hb (nomark _)) lt_of ha hb
theorem se_ltD (ha : SQ X W a f) (hb : SQ X W b g) (hu : X.A.units + 65 < cLine) : SE X W (.Compare a [.Lt] [b] pos) (bi ltD f g) := se_op2 (fun ha hb => pe_cmpR (or_ltD hu) ha hb (nomark _)) lt_of ha hb
end
section
variable {P : Program} {w : World} {base : Heap}
def outM (o : Oc Res) : Oc D := bd o fun r => match r with
  | .rt d => .ok d
  | .nx _ => .ok .non
  | _ => .st
def fnM (n m : Nat) (g : En → Oc Res) : List D → Oc D := fun ds => chk (decide (ds.length = m)) (outM (g (ds.map .sh ++ List.replicate (n - m) .no)))
theorem fnM_start {N ps : List Str} {sc : Scope} {G H : Hp} {vs : List V} {ds : List D} {Q : VK} {E : XK} {g : En → Oc Res} (S : FnScope N ps sc) (sG : Vw G H) (tb : Tabs K G H) (r : RepL K mg ww G vs ds) (p : PostM K mg ww E G H Q (fnM N.length ps.length g ds)) :
    tS K mg ww E .o g { nx := fun _ H' => Q .non H', rt := Q } (L2.start N vs) H := by
  unfold fnM at p
  obtain ⟨c, p⟩ := p.chk
  have hd := of_decide_eq_true c
  have R := rel_start (N := N) sG tb r
  rw [hd] at R
  refine ⟨G, _, 0, G, H, ⟨R, .refl sG, fun i a d h1 _ => absurd h1 (noOwn i d), fun i c fs h1 => absurd h1 (noOwn i _)⟩, ?_⟩
  revert p
  unfold outM
  cases g (ds.map .sh ++ List.replicate (N.length - ps.length) .no) with
  | st => exact id
  | ex c => exact id
  | ok r =>
    simp only [bd_ok]
    cases r with
    | nx ρ => exact fun p σ G' H' B => p.1 rfl G' H' B.ext
    | rt d => exact fun p => ⟨fun hn G' H' x => p.1 hn G' H' x, fun hn a G' H' x h g w => p.2 hn a G' H' x h g w⟩
    | bk ρ => exact fun p => p.elim
    | ct ρ => exact fun p => p.elim
theorem fnM_ok {x qual : Str} {pa : Arguments} {bd : List Stmt} {sc : Scope} {dvs : List V} {kws : List (Str × V)} {f : Addr} {fd : FuncData} {N ps : List Str} {k : Nat} {g : En → Oc Res} (F : FunD K x qual pa bd sc dvs kws f fd) (S : FnScope N ps sc)
    (hb : ∀ (cdv : Value) (A : Around) (outer : List Env) (s : Shared) (H : Hp) (E : XK), fd.code = cdv → Room k (A.deeper (envOfC qual sc s.heap.objs.size f cdv)) → Ctx (cxOf (L2.CX P w) P w K mg base N qual sc f cdv A outer s H E) (up E) →
      SSs (cxOf (L2.CX P w) P w K mg base N qual sc f cdv A outer s H E) E .o bd g) : FnOk P w K mg base (L2.CX P w) (k + 1) f fd ps (spFM K mg w ps.length (fnM N.length ps.length g)) := by
  obtain ⟨oc, od, dV, kV, doc, pm, an, cdv, ct, osl, rfl, lk, hcd, _, _⟩ := F.ex
  refine fn_of lk hcd S (fun vs H Q E h => h.1) fun A outer s H vs Q E hr h => ?_
  obtain ⟨hl, G, ds, sG, tb, r, p⟩ := h
  refine ⟨_, hb cdv A outer s H E rfl hr (ctx_def S hr), ?_⟩
  exact fnM_start S sG tb r p
end
end Fx

set_option Elab.async false
set_option linter.all false
set_option maxRecDepth 100000
set_option maxHeartbeats 4000000
/-! Fx29: all of a generator expression of two clauses. -/
namespace Fx
open PySem PySem.Spec PyProof.Rows L2
variable {K : PySem.W.Frag} {mg : Str → Option Value} {ww : World}
def thn2 (neg : Bool) (r : Oc D) : Oc D → Oc D
  | .ok (.bl b) => if b = neg then .ok (.bl neg) else r
  | _ => .st
def ga2L (T : Tg) (own : List Nat) (neg : Bool) (src1 : En → Oc (List D)) (T1 : Tg) (own1 : List Nat) (el : En → Oc D) (ρ : En) : List D → Oc D
  | [] => .ok (.bl (!neg))
  | d :: ds => bd (noex (bindT T d (wipeE ρ own))) fun ρ1 => bd (noex (src1 ρ1)) fun es => thn2 neg (ga2L T own neg src1 T1 own1 el ρ ds) (gaL T1 own1 neg el ρ1 es)
def ga2 (T : Tg) (own : List Nat) (neg : Bool) (src : En → Oc (List D)) (src1 : En → Oc (List D)) (T1 : Tg) (own1 : List Nat) (el : En → Oc D) : En → Oc D := fun ρ => bd (src ρ) fun ds => ga2L T own neg src1 T1 own1 el ρ ds
def lens (T : Tg) (own : List Nat) (src1 : En → Oc (List D)) (ρ : En) (d : D) : Nat := match bindT T d (wipeE ρ own) with
  | .ok ρ1 => match src1 ρ1 with
    | .ok es => es.length
    | _ => 0
  | _ => 0
def mu (T : Tg) (own : List Nat) (src1 : En → Oc (List D)) (ρ : En) : List D → Nat
  | [] => 0
  | d :: ds => lens T own src1 ρ d + 2 + mu T own src1 ρ ds
theorem tAA2_in {neg : Bool} {gp : Pos} {P : Addr} {T T1 : Tg} {own own1 : List Nat} {src src1 : En → Oc (List D)} {el : En → Oc D} {σ : L2.St} {H : Hp} {Q : VK} {W : WX} (hP : IsTab K P) (hn : Gx.nstPos gp.line gp.col = none) (ho : ∀ i ∈ T.slots, i ∈ own) (ho1 : ∀ i ∈ T1.slots, i ∈ own1)
    (q : tE K mg ww W (ga2 T own neg src src1 T1 own1 el) σ H Q) :
    Gx.tAA2 neg gp P (tI K mg ww W src) (gT K T) (tI K mg ww E0W src1) (gT K T1) (tE K mg ww E0W el) own own1 σ H Q := by
  obtain ⟨G, ρ, R, p⟩ := q
  refine ⟨G, ρ, R, ?_⟩
  revert p
  unfold ga2
  cases src ρ with
  | st => exact id
  | ex c => exact id
  | ok ds =>
    intro p J G1 H1 x1 Y
    simp only [bd_ok] at p
    obtain ⟨t1, g1⟩ := (R.ext x1).tabs P hP
    refine ⟨t1, fun H2 hT => ?_⟩
    have x12 : Ext G1 H1 G1 H2 := .tabbed x1.gh t1 g1 hn hT
    have R2 : Rel K mg ww G1 H2 ρ σ := (R.ext x1).ext x12
    refine ⟨fun i m H => m = mu T own src1 ρ (ds.drop i) ∧ i ≤ ds.length ∧ ∃ G, Ext G1 H2 G H ∧ PostE K mg ww (fun c d H' => W c d σ H') G H Q (ga2L T own neg src1 T1 own1 el ρ (ds.drop i)), ⟨mu T own src1 ρ ds, by simp, Nat.zero_le _, G1, .refl x12.gh, PostE.imp (x1.trans x12) p fun _ _ z => z⟩, ?_⟩
    rintro i m H ⟨rfl, hi, G, x, p⟩
    by_cases hlt : i < ds.length
    · refine .inr ⟨Y.go i G H hlt x.gg x.gh, fun v H' y => ?_⟩
      obtain ⟨d, hd⟩ : ∃ d, ds[i]? = some d := ⟨ds[i], List.getElem?_eq_getElem hlt⟩
      obtain ⟨G2, x2, r2⟩ := Y.yld i d v G H H' hd x.gg x.gh y
      have hdr : ds.drop i = d :: ds.drop (i + 1) := by
        rw [List.drop_eq_getElem_cons hlt]
        rw [List.getElem?_eq_getElem hlt] at hd
        cases hd
        rfl
      rw [hdr] at p ⊢
      unfold ga2L at p
      cases h1 : noex (bindT T d (wipeE ρ own)) with
      | st => rw [h1] at p; exact p.elim
      | ex c => exact (noex_ne h1).elim
      | ok ρ1 =>
        rw [h1] at p
        simp only [bd_ok] at p
        have R3 : Rel K mg ww G2 H' (wipeE ρ own) (L2.wipe σ own) := ((R2.ext x).ext x2).wipe own
        refine gT_rel R3 r2 (noex_eq h1) fun us R4 => ⟨setT_wipe ho, ?_⟩
        refine ⟨G2, ρ1, R4, ?_⟩
        cases h2 : noex (src1 ρ1) with
        | st => rw [h2] at p; exact p.elim
        | ex c => exact (noex_ne h2).elim
        | ok es =>
          rw [h2] at p
          simp only [bd_ok] at p
          have el2 : lens T own src1 ρ d = es.length := by
            unfold lens
            rw [noex_eq h1]
            simp only
            rw [noex_eq h2]
          rw [noex_eq h2]
          intro J1 G5 H5 x5 Y1
          have R5 := R4.ext x5
          refine ⟨fun j k H => k = (es.length - j) + mu T own src1 ρ (ds.drop (i + 1)) + 1 ∧ j ≤ es.length ∧ ∃ G, Ext G5 H5 G H ∧ PostE K mg ww (fun c d H' => W c d σ H') G H Q (thn2 neg (ga2L T own neg src1 T1 own1 el ρ (ds.drop (i + 1))) (gaL T1 own1 neg el ρ1 (es.drop j))), ⟨_, ?_, rfl, Nat.zero_le _, G5, .refl x5.gh, PostE.imp (x2.trans x5) p fun _ _ z => z⟩, ?_⟩
          · rw [mu, el2]; omega
          rintro j k H6 ⟨rfl, hj, G6, x6, p⟩
          by_cases hlt1 : j < es.length
          · refine .inr ⟨Y1.go j G6 H6 hlt1 x6.gg x6.gh, fun v1 H7 y1 => ?_⟩
            obtain ⟨e, he⟩ : ∃ e, es[j]? = some e := ⟨es[j], List.getElem?_eq_getElem hlt1⟩
            obtain ⟨G7, x7, r7⟩ := Y1.yld j e v1 G6 H6 H7 he x6.gg x6.gh y1
            have her : es.drop j = e :: es.drop (j + 1) := by
              rw [List.drop_eq_getElem_cons hlt1]
              rw [List.getElem?_eq_getElem hlt1] at he
              cases he
              rfl
            rw [her] at p
            unfold gaL at p
            cases h3 : noex (bindT T1 e (wipeE ρ1 own1)) with
            | st => rw [h3] at p; exact p.elim
            | ex c => exact (noex_ne h3).elim
            | ok ρ2 =>
              rw [h3] at p
              simp only [bd_ok] at p
              have R7 : Rel K mg ww G7 H7 (wipeE ρ1 own1) (L2.wipe _ own1) := ((R5.ext x6).ext x7).wipe own1
              refine gT_rel R7 r7 (noex_eq h3) fun us1 R8 => ⟨setT_wipe ho1, ?_⟩
              refine ⟨G7, ρ2, R8, ?_⟩
              cases h4 : noex (el ρ2) with
              | st => rw [h4] at p; exact p.elim
              | ex c => exact (noex_ne h4).elim
              | ok yd =>
                rw [h4] at p
                simp only [bd_ok] at p
                rw [noex_eq h4]
                intro yv G8 H8 x8 ry
                cases yd with
                | bl b =>
                  cases ry
                  refine ⟨b, rfl, ?_⟩
                  simp only at p
                  by_cases hb : b = neg
                  · rw [if_pos hb] at p ⊢
                    have e9 : ∀ r : Oc D, thn2 neg r (.ok (.bl neg)) = .ok (.bl neg) := fun r => if_pos rfl
                    rw [e9] at p
                    exact p _ G8 H8 (x7.trans x8) (.bl _)
                  · rw [if_neg hb] at p ⊢
                    exact ⟨_, by omega, rfl, hlt1, G8, (x6.trans x7).trans x8, PostE.imp (x7.trans x8) p fun _ _ z => z⟩
                | _ => exact p.elim
          · have ej : j = es.length := by omega
            subst ej
            rw [List.drop_length] at p
            refine .inl ⟨Y1.stop G6 H6 x6.gg x6.gh, mu T own src1 ρ (ds.drop (i + 1)), by omega, rfl, hlt, G6, ((x.trans x2).trans x5).trans x6, ?_⟩
            have e : thn2 neg (ga2L T own neg src1 T1 own1 el ρ (ds.drop (i + 1))) (gaL T1 own1 neg el ρ1 []) = ga2L T own neg src1 T1 own1 el ρ (ds.drop (i + 1)) := by
              show (if (!neg) = neg then _ else _) = _
              rw [if_neg (by cases neg <;> decide)]
            rw [e] at p
            exact p
    · have e : i = ds.length := by omega
      subst e
      rw [List.drop_length] at p
      exact .inl ⟨Y.stop G H x.gg x.gh, p _ G H (.refl x.gh) (.bl _)⟩
section
variable {X : Cx} {W : WX} {elt tg it tg1 it1 : Expr} {pos : Pos}
theorem se_allG2 {c P : Addr} {k : Nat} {p gpos : Pos} {scope : Scope} {own : List (Str × Nat)} {T T1 : Tg} {own1 : List Nat} {src src1 : En → Oc (List D)} {el : En → Oc D} (C : Ctx X W) (hr : Room k X.A) (hg : Gl X "all") (hm : X.mg "all" = none) (t : TbOk X c P) (hnp : Gx.nstPos gpos.line gpos.col = none) (hcode : X.env.code = .ref c) (ok : BlkOk X.N X.env.scope scope own)
    (nc : (scope.names.all fun y => y.2 != .cell) = true) (dot : scope.names.lookup (".0" : Str) = some NameKind.local) (co : scope.isCoroutine = false) (hi : SI X W tg it src)
    (hgt : ∀ (s : Shared) (H : Hp) (C : Addr) (code : Value) (fp : List Addr) (pn : List (Addr × Obj)), ST (Gx.gen X (X.A.in1.in1.deeper (Gx.gEnv X scope C code)) s H (Gx.gEnv X scope C code) fp pn) tg T)
    (hi1 : ∀ (s : Shared) (H : Hp) (C : Addr) (code : Value) (fp : List Addr) (pn : List (Addr × Obj)), SI (Gx.gen X (X.A.in1.in1.deeper (Gx.gEnv X scope C code)) s H (Gx.gEnv X scope C code) fp pn) E0W tg1 it1 src1)
    (hgt1 : ∀ (s : Shared) (H : Hp) (C : Addr) (code : Value) (fp : List Addr) (pn : List (Addr × Obj)), ST (Gx.gen X (X.A.in1.in1.deeper (Gx.gEnv X scope C code)) s H (Gx.gEnv X scope C code) fp pn) tg1 T1)
    (he : ∀ (s : Shared) (H : Hp) (C : Addr) (code : Value) (fp : List Addr) (pn : List (Addr × Obj)), SE (Gx.gen X (X.A.in1.in1.deeper (Gx.gEnv X scope C code)) s H (Gx.gEnv X scope C code) fp pn) E0W elt el) (ho : ∀ i ∈ T.slots, i ∈ own.map (·.2)) (ho1 : ∀ i ∈ T1.slots, i ∈ own1) (hv : ∀ i ∈ own1, i ∈ own.map (·.2)) (hs : ∀ v, genFold it X.env v = pure v := by intro _; rfl) (hs1 : ∀ env x, foldedSetIterable it1 env x = pure x := by intro _ _; rfl) :
    SE X W (.Call (.Name "all" p) [.GeneratorExp elt [⟨tg, it, [], 0⟩, ⟨tg1, it1, [], 0⟩] scope gpos] [] pos) (ga2 T (own.map (·.2)) false src src1 T1 own1 el) :=
  PE.weak (Gx.pe_all2 hr C.calm C.nd hg hm (by decide +kernel) t.tb hcode ok (fun y hy e => by have := List.all_eq_true.mp nc y hy; rw [e] at this; simp at this) dot co hi hgt hi1 hgt1 he hs hs1 hv) fun σ H Q q => tAA2_in t.is hnp ho ho1 q
end
@[simp] theorem ga2_ap (T : Tg) (own : List Nat) (neg : Bool) (src src1 : En → Oc (List D)) (T1 : Tg) (own1 : List Nat) (el : En → Oc D) (ρ : En) : ga2 T own neg src src1 T1 own1 el ρ = bd (src ρ) fun ds => ga2L T own neg src1 T1 own1 el ρ ds := id rfl
theorem ga2L_all {T T1 : Tg} {own own1 : List Nat} {src1 : En → Oc (List D)} {el : En → Oc D} {ρ : En} {α : Type} {f : α → D} {p : α → Bool} : ∀ {xs : List α}, (∀ x ∈ xs, ∃ ρ1 es, bindT T (f x) (wipeE ρ own) = .ok ρ1 ∧ src1 ρ1 = .ok es ∧ gaL T1 own1 false el ρ1 es = .ok (.bl (p x))) → ga2L T own false src1 T1 own1 el ρ (xs.map f) = .ok (.bl (xs.all p))
  | [], _ => rfl
  | x :: xs, h => by
    obtain ⟨ρ1, es, h1, h2, h3⟩ := h x List.mem_cons_self
    rw [List.map_cons, List.all_cons]
    unfold ga2L
    rw [h1]
    simp only [noex_ok, bd_ok]
    rw [h2]
    simp only [noex_ok, bd_ok]
    rw [h3]
    have ih := ga2L_all (T := T) (own := own) (src1 := src1) (T1 := T1) (own1 := own1) (el := el) (ρ := ρ) (f := f) (p := p) fun y hy => h y (List.mem_cons_of_mem x hy)
    rw [ih]
    cases p x <;> rfl
end Fx

set_option Elab.async false
set_option linter.all false
set_option maxRecDepth 100000
set_option maxHeartbeats 4000000
/-! Fx30: chains of any two orders; tuple(range(n)). -/
namespace Fx
open PySem PySem.Spec PyProof.Rows L2
section
variable {X : Cx} {W : WX} {a b c e : Expr} {f g h : En → Oc D} {pos : Pos}
def chnQ (q q' : Int → Int → Bool) (f g h : En → Oc D) : En → Oc D := fun ρ => bd (f ρ) fun x => bd (g ρ) fun y => bd (cmpD q x y) fun z => match z with
  | .bl true => bd (h ρ) fun w => cmpD q' y w
  | .bl false => .ok (.bl false)
  | _ => .st
theorem se_chainQ {op op' : CmpOp} {q q' : Int → Int → Bool} (ho : OpR X (compareOp op) (rI0 fun i j => .bl (q i j))) (ho' : OpR X (compareOp op') (rI0 fun i j => .bl (q' i j))) (ha : SQ X W a f) (hb : SQ X W b g) (hc : SQ X W c h) (hm : lastMarks [op, op'] [b, c] = false := by with_unfolding_all rfl) : SE X W (.Compare a [op, op'] [b, c] pos) (chnQ q q' f g h) :=
  PE.weak (pe_chain ho ho' ha hb hc hm) fun σ H Q ⟨G, ρ, R, p⟩ => by
  refine ⟨G, ρ, R, ?_⟩
  revert p
  unfold chnQ
  cases f ρ with
  | st => exact id
  | ex c => exact id
  | ok d1 =>
    intro p x G1 H1 x1 r1
    refine ⟨G1, ρ, R.ext x1, ?_⟩
    revert p
    simp only [bd_ok]
    cases g ρ with
    | st => exact id
    | ex c => exact fun p C G' H' e m => p C G' H' (x1.trans e) m
    | ok d2 =>
      intro p y G2 H2 x2 r2
      simp only [bd_ok] at p
      cases hz : cmpD q d1 d2 with
      | st => rw [hz] at p; exact p.elim
      | ex c => exact (cmpD_ex hz).elim
      | ok z =>
        rw [hz] at p
        obtain ⟨i, j, rfl, rfl, rfl⟩ := cmpD_ok hz
        refine ⟨i, j, RepQ.int (RepQ.ext x2 r1), RepQ.int (K := X.K) (mg := X.mg) r2, _, rfl, ?_⟩
        simp only [bd_ok] at p
        cases hd : q i j with
        | false =>
          rw [hd] at p
          simp only [Bool.false_eq_true, if_false]
          exact p _ G2 H2 (x1.trans x2) (.bl _)
        | true =>
          rw [hd] at p
          simp only [if_true]
          refine ⟨G2, ρ, (R.ext x1).ext x2, ?_⟩
          revert p
          simp only
          cases h ρ with
          | st => exact id
          | ex c => exact fun p C G' H' e m => p C G' H' ((x1.trans x2).trans e) m
          | ok d3 =>
            intro p w' G3 H3 x3 r3
            simp only [bd_ok] at p
            cases hw : cmpD q' (.int j) d3 with
            | st => rw [hw] at p; exact p.elim
            | ex c => exact (cmpD_ex hw).elim
            | ok z2 =>
              rw [hw] at p
              obtain ⟨j2, k, e1, rfl, rfl⟩ := cmpD_ok hw
              cases e1
              exact ⟨j, k, RepQ.int (RepQ.ext x3 r2), RepQ.int (K := X.K) (mg := X.mg) r3, p _ G3 H3 ((x1.trans x2).trans x3) (.bl _)⟩
theorem chnQ_ints {q q' : Int → Int → Bool} {f g h : En → Oc D} {ρ : En} {i j k : Int} (h1 : f ρ = .ok (.int i)) (h2 : g ρ = .ok (.int j)) (h3 : h ρ = .ok (.int k)) : chnQ q q' f g h ρ = .ok (.bl (q i j && q' j k)) := by
  unfold chnQ
  simp only [h1, h2, h3, bd_ok, cmpD_int]
  cases q i j <;> rfl
def lrgT (f : En → Oc D) : En → Oc D := fun ρ => bd (f ρ) fun d => match d with
  | .int n => chk (decide (-1000 ≤ n ∧ n ≤ 16777216)) (.ok (.tup (rgD n)))
  | _ => .st
theorem se_tupRg {p p2 pos2 : Pos} (hc : X.calm = true) (hgl : Gl X "tuple") (hml : X.mg "tuple" = none) (hg : Gl X "range") (hm : X.mg "range" = none) (he : SE X W e f)
    (na : starEach [e] X.env = (false, eval e X.env) :: starEach [] X.env := by rfl)
    (na2 : starEach [.Call (.Name "range" p) [e] [] pos] X.env = (false, eval (.Call (.Name "range" p) [e] [] pos) X.env) :: starEach [] X.env := by rfl) :
    SE X W (.Call (.Name "tuple" p2) [.Call (.Name "range" p) [e] [] pos] [] pos2) (lrgT f) :=
  PE.weak (pe_tupRg hc hgl hml (prg_1 hg hm he na) na2) fun σ H Q ⟨G, ρ, R, q⟩ => by
  refine ⟨G, ρ, R, ?_⟩
  revert q
  unfold lrgT
  cases f ρ with
  | st => exact id
  | ex c => exact id
  | ok d =>
    intro q v G1 H1 x1 r1
    simp only [bd_ok] at q
    cases d with
    | int n =>
      cases r1
      have q2 := chk_some (P := PostE X.K X.mg X.w (fun c d H' => W c d σ H') G H Q) (fun z => z) q
      have hn := of_decide_eq_true q2.1
      exact ⟨n, rfl, ⟨by omega, by omega, by omega, by omega, by omega⟩, PostE.newT (U := fun c d H' => W c d σ H') x1.gh (repl_rg n) (PostE.imp x1 q2.2 fun _ _ z => z)⟩
    | _ => exact q.elim
@[simp] theorem lrgT_ap (f : En → Oc D) (ρ : En) : lrgT f ρ = bd (f ρ) fun d => match d with
  | .int n => chk (decide (-1000 ≤ n ∧ n ≤ 16777216)) (.ok (.tup (rgD n)))
  | _ => .st := id rfl
end
end Fx

set_option Elab.async false
set_option linter.all false
set_option maxRecDepth 100000
/-! Fx32: tuples sorted, empty ones among them or not: which comparison the sort takes, and that it tells the data's order. -/
namespace Fs
open PySem PySem.Calls PyProof.Rows PySem.SeqAt PySem.W
section
variable {prog : Program} {w : World} {A : Around} {E : Value → Shared → Prop} {s : Shared} {vs : List Value} {ds : List PyData}
abbrev Rd (s : Shared) (v : Value) (d : PyData) : Prop := ∃ as, Reads s.heap v d as
theorem less1 {xs ys : List PyData} {a b : Value} {Q : Bool → Shared → Prop} (ra : Rd s a (.tuple xs)) (rb : Rd s b (.tuple ys)) (al : alikeAll xs ys = true) (lim : A.units + min (PyData.tuple xs).depth (PyData.tuple ys).depth < cLine)
    (q : Q (dataLt (.tuple xs) (.tuple ys)) s) : wpAny (model prog w) A (oneLt' true a b) Q E s := by
  obtain ⟨as, ra⟩ := ra
  obtain ⟨bs, rb⟩ := rb
  cases ra with
  | @tuple i oi ui ni _ ci a1 a2 a3 a4 =>
  cases rb with
  | @tuple j oj uj nj _ cj b1 b2 b3 b4 =>
  have li : xs.length = ui.size := (ReadsAll.length _ _ _ a4).symm.trans (Array.length_toList (xs := ui))
  have lj : ys.length = uj.size := (ReadsAll.length _ _ _ b4).symm.trans (Array.length_toList (xs := uj))
  have told : Q (firstLt (pairEq xs ys) (fun k => dataLt (xs.getD k .none) (ys.getD k .none)) (decide (ui.size < uj.size)) (List.range (min ui.size uj.size))) s := by
    rw [← li, ← lj, firstLt_toks xs ys al, ← dataLt_tuple]
    exact q
  obtain ⟨_, di, _, si⟩ := oi
  obtain ⟨_, dj, _, sj⟩ := oj
  cases a2
  cases a3
  cases b2
  cases b3
  rw [oneLt'_eq, if_pos rfl]
  refine wpAny_bind (wpAny_cRoomFor (room_here lim) (wpAny_bind (wpAny_callSpecialIfBound?_slot (T := "tuple") ⟨_, a1, rfl⟩ F.slot_tuple_lt ?_)))
  refine call_meets F.slot_tuple_lt ⟨_, a1, rfl⟩ F.entry_tuple_lt (F.args_tuple_lt_2 _ _) (tuple_ltAt i j ui uj ni nj di dj si sj (pairEq xs ys) _) ⟨a1, b1, fun k h1 h2 => ?_, fun k h1 h2 ne => ?_, wpAny_truthy_bool told⟩
  · have z := eqAt_alikeAll xs ys A.in1 s ui.toList uj.toList _ _ a4 b4 al (room_in lim) k (by rw [Array.length_toList]; exact h1) (by rw [Array.length_toList]; exact h2)
    rw [Array.getElem_toList, Array.getElem_toList] at z
    exact z
  · have z := rcLt_alikeAll xs ys A.in1 s ui.toList uj.toList _ _ a4 b4 al (room_in lim) k (by rw [Array.length_toList]; exact h1) (by rw [Array.length_toList]; exact h2) ne
    rw [Array.getElem_toList, Array.getElem_toList] at z
    exact z
def full : PyData → Bool
  | .tuple (_ :: _) => true
  | _ => false
theorem first1 {M : Model} {v : Value} {xs : List PyData} {Q : Option Value → Shared → Prop} (r : Rd s v (.tuple xs)) (q : ∀ o : Option Value, o.isSome = full (.tuple xs) → Q o s) : wpAny M A (firstOfTuple' v) Q E s := by
  obtain ⟨as, r⟩ := r
  cases r with
  | @tuple i oi ui ni _ ci a1 a2 a3 a4 =>
  rw [kas_first_eq]
  refine wpAny_bind (Looks.here (show Looks M s.heap (typeOf (.ref i)) oi.cls from (Looks.ld a1).andThen .now) ?_)
  rw [if_neg (by rw [a2]; decide)]
  refine wpAny_bind (listItems_at a1 a3 (wpAny_pure (q _ ?_)))
  have l := ReadsAll.length _ _ _ a4
  rw [Array.length_toList] at l
  cases xs with
  | nil => rw [Array.getElem?_eq_none (by rw [l]; exact Nat.le_refl _)]; rfl
  | cons x xs => rw [Array.getElem?_eq_getElem (by rw [l]; exact Nat.succ_pos _)]; rfl
theorem firsts {M : Model} : ∀ (vs : List Value) (ds : List PyData) {Q : List (Option Value) → Shared → Prop}, EachIs (Rd s) vs ds → (∀ d ∈ ds, ∃ xs, d = .tuple xs) → (∀ os : List (Option Value), os.map (·.isSome) = ds.map full → Q os s) → wpAny M A (vs.mapM firstOfTuple') Q E s
  | _, _, Q, .nil, _, q => by rw [List.mapM_nil]; exact wpAny_pure (q [] rfl)
  | v :: vs, d :: ds, Q, .cons r t, ht, q => by
    obtain ⟨xs, rfl⟩ := ht d List.mem_cons_self
    rw [List.mapM_cons]
    exact wpAny_bind (first1 r fun o ho => wpAny_bind (firsts vs ds (Q := fun os s' => wpAny M A (pure (o :: os)) Q E s') t (fun d hd => ht d (List.mem_cons_of_mem _ hd)) fun os hos => wpAny_pure (q (o :: os) (by rw [List.map_cons, List.map_cons, hos, ho]))))
theorem typed {Q : Option Value → Shared → Prop} (e : EachIs (Rd s) vs ds) (ht : ∀ d ∈ ds, ∃ xs, d = .tuple xs) (q : ∀ o : Option Value, (ds ≠ [] → o.isSome = true) → Q o s) : wpAny (model prog w) A (oneTypeOnly' vs.toArray) Q E s := by
  rw [oneTypeOnly'_eq, List.mapM_toArray, map_eq_pure_bind]
  refine wpAny_bind (wpAny_bind (kas_mapM (r := Value.type "tuple") _ (fun v hv Q' k => ?_) (wpAny_pure ?_)))
  · obtain ⟨d, hd, as, r⟩ := e.left v hv
    obtain ⟨xs, rfl⟩ := ht d hd
    cases r with
    | @tuple i oi ui ni _ ci a1 a2 a3 a4 =>
      refine Looks.here (show Looks (model prog w) s.heap (typeOf (.ref i)) oi.cls from (Looks.ld a1).andThen .now) ?_
      rw [a2]
      exact k
  · cases e with
    | nil => exact wpAny_pure (q _ fun z => absurd rfl z)
    | @cons v d vs ds r t =>
      have one : ((List.map (fun _ => Value.type "tuple") (v :: vs)).toArray.all fun x => x == Value.type "tuple") = true := by
        rw [List.all_toArray, List.all_map]
        exact List.all_eq_true.mpr fun _ _ => beq_self_eq_true (Value.type "tuple")
      rw [show (List.map (fun _ => Value.type "tuple") (v :: vs)).toArray[0]? = some (Value.type "tuple") from rfl]
      simp only [one, if_true]
      exact wpAny_pure (q _ fun _ => rfl)
theorem tuples (e : EachIs (Rd s) vs ds) (al : AllAlike ds) (ht : ∀ d ∈ ds, ∃ xs, d = .tuple xs) (lim : ∀ d ∈ ds, A.units + d.depth < cLine) : SortsAt prog w A s (dataKind s.heap ds) vs := by
  by_cases hall : ∀ d ∈ ds, full d = true
  · refine SortsAt.data e al (Or.inl fun d hd => ?_) lim
    obtain ⟨xs, rfl⟩ := ht d hd
    cases xs with
    | nil => exact absurd (hall _ hd) (by decide)
    | cons x xs => exact ⟨x, xs, rfl⟩
  have some1 : (ds.map full).all id = false := by
    cases h : (ds.map full).all id with
    | false => rfl
    | true => exact absurd (fun d hd => by
        rw [List.all_map] at h
        exact List.all_eq_true.mp h d hd) hall
  have ask : ∀ {a b : List (Int ⊕ List Nat)} {x y : Value}, (dataKind s.heap ds).keyOf x = some a → (dataKind s.heap ds).keyOf y = some b → ∃ xs ys, Rd s x (.tuple xs) ∧ Rd s y (.tuple ys) ∧ a = keyToks (.tuple xs) ∧ b = keyToks (.tuple ys) ∧ alike (.tuple xs) (.tuple ys) = true ∧ A.units + min (PyData.tuple xs).depth (PyData.tuple ys).depth < cLine := by
    intro a b x y ea eb
    obtain ⟨d, c, hd, r, rfl⟩ := dataKind_inv ea
    obtain ⟨d2, c2, hd2, r2, rfl⟩ := dataKind_inv eb
    obtain ⟨xs, rfl⟩ := ht d hd
    obtain ⟨ys, rfl⟩ := ht d2 hd2
    exact ⟨xs, ys, ⟨c, r⟩, ⟨c2, r2⟩, rfl, rfl, al _ hd _ hd2, Nat.lt_of_le_of_lt (Nat.add_le_add_left (Nat.min_le_left _ _) _) (lim _ hd)⟩
  constructor
  · intro v hv
    obtain ⟨d, hd, c, r⟩ := e.left v hv
    exact ⟨keyToks d, dataKind_some al hd r⟩
  · have kinds : ∀ (k : SortKind), (∀ (E : Value → Shared → Prop) {Q : SortKind → Shared → Prop}, Q k s → wpAny (model prog w) A (keyKind' vs.toArray) Q E s) → H.LtAt prog w A s (dataKind s.heap ds) k → ∃ kd : SortKind, H.LtAt prog w A s (dataKind s.heap ds) kd ∧ (2 ≤ vs.length → ∀ (E : Value → Shared → Prop) {Q : SortKind → Shared → Prop}, Q kd s → wpAny (model prog w) A (keyKind' vs.toArray) Q E s) :=
      fun k h1 h2 => ⟨k, h2, fun _ => h1⟩
    have walk : ∀ (E : Value → Shared → Prop) {Q : SortKind → Shared → Prop}, (∀ os : List (Option Value), os.map (·.isSome) = ds.map full → wpAny (model prog w) A (do
        if (os.toArray[0]?.bind id).isSome then return general'
        return if (← oneTypeOnly' vs.toArray).isSome then oneType' else general') Q E s) → wpAny (model prog w) A (keyKind' vs.toArray) Q E s := by
      intro E Q h
      rw [keyKind'_eq, List.mapM_toArray, map_eq_pure_bind]
      refine wpAny_bind (wpAny_bind (firsts vs ds e ht fun os hos => wpAny_pure ?_))
      have na : os.toArray.all (·.isSome) = false := by
        rw [List.all_toArray]
        have z := some1
        rw [← hos, List.all_map] at z
        exact z
      simp only [na, Bool.false_eq_true, if_false]
      exact h os hos
    cases ds with
    | nil => exact absurd (fun d hd => absurd hd List.not_mem_nil) hall
    | cons d ds =>
      cases hf : full d with
      | true =>
        refine kinds general' (fun E Q q => walk E fun os hos => ?_) ?_
        · cases os with
          | nil => cases hos
          | cons o os =>
            rw [List.map_cons, List.map_cons, List.cons.injEq, hf] at hos
            have : ((o :: os).toArray[0]?.bind id).isSome = true := hos.1
            simp only [this, if_true]
            exact wpAny_pure q
        · intro E x y a b Q ea eb q
          obtain ⟨xs, ys, ⟨c1, r1⟩, ⟨c2, r2⟩, rfl, rfl, h1, h2⟩ := ask ea eb
          show wpAny (model prog w) A (oneLt' false x y) Q E s
          exact kat_one x y (rcLt_alike _ _ A s x y c1 c2 r1 r2 h1 (fun z => by cases z) h2 prog w _ _ q)
      | false =>
        refine kinds oneType' (fun E Q q => walk E fun os hos => ?_) ?_
        · cases os with
          | nil => cases hos
          | cons o os =>
            rw [List.map_cons, List.map_cons, List.cons.injEq, hf] at hos
            have : ((o :: os).toArray[0]?.bind id).isSome = false := hos.1
            simp only [this, Bool.false_eq_true, if_false]
            refine wpAny_bind (typed e ht fun t k => ?_)
            rw [if_pos (k (List.cons_ne_nil _ _))]
            exact wpAny_pure q
        · intro E x y a b Q ea eb q
          obtain ⟨xs, ys, r1, r2, rfl, rfl, h1, h2⟩ := ask ea eb
          rw [keyLt'_oneType]
          exact less1 r1 r2 (by rw [alike] at h1; exact h1) h2 q
end
end Fs

set_option Elab.async false
set_option linter.all false
set_option maxRecDepth 100000
/-! Fx33: sorted(xs), xs a list or a set of tuples of numbers. -/
namespace Fx
open PySem PySem.Spec PyProof.Rows L2
abbrev rowP (r : List Int) : PyData := .tuple (r.map .int)
def rowD (r : List Int) : D := .tup (r.map .int)
noncomputable def msrtR (rows : List (List Int)) : List (List Int) := rows.mergeSort (PySem.W.dataLe false rowP)
theorem msrtR_perm (rows : List (List Int)) : (msrtR rows).Perm rows := List.mergeSort_perm rows _
theorem toks_ints : ∀ {a b : List Int}, PySem.W.keyToksAll (a.map PyData.int) = PySem.W.keyToksAll (b.map PyData.int) → a = b
  | [], [], _ => rfl
  | [], y :: b, h => by
    simp [PySem.W.keyToksAll] at h
  | x :: a, [], h => by
    simp [PySem.W.keyToksAll] at h
  | x :: a, y :: b, h => by
    simp only [List.map_cons, PySem.W.keyToksAll, PySem.W.keyToks, List.cons_append, List.nil_append, List.cons.injEq, true_and, Sum.inl.injEq] at h
    rw [h.1, toks_ints h.2]
theorem dle_tot : PySem.W.TotalLe (PySem.W.dataLe false rowP) := PySem.W.sortLe_total _ false _
theorem dle_anti {a b : List Int} (h1 : PySem.W.dataLe false rowP a b = true) (h2 : PySem.W.dataLe false rowP b a = true) : a = b := by
  have k1 : (!(PyProof.Rows.listOrd PyProof.Rows.itemOrd).blt (PySem.W.keyToks (rowP b)) (PySem.W.keyToks (rowP a))) = true := h1
  have k2 : (!(PyProof.Rows.listOrd PyProof.Rows.itemOrd).blt (PySem.W.keyToks (rowP a)) (PySem.W.keyToks (rowP b))) = true := h2
  rw [Bool.not_eq_true'] at k1 k2
  exact toks_ints ((PyProof.Rows.listOrd PyProof.Rows.itemOrd).total _ _ k2 k1)
theorem msrtR_congr {r1 r2 : List (List Int)} (p : r1.Perm r2) : msrtR r1 = msrtR r2 := by
  have ord : ∀ r : List (List Int), (msrtR r).Pairwise fun a b => PySem.W.dataLe false rowP a b = true := fun r => List.pairwise_mergeSort (fun a b c => dle_tot.trans a b c) (fun a b => by rw [Bool.or_eq_true]; exact dle_tot.total a b) r
  exact ((msrtR_perm r1).trans (p.trans (msrtR_perm r2).symm)).eq_of_pairwise (fun a b _ _ => dle_anti) (ord r1) (ord r2)
def rowsOf : List D → Option (List (List Int))
  | [] => some []
  | .tup es :: ds => match allInt es, rowsOf ds with
    | some r, some rs => some (r :: rs)
    | _, _ => none
  | _ :: _ => none
noncomputable def sortTD : D → Oc D
  | .lst ds => match rowsOf ds with
    | some rs => .ok (.lst ((msrtR rs).map rowD))
    | none => .st
  | .set ds => match rowsOf ds with
    | some rs => chk (decide (rs.length ≤ 1000)) (.ok (.lst ((msrtR rs).map rowD)))
    | none => .st
  | _ => .st
theorem allInt_mapI : ∀ r : List Int, allInt (r.map .int) = some r
  | [] => rfl
  | i :: r => show (allInt (r.map .int)).map (i :: ·) = _ by rw [allInt_mapI r]; rfl
theorem rowsOf_map : ∀ rows : List (List Int), rowsOf (rows.map rowD) = some rows
  | [] => rfl
  | r :: rows => by
    show (match allInt (r.map .int), rowsOf (rows.map rowD) with
      | some r, some rs => some (r :: rs)
      | _, _ => none) = _
    rw [allInt_mapI, rowsOf_map rows]
theorem sortTD_rows (rows : List (List Int)) : sortTD (.lst (rows.map rowD)) = .ok (.lst ((msrtR rows).map rowD)) := by
  show (match rowsOf (rows.map rowD) with
    | some rs => Oc.ok (D.lst ((msrtR rs).map rowD))
    | none => .st) = _
  rw [rowsOf_map]
theorem sortTD_set (rows : List (List Int)) (h : rows.length ≤ 1000) : sortTD (.set (rows.map rowD)) = .ok (.lst ((msrtR rows).map rowD)) := by
  show (match rowsOf (rows.map rowD) with
    | some rs => chk (decide (rs.length ≤ 1000)) (Oc.ok (D.lst ((msrtR rs).map rowD)))
    | none => .st) = _
  rw [rowsOf_map]
  show chk (decide (rows.length ≤ 1000)) _ = _
  rw [decide_eq_true h]; rfl
theorem rowsOf_eq : ∀ {ds : List D} {rows : List (List Int)}, rowsOf ds = some rows → ds = rows.map rowD
  | [], rows, h => by cases h; rfl
  | d :: ds, rows, h => by
    cases d with
    | tup es =>
      have h : (match allInt es, rowsOf ds with
        | some r, some rs => some (r :: rs)
        | _, _ => none) = some rows := h
      split at h
      · rename_i r rs h1 h2
        cases h
        rw [List.map_cons, ← rowsOf_eq h2]
        have : ∀ {es : List D} {r : List Int}, allInt es = some r → es = r.map .int := by
          intro es
          induction es with
          | nil => intro r q; cases q; rfl
          | cons e es ih =>
            intro r q
            cases e with
            | int i =>
              have q : (allInt es).map (i :: ·) = some r := q
              obtain ⟨r2, q2, rfl⟩ := Option.map_eq_some_iff.mp q
              rw [List.map_cons, ih q2]
            | _ => cases q
        rw [this h1]; rfl
      · cases h
    | _ => cases h
abbrev VR := List (V × List Int)
noncomputable def srt (zs : VR) : VR := zs.mergeSort (PySem.W.dataLe false fun z => rowP z.2)
theorem srt_perm (zs : VR) : (srt zs).Perm zs := List.mergeSort_perm zs _
theorem srt_rows (zs : VR) : (srt zs).map (·.2) = msrtR (zs.map (·.2)) := List.map_mergeSort (f := fun z : V × List Int => z.2) fun _ _ _ _ => rfl
abbrev Ly (vs : List Value) (zs : VR) : Prop := PySem.W.EachIs (fun v (z : V × List Int) => RelV z.1 v) vs zs
theorem ly_vals : ∀ {vs : List Value} {zs : VR}, Ly vs zs → Vals (zs.map (·.1)) vs
  | _, _, .nil => .nil
  | _, _, .cons r t => .cons r (ly_vals t)
theorem vals_ly : ∀ {zs : VR} {vs : List Value}, Vals (zs.map (·.1)) vs → Ly vs zs
  | [], _, .nil => .nil
  | _ :: _, _, .cons r t => .cons r (vals_ly t)
theorem alike_rows (a b : List Int) : PySem.W.alike (rowP a) (rowP b) = true := show PySem.W.alikeAll (a.map .int) (b.map .int) = true from PySem.W.alike_ints a b
theorem deep_row (a : List Int) : (rowP a).depth = 1 := by simp [PyData.depth, PySem.W.depth_ints]
section
variable {prog : Program} {w : World} {A : Around} {E : Value → Shared → Prop} {s : Shared} {vs : List Value} {zs : VR}
abbrev dsOf (zs : VR) : List PyData := zs.map fun z => rowP z.2
theorem al_zs : PySem.W.AllAlike (dsOf zs) := by
  intro d hd e he
  obtain ⟨x, _, rfl⟩ := List.mem_map.mp hd
  obtain ⟨y, _, rfl⟩ := List.mem_map.mp he
  exact alike_rows _ _
theorem sorts (e : PySem.W.EachIs (fun v (z : V × List Int) => ∃ as, PySem.Reads s.heap v (rowP z.2) as) vs zs) (lim : A.units + 1 < cLine) : PySem.W.SortsAt prog w A s (PySem.W.dataKind s.heap (dsOf zs)) vs := by
  refine Fs.tuples (PySem.W.each_map (R := fun v d => ∃ as, PySem.Reads s.heap v d as) (fun z : V × List Int => rowP z.2) e) al_zs (fun d hd => ?_) fun d hd => ?_
  · obtain ⟨z, _, rfl⟩ := List.mem_map.mp hd
    exact ⟨_, rfl⟩
  · obtain ⟨z, _, rfl⟩ := List.mem_map.mp hd
    rw [deep_row]; exact lim
theorem left (h : Heap) (l : Ly vs zs) (e : PySem.W.EachIs (fun v (z : V × List Int) => ∃ as, PySem.Reads h v (rowP z.2) as) vs zs) : Ly (PySem.W.sortVals (PySem.W.dataKind h (dsOf zs)) false vs vs) (srt zs) :=
  PySem.W.sortVals_data (enc := fun z : V × List Int => rowP z.2) false l e al_zs
end
section
variable {X : Cx} {W : WX} {a e : Expr} {f : En → Oc D} {pos : Pos}
theorem reads_of {pins : List (Addr × Obj)} {σ : L2.St} {H : Hp} {s : Shared} (I : Inv X pins σ H s) {h : Heap} (k : ∀ b o, s.heap.get? b = some o → h.get? b = some o) : ∀ {vs : List Value} {zs : VR}, (∀ z ∈ zs, Dp X.K H z.1 (rowP z.2)) → Ly vs zs → PySem.W.EachIs (fun v (z : V × List Int) => ∃ as, PySem.Reads h v (rowP z.2) as) vs zs
  | _, _, _, .nil => .nil
  | _, _, d, .cons r t => .cons (let ⟨as, q⟩ := Dp.reads I _ _ _ (d _ List.mem_cons_self) r; ⟨as, PyProof.Rows.Reads.keeps k q⟩) (reads_of I k (fun z hz => d z (List.mem_cons_of_mem _ hz)) t)
def rRows (K : PySem.W.Frag) : List V → Hp → VK → Prop := fun us H Q => ∃ (l : Addr) (zs : VR), us = [V.ref l] ∧ SqL K H l (zs.map (·.1)) ∧ (∀ z ∈ zs, Dp K H z.1 (rowP z.2)) ∧ ∀ p, H p = none → Q (.ref p) (L2.upd H p (.lst ((srt zs).map (·.1))))
theorem cr_rows (hu : X.A.units + 65 < cLine) : CallR X (.builtin "sorted") (rRows X.K) := by
  rintro pins s σ H us ws Q I rw' ⟨l, zs, rfl, hl, hd, q⟩
  obtain ⟨its, rv, isl, few⟩ := I.list hl
  have ly := vals_ly rv
  have few' : its.length ≤ sizeLine := by rw [← Vals.length rv]; exact few
  rw [Vals.ref1 rw']
  have rd := reads_of I (h := PySem.W.sortingHeap (PySem.W.copyHeap s.heap its) (s.heap.objs.size + 1) its) (fun b o => PySem.W.sorting_copy_old) hd ly
  refine PySem.W.sorted_vals isl.isList (sorts (s := { s with heap := PySem.W.sortingHeap (PySem.W.copyHeap s.heap its) (s.heap.objs.size + 1) its }) rd (show X.A.units + 1 + 1 + 1 < cLine by omega)) few' ?_
  obtain ⟨ep, ho⟩ := PyProof.Rows.sortedAll_at s.heap its (PySem.W.sortVals (PySem.W.dataKind (PySem.W.sortingHeap (PySem.W.copyHeap s.heap its) (s.heap.objs.size + 1) its) (dsOf zs)) false its its).toArray
  have lz : ((srt zs).map (·.1)).length ≤ sizeLine := by
    rw [List.length_map, (srt_perm zs).length_eq]
    rw [List.length_map] at few
    exact few
  refine ⟨V.ref (s.heap.objs.size + 1), _, I.laid (o := .lst ((srt zs).map (·.1))) (t' := s.toks) (fun _ _ => PyProof.Rows.sortedAll_old) (Nat.le_succ _) ⟨lz, _, ep, ly_vals (left _ ly rd), ho⟩, rfl, q _ (I.hok.fresh (Nat.le_succ _))⟩
/-! ### a set -/
theorem perm_lift {α β : Type} {f : α → β} : ∀ {l m : List β}, l.Perm m → ∀ {ps : List α}, m = ps.map f → ∃ ps' : List α, ps'.Perm ps ∧ ps'.map f = l := by
  intro l m h
  induction h with
  | nil => intro ps e; exact ⟨ps, .refl _, e.symm⟩
  | cons x _ ih =>
    intro ps e
    cases ps with
    | nil => cases e
    | cons p ps =>
      rw [List.map_cons, List.cons.injEq] at e
      obtain ⟨ps', h1, h2⟩ := ih e.2
      exact ⟨p :: ps', h1.cons p, by rw [List.map_cons, h2, e.1]⟩
  | swap x y l =>
    intro ps e
    match ps, e with
    | [], e => cases e
    | [p], e => cases e
    | p :: q :: ps, e =>
      simp only [List.map_cons, List.cons.injEq] at e
      exact ⟨q :: p :: ps, .swap p q ps, by rw [List.map_cons, List.map_cons, ← e.1, ← e.2.1, ← e.2.2]⟩
  | trans _ _ ih1 ih2 =>
    intro ps e
    obtain ⟨p1, a1, b1⟩ := ih2 e
    obtain ⟨p2, a2, b2⟩ := ih1 b1.symm
    exact ⟨p2, a2.trans a1, b2⟩
abbrev AR := List (Addr × List Int)
abbrev zsOf (ps : AR) : VR := ps.map fun p => (V.ref p.1, p.2)
theorem ly_refs : ∀ ps : AR, Ly (ps.map fun p => Value.ref p.1) (zsOf ps)
  | [] => .nil
  | _ :: ps => .cons rfl (ly_refs ps)
def rRowsS (X : Cx) : List V → Hp → VK → Prop := fun us H Q => ∃ (a : Addr) (L : Sx.Mem) (ps : AR), us = [V.ref a] ∧ H a = some (Sx.SetNO X.w a L) ∧ (∀ p ∈ L, Sx.KA X H p.1 p.2) ∧ (L.map (·.1)).Perm (ps.map (·.1)) ∧ ps.length ≤ 1000 ∧ (∀ p ∈ ps, Dp X.K H (.ref p.1) (rowP p.2)) ∧
  ∀ ps' : AR, ps'.Perm ps → ∀ l, H l = none → Q (.ref l) (L2.upd H l (.lst ((srt (zsOf ps')).map (·.1))))
theorem cr_rowsS (hc : X.calm = true) (hu : X.A.units + 65 < cLine) : CallR X (.builtin "sorted") (rRowsS X) := by
  rintro pins s σ H us ws Q I rw' ⟨a, L, ps, rfl, ha, hk, pm, few, hd, q⟩
  obtain ⟨es, ep, t, R⟩ := Sx.setNO_at I ha hk
  obtain ⟨o, ho, hex, hdat⟩ := R.at_
  rw [Vals.ref1 rw']
  have len : L.length ≤ 1000 := by
    have := pm.length_eq
    rw [List.length_map, List.length_map] at this
    omega
  have esz : es.size = L.length := Sx.ens_size R.ens
  refine Calls.call_function_entry kind_sorted plain_sorted entry_sorted (args_sorted1 _) ?_
  unfold Builtin.«sorted»
  refine wpAny_bind (m := checkCount "sorted" 1 1 _) (wpAny_pure (wpAny_bind (collect_set (A := X.A.in1) (I.ok.hd hc) ⟨o, ho, hex.1, hdat⟩ R.fits (by unfold scanBound; omega) R.tab.up R.led ?_)))
  intro s1 vs kp le g1 o1 pv
  have pv2 : vs.Perm (ps.map fun p => Value.ref p.1) := by
    have e1 : es.toList.map (·.2) = (L.map (·.1)).map Value.ref := by
      rw [R.ens]
      unfold Sx.ents
      rw [List.map_map, List.map_map]
      rfl
    rw [e1] at pv
    have := pv.trans (pm.map Value.ref)
    rw [List.map_map] at this
    exact this
  obtain ⟨ps', pp, rfl⟩ := perm_lift pv2 rfl
  have l' : ps'.length ≤ 1000 := by rw [pp.length_eq]; exact few
  have lv : (ps'.map fun p => Value.ref p.1).length ≤ sizeLine := by rw [List.length_map, sizeLine_eq]; omega
  refine wpAny_bind (wpAny_newList ?_ lv)
  generalize hs2 : ({ s1 with heap := s1.heap.push { cls := .type "list", data := .seq (ps'.map fun p => Value.ref p.1).toArray } } : Shared) = s2
  have hp2 : s2.heap = s1.heap.push { cls := .type "list", data := .seq (ps'.map fun p => Value.ref p.1).toArray } := by rw [← hs2]
  have at2 : s2.heap.get? s1.heap.objs.size = some (seqObj "list" (ps'.map fun p => Value.ref p.1).toArray 0) := by rw [hp2]; exact Heap.get?_push_size _ rfl
  have k2 : ∀ b u, s.heap.get? b = some u → s2.heap.get? b = some u := fun b u e => by rw [hp2]; exact Heap.get?_push_of_some _ (kp b u e)
  have far : ∀ b u, s.heap.get? b = some u → b ≠ s1.heap.objs.size := fun b u e => Nat.ne_of_lt (Heap.lt_size (kp b u e))
  have k3 : ∀ b u, s.heap.get? b = some u → (PySem.W.sortingHeap s2.heap s1.heap.objs.size (ps'.map fun p => Value.ref p.1)).get? b = some u := fun b u e => PySem.W.sortingHeap_old (far b u e) (k2 b u e)
  have ly := ly_refs ps'
  have rd := reads_of I k3 (zs := zsOf ps') (fun z hz => by
    obtain ⟨p, hp, rfl⟩ := List.mem_map.mp hz
    exact hd p (pp.mem_iff.mp hp)) ly
  refine wpAny_bind (wpAny_holding (wpAny_call_entry slot_list_sort ⟨_, at2, rfl⟩ entry_list_sort ?_ (args_list_sort _)))
  refine PySem.W.list_sort_vals at2 (sorts (s := { s2 with heap := PySem.W.sortingHeap s2.heap s1.heap.objs.size (ps'.map fun p => Value.ref p.1) }) rd (show X.A.units + 1 + 1 + 1 < cLine by omega)) lv ⟨_, rfl, wpAny_pure ⟨_, rfl, ?_⟩⟩
  generalize ho3 : (PySem.W.sortVals (PySem.W.dataKind (PySem.W.sortingHeap s2.heap s1.heap.objs.size (ps'.map fun p => Value.ref p.1)) (dsOf (zsOf ps'))) false (ps'.map fun p => Value.ref p.1) (ps'.map fun p => Value.ref p.1)) = out
  have lf : Ly out (srt (zsOf ps')) := by rw [← ho3]; exact left _ ly rd
  obtain ⟨c, hc3⟩ := sortedHeap_at (vs := ps'.map fun p => Value.ref p.1) (out := out.toArray) at2
  have k4 : ∀ b u, s.heap.get? b = some u → (sortedHeap s2.heap s1.heap.objs.size (ps'.map fun p => Value.ref p.1) out.toArray).get? b = some u := fun b u e => by
    rw [sortedHeap_old (far b u e) (Heap.lt_size (k2 b u e))]
    exact k2 b u e
  have lz : ((srt (zsOf ps')).map (·.1)).length ≤ sizeLine := by
    rw [List.length_map, (srt_perm _).length_eq, List.length_map, sizeLine_eq]
    omega
  have hn : H s1.heap.objs.size = none := I.hok.fresh le
  refine ⟨V.ref s1.heap.objs.size, L2.upd H s1.heap.objs.size (.lst ((srt (zsOf ps')).map (·.1))), I.call' (ch := []) ?_ (Un.laid k4 le hn) (I.hok.laid k4 le ⟨lz, _, c, ly_vals lf, hc3⟩) ?_ (fun _ z => nomatch z), rfl, q ps' pp _ hn⟩
  · show s2.os = s.os
    rw [← hs2]; exact o1
  · show AllBare s2.gens
    rw [← hs2]
    show AllBare s1.gens
    rw [g1]; exact I.bare
theorem rows_dp {K : PySem.W.Frag} {mg : Str → Option Value} {ww : World} {G H : Hp} (s : Vw G H) : ∀ {xs : List V} {rows : List (List Int)}, RepL K mg ww G xs (rows.map rowD) → (∀ z ∈ xs.zip rows, Dp K H z.1 (rowP z.2) ∧ Rep K mg ww G z.1 (rowD z.2)) ∧ (xs.zip rows).map (·.1) = xs ∧ (xs.zip rows).map (·.2) = rows
  | [], [], .nil => ⟨fun z hz => (by cases hz), rfl, rfl⟩
  | x :: xs, row :: rows, .cons r t => by
    obtain ⟨h1, h2, h3⟩ := rows_dp s t
    have told : toPD (rowD row) = some (rowP row) := by
      have ps : ∀ l : List Int, toPDs (l.map .int) = some (l.map PyData.int) := fun l => by
        induction l with
        | nil => rfl
        | cons i l ih =>
          show (match toPD (.int i), toPDs (l.map .int) with
            | some p, some q => some (p :: q)
            | _, _ => none) = _
          rw [ih]; rfl
      show (toPDs (row.map .int)).map PyData.tuple = _
      rw [ps]; rfl
    refine ⟨fun z hz => ?_, by rw [List.zip_cons_cons, List.map_cons, h2], by rw [List.zip_cons_cons, List.map_cons, h3]⟩
    rcases List.mem_cons.mp hz with rfl | hz
    · exact ⟨r.dp s told, r⟩
    · exact h1 z hz
theorem repL_zs {K : PySem.W.Frag} {mg : Str → Option Value} {ww : World} {G : Hp} : ∀ {zs : VR}, (∀ z ∈ zs, Rep K mg ww G z.1 (rowD z.2)) → RepL K mg ww G (zs.map (·.1)) ((zs.map (·.2)).map rowD)
  | [], _ => .nil
  | z :: zs, h => .cons (h z List.mem_cons_self) (repL_zs fun y hy => h y (List.mem_cons_of_mem _ hy))
section
variable {X : Cx} {W : WX} {a e : Expr} {f : En → Oc D} {pos : Pos}
def rSorted (X : Cx) : List V → Hp → VK → Prop := fun us H Q => rRows X.K us H Q ∨ rRowsS X us H Q
theorem cr_sorted (hc : X.calm = true) (hu : X.A.units + 65 < cLine) : CallR X (.builtin "sorted") (rSorted X) := by
  intro pins s σ H us ws Q I r h
  exact h.elim (cr_rows hu pins s σ H us ws Q I r) (cr_rowsS hc hu pins s σ H us ws Q I r)
theorem set_pairs {G H : Hp} {q : Addr} {L M : Sx.Mem} {rows : List (List Int)} {Q : VK} {U : XK} (sm : Vw G H) (S : SetQ X X.w G H q L M (rows.map rowD)) (lim : rows.length ≤ 1000) (p : PostF X.K X.mg X.w U G H Q (.ok (.lst ((msrtR rows).map rowD)))) : rRowsS X [V.ref q] H Q := by
  obtain ⟨r1, r2, r3⟩ := rows_dp sm S.rep
  have e1 : (M.map fun p => V.ref p.1) = (M.map (·.1)).map V.ref := by rw [List.map_map]; rfl
  have lz : (M.map (·.1)).length = rows.length := by
    have := S.rep.length
    rw [List.length_map, List.length_map] at this
    rw [List.length_map, this]
  have ez : ((M.map (·.1)).map V.ref).zip rows = zsOf ((M.map (·.1)).zip rows) := by
    show _ = List.map _ _
    rw [List.zip_map_left]
    exact List.map_congr_left fun z _ => rfl
  rw [e1, ez] at r1 r3
  have f1 : ((M.map (·.1)).zip rows).map (·.1) = M.map (·.1) := List.map_fst_zip (by omega)
  refine ⟨q, L, (M.map (·.1)).zip rows, rfl, S.at_, S.ka sm, by rw [f1]; exact S.pm.map _, by rw [List.length_zip]; omega, fun z hz => (r1 (V.ref z.1, z.2) (List.mem_map.mpr ⟨z, hz, rfl⟩)).1, fun ps' pp l hl => ?_⟩
  have per : (zsOf ps').Perm (zsOf ((M.map (·.1)).zip rows)) := pp.map _
  have rep := repL_zs (zs := srt (zsOf ps')) (ww := X.w) (mg := X.mg) (G := G) (K := X.K) fun z hz => (r1 z (per.mem_iff.mp ((srt_perm _).mem_iff.mp hz))).2
  rw [srt_rows, msrtR_congr (per.map (·.2)), r3] at rep
  exact p.newL sm rep l hl
theorem list_pairs {G H : Hp} {q : Addr} {xs : List V} {rows : List (List Int)} {Q : VK} {U : XK} (sm : Vw G H) (hq : SqL X.K H q xs) (r : RepL X.K X.mg X.w G xs (rows.map rowD)) (p : PostF X.K X.mg X.w U G H Q (.ok (.lst ((msrtR rows).map rowD)))) : rRows X.K [V.ref q] H Q := by
  obtain ⟨r1, r2, r3⟩ := rows_dp sm r
  refine ⟨q, xs.zip rows, rfl, by rw [r2]; exact hq, fun z hz => (r1 z hz).1, fun l hl => ?_⟩
  have rep := repL_zs (zs := srt (xs.zip rows)) (ww := X.w) (mg := X.mg) (G := G) (K := X.K) fun z hz => (r1 z ((srt_perm _).mem_iff.mp hz)).2
  rw [srt_rows, r3] at rep
  exact p.newL sm rep l hl
theorem sf_sortedTD {p : Pos} (C : Ctx X W) (hg : Gl X "sorted") (hm : X.mg "sorted" = none) (ha : SQ X W a f) (he : starEach [a] X.env = (false, eval a X.env) :: starEach [] X.env := by rfl) : SF X W (.Call (.Name "sorted" p) [a] [] pos) (un sortTD f) :=
  sf_un (fun ha => pe_B1 (cr_sorted C.calm C.units) hg hm (by decide +kernel) ha (by decide) (by decide) he) (fun {G H x d1 Q U} s r p => by
    unfold sortTD at p
    split at p
    · rename_i ds
      split at p
      · rename_i rows hb
        obtain rfl := rowsOf_eq hb
        obtain ⟨q, xs, rfl, hq, rr⟩ := r.lst s
        exact Or.inl (list_pairs s (SqL.of hq) rr p)
      · exact p.elim
    · rename_i ds
      split at p
      · rename_i rows hb
        obtain rfl := rowsOf_eq hb
        obtain ⟨c, p⟩ := p.chk
        obtain ⟨q, L, M, rfl, S⟩ := RepQ.set s r
        exact Or.inr (set_pairs s S (of_decide_eq_true c) p)
      · exact p.elim
    · exact p.elim) ha
end
end
end Fx

set_option Elab.async false
set_option linter.all false
set_option maxRecDepth 100000
set_option maxHeartbeats 4000000
/-! Fx34: the signs of a text. -/
namespace Fx
open PySem PySem.Spec PyProof.Rows L2
def itmS (f : En → Oc D) : En → Oc (List D) := fun ρ => bd (f ρ) fun d => match d with
  | .str x => .ok (x.cps.toList.map fun c => .str ⟨#[c]⟩)
  | _ => .st
@[simp] theorem itmS_ap (f : En → Oc D) (ρ : En) : itmS f ρ = bd (f ρ) fun d => match d with
  | .str x => .ok (x.cps.toList.map fun c => .str ⟨#[c]⟩)
  | _ => .st := id rfl
theorem yld_str {K : PySem.W.Frag} {mg : Str → Option Value} {ww : World} {G : Hp} (x : Str) : Yld K mg ww (Its x) G (x.cps.toList.map fun c => .str ⟨#[c]⟩) where
  go := fun i G H hi _ _ => by
    show i < x.cps.size
    simpa using hi
  stop := fun G H _ _ => by
    show x.cps.size ≤ _
    simp
  yld := fun i d v G' H H' hd s1 s2 hy => by
    obtain ⟨rfl, c, hc, rfl⟩ := hy
    have e : (x.cps.toList.map fun c => D.str ⟨#[c]⟩)[i]? = some (.str ⟨#[c]⟩) := by
      rw [List.getElem?_map, Array.getElem?_toList, hc]; rfl
    rw [e] at hd
    cases hd
    exact ⟨G', .refl s2, .str _⟩
theorem si_str {X : Cx} {W : WX} {tg it : Expr} {f : En → Oc D} (ha : SE X W it f) : SI X W tg it (itmS f) := PI.weak (pi_str ha) fun σ H Q ⟨G, ρ, R, p⟩ => by
  refine ⟨G, ρ, R, ?_⟩
  revert p
  unfold itmS
  cases f ρ with
  | st => exact id
  | ex c => exact id
  | ok d =>
    intro p v G1 H1 x1 r
    simp only [bd_ok] at p
    cases d with
    | str x =>
      cases r
      exact ⟨x, rfl, p _ G1 H1 x1 (yld_str x)⟩
    | _ => exact p.elim
end Fx

set_option Elab.async false
set_option linter.all false
set_option maxRecDepth 100000
set_option maxHeartbeats 4000000
/-! Fx35: chains as tests. -/
namespace Fx
open PySem PySem.Spec PyProof.Rows L2
section
variable {X : Cx} {W : WX} {a b c e : Expr} {f g h : En → Oc D} {pos : Pos}
theorem chain_in {q q' : Int → Int → Bool} {σ : L2.St} {H : Hp} {Q : VK} (p : tE X.K X.mg X.w W (chnQ q q' f g h) σ H Q) : tChain (rI0 fun i j => .bl (q i j)) (rI0 fun i j => .bl (q' i j)) (tQ X.K X.mg X.w W f) (tQ X.K X.mg X.w W g) (tQ X.K X.mg X.w W h) σ H Q := by
  obtain ⟨G, ρ, R, p⟩ := p
  refine ⟨G, ρ, R, ?_⟩
  revert p
  unfold chnQ
  cases f ρ with
  | st => exact id
  | ex c => exact id
  | ok d1 =>
    intro p x G1 H1 x1 r1
    refine ⟨G1, ρ, R.ext x1, ?_⟩
    revert p
    simp only [bd_ok]
    cases g ρ with
    | st => exact id
    | ex c => exact fun p C G' H' e m => p C G' H' (x1.trans e) m
    | ok d2 =>
      intro p y G2 H2 x2 r2
      simp only [bd_ok] at p
      cases hz : cmpD q d1 d2 with
      | st => rw [hz] at p; exact p.elim
      | ex c => exact (cmpD_ex hz).elim
      | ok z =>
        rw [hz] at p
        obtain ⟨i, j, rfl, rfl, rfl⟩ := cmpD_ok hz
        refine ⟨i, j, RepQ.int (RepQ.ext x2 r1), RepQ.int (K := X.K) (mg := X.mg) r2, _, rfl, ?_⟩
        simp only [bd_ok] at p
        cases hd : q i j with
        | false =>
          rw [hd] at p
          simp only [Bool.false_eq_true, if_false]
          exact p _ G2 H2 (x1.trans x2) (.bl _)
        | true =>
          rw [hd] at p
          simp only [if_true]
          refine ⟨G2, ρ, (R.ext x1).ext x2, ?_⟩
          revert p
          simp only
          cases h ρ with
          | st => exact id
          | ex c => exact fun p C G' H' e m => p C G' H' ((x1.trans x2).trans e) m
          | ok d3 =>
            intro p w' G3 H3 x3 r3
            simp only [bd_ok] at p
            cases hw : cmpD q' (.int j) d3 with
            | st => rw [hw] at p; exact p.elim
            | ex c => exact (cmpD_ex hw).elim
            | ok z2 =>
              rw [hw] at p
              obtain ⟨j2, k, e1, rfl, rfl⟩ := cmpD_ok hw
              cases e1
              exact ⟨j, k, RepQ.int (RepQ.ext x3 r2), RepQ.int (K := X.K) (mg := X.mg) r3, p _ G3 H3 ((x1.trans x2).trans x3) (.bl _)⟩

theorem st_chainQ {op op' : CmpOp} {q q' : Int → Int → Bool} (ho : OpR X (compareOp op) (rI0 fun i j => .bl (q i j))) (ho' : OpR X (compareOp op') (rI0 fun i j => .bl (q' i j))) (ha : SQ X W a f) (hb : SQ X W b g) (hc : SQ X W c h) (hm : lastMarks [op, op'] [b, c] = false := by with_unfolding_all rfl) : STT X W (.Compare a [op, op'] [b, c] pos) (tst (chnQ q q' f g h)) :=
  PT.weak (pt_chain ho ho' ha hb hc hm) fun σ H Q ⟨G, ρ, R, p⟩ => by
  refine chain_in ⟨G, ρ, R, ?_⟩
  revert p
  unfold tst
  cases chnQ q q' f g h ρ with
  | st => exact id
  | ex c => exact id
  | ok d =>
    simp only [bd_ok]
    cases d with
    | bl b =>
      intro p v G1 H1 x1 r
      cases r
      exact ⟨b, rfl, p G1 H1 x1⟩
    | _ => exact fun p => p.elim
end
end Fx

set_option Elab.async false
set_option linter.all false
set_option maxRecDepth 100000
set_option maxHeartbeats 4000000
/-! Fx36: enumerate; try: return e; except C as n. -/
namespace Fx
open PySem PySem.Spec PyProof.Rows L2 Sx
variable {K : PySem.W.Frag} {mg : Str → Option Value} {ww : World} {me : Addr}
def enuL : Nat → List D → List D
  | k, x :: xs => .tup [.int (k : Nat), x] :: enuL (k + 1) xs
  | _, [] => []
theorem enuL_len : ∀ {k : Nat} {xs : List D}, (enuL k xs).length = xs.length
  | k, [] => rfl
  | k, _ :: xs => by
    unfold enuL
    rw [List.length_cons, List.length_cons, enuL_len]
theorem enuL_get : ∀ {k : Nat} {xs : List D} {i : Nat} {d : D}, (enuL k xs)[i]? = some d → ∃ x, xs[i]? = some x ∧ d = .tup [.int ((k + i : Nat) : Nat), x]
  | k, [], i, d, h => by simp [enuL] at h
  | k, x :: xs, 0, d, h => by simp [enuL] at h; exact ⟨x, rfl, h.symm⟩
  | k, x :: xs, i + 1, d, h => by
    obtain ⟨a, h1, h2⟩ := enuL_get (k := k + 1) (xs := xs) (i := i) (d := d) (by simpa [enuL] using h)
    refine ⟨a, by simpa using h1, ?_⟩
    rw [h2, show k + 1 + i = k + (i + 1) by omega]
theorem yld_enum {G' : Hp} {a : Addr} {k : Bool} {xs : List V} {ds : List D} (h1 : SqB K k G' a xs) (r1 : RepL K mg ww G' xs ds) : Yld K mg ww (IteB K k a) G' (enuL 0 ds) := by
  have l1 := r1.length
  refine ⟨fun i G H hi s1 s2 => ?_, fun G H s1 s2 => ?_, fun i d x G H H' hd s1 s2 y => ?_⟩
  · rw [enuL_len] at hi
    have i1 : i < xs.length := by omega
    exact ⟨xs, xs[i], sqB_vw s2 (sqB_same s1 h1), by simp [i1]⟩
  · exact ⟨xs, sqB_vw s2 (sqB_same s1 h1), by rw [enuL_len]; omega⟩
  · obtain ⟨T, x', rfl, hT, rfl, g1⟩ := y
    obtain ⟨d1, e1, rfl⟩ := enuL_get hd
    obtain ⟨u1, f1, q1⟩ := r1.get e1
    have z1 := g1 xs (sqB_vw s2 (sqB_same s1 h1))
    rw [f1] at z1
    have x := Ext.new (o := .tup [.int (i : Nat), x']) s2 hT
    obtain rfl := Option.some.inj z1
    have ri : Rep K mg ww (L2.upd G T (.tup [.int (i : Nat), u1])) (.int ((i : Nat) : Int)) (.int ((0 + i : Nat) : Nat)) := by rw [Nat.zero_add]; exact .int _
    exact ⟨_, x, .tup (.inl (.inl upd_same)) (.cons ri (.cons ((q1.same s1).same x.gg) .nil))⟩
def enuI (fs : En → Oc (List D)) : En → Oc (List D) := fun ρ => bd (fs ρ) fun ds => match ds with
  | [a] => match items a with
    | some xs => .ok (enuL 0 xs)
    | _ => .st
  | _ => .st
section
variable {X : Cx} {W : WX} {U : XK} {fre : Fr} {a b c e : Expr} {es : List Expr} {f g h : En → Oc D} {fs : En → Oc (List D)} {pos p tpos : Pos}
theorem si_enum {elts : List Expr} {kk : Nat} (hg : Gl X "enumerate") (hm : X.mg "enumerate" = none) (ha : SA X W [a] fs)
    (hs : starEach [a] X.env = (false, eval a X.env) :: starEach [] X.env := by rfl) : SI X W (.Tuple elts kk tpos) (.Call (.Name "enumerate" p) [a] [] pos) (enuI fs) := PI.weak (pi_enumB hg hm ha hs) fun σ H Q ⟨G, ρ, R, q⟩ => by
  refine ⟨G, ρ, R, ?_⟩
  revert q
  unfold enuI
  cases fs ρ with
  | st => exact id
  | ex c => exact id
  | ok ds =>
    intro q vs G1 H1 x1 r
    simp only [bd_ok] at q
    split at q
    · rename_i d1
      split at q
      · rename_i xs h1
        cases r with
        | cons ra r =>
          cases r
          obtain ⟨a', k1, us, rfl, s1, l1⟩ := ra.sqB h1
          exact ⟨a', us, k1, rfl, sqB_vw x1.gh s1, q _ G1 H1 x1 (yld_enum s1 l1)⟩
      · exact q.elim
    · exact q.elim
end
theorem enuI_ok {fs : En → Oc (List D)} {ρ : En} {d : D} {xs : List D} (h : fs ρ = .ok [d]) (hi : items d = some xs) : enuI fs ρ = .ok (enuL 0 xs) := by
  unfold enuI
  rw [h, bd_ok]
  simp only
  rw [hi]
open Classical in
noncomputable def tryR (j : Nat) (cs ns : List Str) (f : En → Oc D) (gs : Addr → En → Oc Res) : En → Oc Res := fun ρ => match f ρ with
  | .st => .st
  | .ok d => .ok (.rt d)
  | .ex c => if c ∈ cs then (if h : ∃ d, ∀ a, gs a (ρ.set j (.exn a)) = .ok (.rt d) then .ok (.rt h.choose) else .st) else if c ∈ ns then .ex c else .st
section
variable {X : Cx} {U : XK} {e : Expr} {suite : List Stmt} {b₀ : Stmt} {f : En → Oc D} {gs : Addr → En → Oc Res} {pos pos2 np pos' : Pos} {nm n : Str} {cs ns : List Str} {C : Addr} {j : Nat}
theorem ss_tryR (Cx : Ctx X (up U)) (hs : X.stack = X.env :: X.outer) (hf : X.env.frame = some X.env.locals) (hC : X.mg nm = some (.ref C)) (hg : Gl X nm) (hdb : (nm == ("__debug__" : Str)) = false)
    (hj : X.N[j]? = some n) (hln : X.env.kindOf n = some .local)
    (h1 : ∀ c ∈ cs, ExmK X.K X.mg nm c true) (h2 : ∀ c ∈ ns, ExmK X.K X.mg nm c false)
    (hb : ∀ (W : WX) (pn : List (Addr × Obj)) (xe : Value → Shared → Prop), Ctx (X.tr pn xe) W → SE (X.tr pn xe) W e f)
    (hsu : ∀ (a : Addr) (oe : Obj) (c : Str) (C1 : Addr) (pn : List (Addr × Obj)), c ∈ cs → X.mg c = some (.ref C1) → Zc (.ref C1) none oe → (∃ vs, oe.data = .fields vs) → SSs (X.suite a ((a, oe) :: pn)) (fun _ _ _ => False) .s (b₀ :: suite) (gs a)) :
    SS X U .s (.Try [.Return (some e) pos2] [.ExceptHandler (some (.Name nm np)) (some n) (b₀ :: suite) pos'] [] [] pos) (tryR j cs ns f gs) :=
  PS.weak (ps_try_as (tb := fun W => tRet (tE X.K X.mg X.w W f)) (ts := fun a cls d D σ H => (∃ c C1, c ∈ cs ∧ X.mg c = some (.ref C1) ∧ cls = .ref C1 ∧ d = none) ∧ tS X.K X.mg X.w (fun _ _ _ => False) .s (gs a) D σ H) hs hf Cx.nd hj hln ⟨hg, hdb, .inl hC⟩ Cx.tk
    (fun W pn xe tk _ => pss_one (ps_ret (hb W pn xe ⟨Cx.calm, Cx.nd, tk, Cx.units⟩))) (fun a oe cls d pn hz hv => ⟨fun pins s σ H D I h => by
      obtain ⟨⟨c, C1, h1, h2, h3, h4⟩, h5⟩ := h
      subst h3 h4
      exact (hsu a oe c C1 pn h1 h2 hz hv).run pins s σ H D I h5⟩)) fun D σ H ⟨G, ρ, me, G0, H0, B, p⟩ => by
  refine ⟨G, ρ, B.rel, ?_⟩
  revert p
  unfold tryR
  cases f ρ with
  | st => exact id
  | ok d => exact fun p v G' H' x r => p v G' H' (B.ext.trans x) r
  | ex c =>
    simp only
    intro p C1 G' H' x m
    split at p
    · rename_i hc
      split at p
      · rename_i hd
        refine ⟨true, h1 c hc _ _ m hC, fun _ a ha => ⟨⟨c, C1, hc, m, rfl, rfl⟩, G', _, me, G0, H0, (B.step x).setE j a, ?_⟩, fun z => by cases z⟩
        rw [hd.choose_spec a]
        exact p
      · exact p.elim
    · split at p
      · rename_i hn
        exact ⟨false, h2 c hn _ _ m hC, (fun z => by cases z), fun _ => p C1 G' H' (B.ext.trans x) m⟩
      · exact p.elim
end
theorem tryR_ok {j : Nat} {cs ns : List Str} {f : En → Oc D} {gs : Addr → En → Oc Res} {ρ : En} {d : D} (h : f ρ = .ok d) : tryR j cs ns f gs ρ = .ok (.rt d) := by
  unfold tryR; rw [h]
theorem tryR_ex {j : Nat} {cs ns : List Str} {f : En → Oc D} {gs : Addr → En → Oc Res} {ρ : En} {c : Str} {d : D} (h : f ρ = .ex c) (hc : c ∈ cs) (hg : ∀ a, gs a (ρ.set j (.exn a)) = .ok (.rt d)) : tryR j cs ns f gs ρ = .ok (.rt d) := by
  unfold tryR; rw [h]; simp only; rw [if_pos hc]
  have he : ∃ d, ∀ a, gs a (ρ.set j (.exn a)) = .ok (.rt d) := ⟨d, hg⟩
  rw [dif_pos he]
  have e := he.choose_spec 0
  rw [hg 0] at e
  cases e
  rfl
end Fx

set_option Elab.async false
set_option linter.all false
set_option maxRecDepth 100000
set_option maxHeartbeats 4000000
/-! Fx37: methods of instances; an own instance lent to a def. -/
namespace Fx
open PySem PySem.Spec PyProof.Rows L2 Sx
variable {K : PySem.W.Frag} {mg : Str → Option Value} {ww : World} {me : Addr}
theorem RepF.lookN {G : Hp} {m : Str} : ∀ {fs : List (Str × V)} {ds : List (Str × D)}, RepF K mg ww G fs ds → ds.lookup m = none → fs.lookup m = none
  | _, _, .nil, _ => rfl
  | _, _, .cons (n := n) r t, h => by
    rw [List.lookup_cons] at h ⊢
    split at h
    · cases h
    · exact t.lookN h
structure KnJ (P : Program) (w : World) (K : PySem.W.Frag) (mg : Str → Option Value) (base : Heap) (k : Nat) (c m : Str) (n : Nat) (F : List D → Oc D) : Prop where
  ex : ∃ (C f : Addr) (fd : FuncData) (ps : List Str), Cls K C ∧ Meth K C m f ∧ FnOk P w K mg base (L2.CX P w) k f fd ps (spF K mg w (n + 1) F) ∧ mg c = some (.ref C) ∧ Binds K fd ps []
structure KnJF (P : Program) (w : World) (K : PySem.W.Frag) (mg : Str → Option Value) (base : Heap) (k : Nat) (c m : Str) (n : Nat) (F : List D → Oc D) : Prop where
  ex : ∃ (C f : Addr) (fd : FuncData) (ps : List Str), Cls K C ∧ Meth K C m f ∧ FnOk P w K mg base (L2.CX P w) k f fd ps (spFF K mg w (n + 1) F) ∧ mg c = some (.ref C) ∧ Binds K fd ps []
abbrev XKnJ (X : Cx) := KnJ X.prog X.w X.K X.mg X.base
abbrev XKnJF (X : Cx) := KnJF X.prog X.w X.K X.mg X.base
theorem KnJF.kn {P : Program} {w : World} {base : Heap} {k n : Nat} {c m : Str} {F : List D → Oc D} (h : KnJF P w K mg base k c m n F) : KnJ P w K mg base k c m n F := by
  obtain ⟨C, f, fd, ps, cl, mt, ok, r⟩ := h.ex
  exact ⟨C, f, fd, ps, cl, mt, ok.imp fun vs H Q E ⟨hl, G, es, s, t, r, p⟩ => ⟨hl, G, es, s, t, r, postF_of p⟩, r⟩
def isOb (c m : Str) (d : D) : Bool := match d with
  | .obj c' fs => decide (c' = c) && (fs.lookup m).isNone
  | _ => false
theorem isOb_ok {c m : Str} {d : D} (h : isOb c m d = true) : ∃ fs, d = .obj c fs ∧ fs.lookup m = none := by
  unfold isOb at h
  split at h
  · rename_i c' fs
    rw [Bool.and_eq_true, decide_eq_true_iff] at h
    obtain ⟨rfl, h2⟩ := h
    exact ⟨fs, rfl, by simpa using h2⟩
  · cases h
def mth (c m : Str) (F : List D → Oc D) (n : Nat) (f : En → Oc D) (fs : En → Oc (List D)) : En → Oc D := fun ρ => bd (f ρ) fun d => chk (isOb c m d) (bd (fs ρ) fun ds => chk (decide (ds.length = n)) (F (d :: ds)))
section
variable {X : Cx} {W : WX} {k : Nat} {f C : Addr} {fd : FuncData} {ps : List Str} {sp : Sp} {m : Str} {p pos apos : Pos} {o e : Expr} {es : List Expr} {t : TA} {ta : TE}
theorem pe_methW {pl : Sem Bool} (he : PE X o ta) (c : Cls X.K C) (hm : Meth X.K C m f) (ok : FnOk X.prog X.w X.K X.mg X.base (L2.CX X.prog X.w) k f fd ps sp) (room : Room k X.A) (bi : Binds X.K fd ps []) (tk : Takes X W) (ha : PA X (e :: es) t)
    (hst : starEach (e :: es) X.env = (false, eval e X.env) :: starEach es X.env := by rfl) (hpl : (backTo pos (starEach es X.env)).any (·.1) = false := by rfl)
    (ht : eval (.Call (.Attribute o m apos) (e :: es) [] pos) X.env = (do
      let ov ← eval o X.env
      standAt apos.atName
      let (g, first) ← holding [ov] (getMethod ov m pl)
      callWith pos g first (backTo pos (starEach (e :: es) X.env)) (backToKw pos (keywordEach [] X.env))) := by rfl) :
    PE X (.Call (.Attribute o m apos) (e :: es) [] pos) (fun σ H Q => ta σ H fun x H1 => ∃ a dx fs, x = .ref a ∧ H1 a = some (.ins C dx fs) ∧ fs.lookup m = none ∧ t σ H1 fun vs H2 => sp (x :: vs) H2 Q fun c d H' => W c d σ H') := by
  refine ⟨fun pins s σ H Q I h => ?_⟩
  refine PySem.W.methodCall_KW (pl := pl) (thn (he.run pins s σ H _ I h) fun u s1 ⟨x, H1, I1, rx, a, dx, fs, ex, ea, l, q⟩ => ?_) ht
  subst ex
  obtain rfl : u = Value.ref a := rx
  refine getmeth_ok I1 ea c hm l ?_
  exact PySem.W.callWith_K (first := [.ref a]) (h₀ := X.base) I.ok.mod.kin hm.kp (thn (ha.run pos pins s1 σ H1 _ I1 q) fun us s2 ⟨vs, H2, I2, r, q2⟩ => ⟨I2.kIn, runW (us := .ref a :: us) (vs := .ref a :: vs) (dvs := []) ok room bi .nil tk I2 (.cons rfl r) (by rw [List.append_nil]; exact q2)⟩) hst hpl
theorem pe_meth0W {pl : Sem Bool} (he : PE X o ta) (c : Cls X.K C) (hm : Meth X.K C m f) (ok : FnOk X.prog X.w X.K X.mg X.base (L2.CX X.prog X.w) k f fd ps sp) (room : Room k X.A) (bi : Binds X.K fd ps []) (tk : Takes X W)
    (ht : eval (.Call (.Attribute o m apos) [] [] pos) X.env = (do
      let ov ← eval o X.env
      standAt apos.atName
      let (g, first) ← holding [ov] (getMethod ov m pl)
      callWith pos g first (backTo pos (starEach [] X.env)) (backToKw pos (keywordEach [] X.env))) := by rfl) :
    PE X (.Call (.Attribute o m apos) [] [] pos) (fun σ H Q => ta σ H fun x H1 => ∃ a dx fs, x = .ref a ∧ H1 a = some (.ins C dx fs) ∧ fs.lookup m = none ∧ sp [x] H1 Q fun c d H' => W c d σ H') := by
  refine ⟨fun pins s σ H Q I h => ?_⟩
  refine PySem.W.methodCall_KW (pl := pl) (thn (he.run pins s σ H _ I h) fun u s1 ⟨x, H1, I1, rx, a, dx, fs, ex, ea, l, q⟩ => ?_) ht
  subst ex
  obtain rfl : u = Value.ref a := rx
  refine getmeth_ok I1 ea c hm l ?_
  exact PySem.W.callWith_K0 (first := [.ref a]) I1.kIn hm.kp (runW (us := [.ref a]) (vs := [.ref a]) (dvs := []) ok room bi .nil tk I1 (.cons rfl .nil) q)
end
section
variable {X : Cx} {W : WX} {U : XK} {fre : Fr} {a b c e o : Expr} {es : List Expr} {f g h : En → Oc D} {fs : En → Oc (List D)} {pos apos p : Pos} {k n : Nat} {cn m : Str} {F : List D → Oc D}
theorem se_mth {pl : Sem Bool} (kn : XKnJ X k cn m n F) (C : Ctx X W) (hr : Room k X.A) (ho : SE X W o f) (ha : SA X W (e :: es) fs)
    (hst : starEach (e :: es) X.env = (false, eval e X.env) :: starEach es X.env := by rfl) (hpl : (backTo pos (starEach es X.env)).any (·.1) = false := by rfl)
    (ht : eval (.Call (.Attribute o m apos) (e :: es) [] pos) X.env = (do
      let ov ← eval o X.env
      standAt apos.atName
      let (g, first) ← holding [ov] (getMethod ov m pl)
      callWith pos g first (backTo pos (starEach (e :: es) X.env)) (backToKw pos (keywordEach [] X.env))) := by rfl) : SE X W (.Call (.Attribute o m apos) (e :: es) [] pos) (mth cn m F n f fs) := by
  obtain ⟨Cl, fa, fd, ps, cl, mt, ok, gm, bi⟩ := kn.ex
  refine PE.weak (pe_methW ho cl mt ok hr bi C.tk ha hst hpl ht) fun σ H Q ⟨G, ρ, R, p⟩ => ?_
  refine ⟨G, ρ, R, ?_⟩
  revert p
  unfold mth
  cases f ρ with
  | st => exact id
  | ex c => exact id
  | ok d =>
    intro p v G1 H1 x1 r1
    have p := PostE.imp x1 p fun _ _ q => q
    simp only [bd_ok] at p
    obtain ⟨c1, p⟩ := p.chk
    obtain ⟨ds0, rfl, hl⟩ := isOb_ok c1
    cases r1 with
    | obj mc ga rf =>
      rw [gm] at mc
      cases mc
      refine ⟨_, _, _, rfl, x1.gh _ _ ga, rf.lookN hl, G1, ρ, R.ext x1, ?_⟩
      revert p
      cases fs ρ with
      | st => exact id
      | ex c => exact id
      | ok ds =>
        intro p vs G2 H2 x2 r2
        have p := PostE.imp x2 p fun _ _ q => q
        simp only [bd_ok] at p
        obtain ⟨c2, p⟩ := p.chk
        have hd := of_decide_eq_true c2
        exact ⟨by rw [List.length_cons, r2.length, hd], G2, _, x2.gh, (R.ext (x1.trans x2)).tabs, .cons ((Rep.obj gm ga rf).same x2.gg) r2, p⟩
theorem se_mth0 {pl : Sem Bool} (kn : XKnJ X k cn m 0 F) (C : Ctx X W) (hr : Room k X.A) (ho : SE X W o f)
    (ht : eval (.Call (.Attribute o m apos) [] [] pos) X.env = (do
      let ov ← eval o X.env
      standAt apos.atName
      let (g, first) ← holding [ov] (getMethod ov m pl)
      callWith pos g first (backTo pos (starEach [] X.env)) (backToKw pos (keywordEach [] X.env))) := by rfl) : SE X W (.Call (.Attribute o m apos) [] [] pos) (mth cn m F 0 f aN) := by
  obtain ⟨Cl, fa, fd, ps, cl, mt, ok, gm, bi⟩ := kn.ex
  refine PE.weak (pe_meth0W ho cl mt ok hr bi C.tk ht) fun σ H Q ⟨G, ρ, R, p⟩ => ?_
  refine ⟨G, ρ, R, ?_⟩
  revert p
  unfold mth aN
  cases f ρ with
  | st => exact id
  | ex c => exact id
  | ok d =>
    intro p v G1 H1 x1 r1
    have p := PostE.imp x1 p fun _ _ q => q
    simp only [bd_ok] at p
    obtain ⟨c1, p⟩ := p.chk
    obtain ⟨ds0, rfl, hl⟩ := isOb_ok c1
    cases r1 with
    | obj mc ga rf =>
      rw [gm] at mc
      cases mc
      exact ⟨_, _, _, rfl, x1.gh _ _ ga, rf.lookN hl, rfl, G1, _, x1.gh, (R.ext x1).tabs, .cons (.obj gm ga rf) .nil, p⟩
theorem sf_mth {pl : Sem Bool} (kn : XKnJF X k cn m n F) (C : Ctx X W) (hr : Room k X.A) (ho : SE X W o f) (ha : SA X W (e :: es) fs)
    (hst : starEach (e :: es) X.env = (false, eval e X.env) :: starEach es X.env := by rfl) (hpl : (backTo pos (starEach es X.env)).any (·.1) = false := by rfl)
    (ht : eval (.Call (.Attribute o m apos) (e :: es) [] pos) X.env = (do
      let ov ← eval o X.env
      standAt apos.atName
      let (g, first) ← holding [ov] (getMethod ov m pl)
      callWith pos g first (backTo pos (starEach (e :: es) X.env)) (backToKw pos (keywordEach [] X.env))) := by rfl) : SF X W (.Call (.Attribute o m apos) (e :: es) [] pos) (mth cn m F n f fs) := by
  obtain ⟨Cl, fa, fd, ps, cl, mt, ok, gm, bi⟩ := kn.ex
  refine PE.weak (pe_methW ho cl mt ok hr bi C.tk ha hst hpl ht) fun σ H Q ⟨G, ρ, R, p⟩ => ?_
  refine ⟨G, ρ, R, ?_⟩
  revert p
  unfold mth
  cases f ρ with
  | st => exact id
  | ex c => exact id
  | ok d =>
    intro p v G1 H1 x1 r1
    have p := PostF.imp x1 p fun _ _ q => q
    simp only [bd_ok] at p
    obtain ⟨c1, p⟩ := p.chk
    obtain ⟨ds0, rfl, hl⟩ := isOb_ok c1
    cases r1 with
    | obj mc ga rf =>
      rw [gm] at mc
      cases mc
      refine ⟨_, _, _, rfl, x1.gh _ _ ga, rf.lookN hl, G1, ρ, R.ext x1, ?_⟩
      revert p
      cases fs ρ with
      | st => exact id
      | ex c => exact id
      | ok ds =>
        intro p vs G2 H2 x2 r2
        have p := PostF.imp x2 p fun _ _ q => q
        simp only [bd_ok] at p
        obtain ⟨c2, p⟩ := p.chk
        have hd := of_decide_eq_true c2
        exact ⟨by rw [List.length_cons, r2.length, hd], G2, _, x2.gh, (R.ext (x1.trans x2)).tabs, .cons ((Rep.obj gm ga rf).same x2.gg) r2, p⟩
theorem sf_mth0 {pl : Sem Bool} (kn : XKnJF X k cn m 0 F) (C : Ctx X W) (hr : Room k X.A) (ho : SE X W o f)
    (ht : eval (.Call (.Attribute o m apos) [] [] pos) X.env = (do
      let ov ← eval o X.env
      standAt apos.atName
      let (g, first) ← holding [ov] (getMethod ov m pl)
      callWith pos g first (backTo pos (starEach [] X.env)) (backToKw pos (keywordEach [] X.env))) := by rfl) : SF X W (.Call (.Attribute o m apos) [] [] pos) (mth cn m F 0 f aN) := by
  obtain ⟨Cl, fa, fd, ps, cl, mt, ok, gm, bi⟩ := kn.ex
  refine PE.weak (pe_meth0W ho cl mt ok hr bi C.tk ht) fun σ H Q ⟨G, ρ, R, p⟩ => ?_
  refine ⟨G, ρ, R, ?_⟩
  revert p
  unfold mth aN
  cases f ρ with
  | st => exact id
  | ex c => exact id
  | ok d =>
    intro p v G1 H1 x1 r1
    have p := PostF.imp x1 p fun _ _ q => q
    simp only [bd_ok] at p
    obtain ⟨c1, p⟩ := p.chk
    obtain ⟨ds0, rfl, hl⟩ := isOb_ok c1
    cases r1 with
    | obj mc ga rf =>
      rw [gm] at mc
      cases mc
      exact ⟨_, _, _, rfl, x1.gh _ _ ga, rf.lookN hl, rfl, G1, _, x1.gh, (R.ext x1).tabs, .cons (.obj gm ga rf) .nil, p⟩
/-! ### lent -/
def isFlat : D → Bool
  | .non => true
  | .bl _ => true
  | .int _ => true
  | .str _ => true
  | _ => false
theorem Rep.flat {G G' : Hp} {v : V} {d : D} (r : Rep K mg ww G v d) (h : isFlat d = true) : Rep K mg ww G' v d := by
  cases r with
  | non => exact .non
  | bl b => exact .bl b
  | int i => exact .int i
  | str x => exact .str x
  | _ => cases h
theorem RepL.flat {G G' : Hp} : ∀ {vs : List V} {ds : List D}, RepL K mg ww G vs ds → ds.all isFlat = true → RepL K mg ww G' vs ds
  | _, _, .nil, _ => .nil
  | _, _, .cons r t, h => by
    rw [List.all_cons, Bool.and_eq_true] at h
    exact .cons (r.flat h.1) (t.flat h.2)
def lnt (i : Nat) (F : List D → Oc D) : En → Oc D := fun ρ => match ρ[i]? with
  | some (.ow d) => bd (F [d]) fun r => match r with
    | .lst ds => chk (ds.all isFlat) (.ok (.lst ds))
    | _ => .st
  | _ => .st
theorem se_lnt {nm x : Str} {i : Nat} {p1 : Pos} (kn : XKnF X k nm 1 [] F) (C : Ctx X W) (hr : Room k X.A) (hg : Gl X nm) (hv : PE X (.Name x p1) (tVar i)) (hdb : (nm == ("__debug__" : Str)) = false := by decide)
    (he : starEach [.Name x p1] X.env = (false, eval (.Name x p1) X.env) :: starEach [] X.env := by rfl) : SE X W (.Call (.Name nm p) [.Name x p1] [] pos) (lnt i F) := by
  obtain ⟨f, fd, ps, ds, dvs, ok, gm, kp, b, vd, rd⟩ := kn.ex
  have hd0 : dvs = [] := by cases rd (fun _ => none); rfl
  subst hd0
  refine PE.weak (pe_callW ok hr hg gm kp b vd C.tk (pa_cons hv pa_nil he) hdb he rfl) fun σ H Q ⟨G, ρ, R, p⟩ => ?_
  revert p
  unfold lnt
  cases e : ρ[i]? with
  | none => exact False.elim
  | some s =>
    cases s with
    | no => exact False.elim
    | sh d => exact False.elim
    | exn _ => exact False.elim
    | fn _ _ _ => exact False.elim
    | ls _ _ => exact False.elim
    | ow d =>
      intro p
      simp only at p
      obtain ⟨a, G1, hσ, ga, ⟨u, hu, hG⟩, rp, R1⟩ := R.freeze i e
      refine ⟨.ref a, hσ, ?_⟩
      show spFF _ _ _ _ _ ([V.ref a] ++ []) H _ _
      refine ⟨rfl, G1, [d], R1.sub, R1.tabs, .cons rp .nil, ?_⟩
      have back : ∀ {G' H' : Hp}, Ext G1 H G' H' → Ext G H G H' := fun x => ⟨x.hh, .refl _, fun b o h => x.gh _ _ (x.gg _ _ (by rw [hG, upd_ne (ne_of_none h ga)]; exact h)), fun _ _ _ h => h⟩
      revert p
      cases F [d] with
      | st => exact id
      | ex c => exact fun p C1 G' H' x mc => p C1 G H' (back x) mc
      | ok r =>
        intro p
        simp only [bd_ok] at p
        split at p
        · rename_i es'
          obtain ⟨c1, p⟩ := p.chk
          intro l G' H' x hl gl ow
          obtain ⟨xs, hx, rx⟩ := ow
          have gl0 : G l = none := R.sub.free hl
          have x2 : Ext G H (upd G l (.lst xs)) H' := ⟨x.hh, fun b o h => by rw [upd_ne (ne_of_none h gl0)]; exact h, fun b o h => by
            by_cases hb : b = l
            · subst hb; rw [upd_same] at h; cases h; exact hx
            · rw [upd_ne hb] at h; exact (back x).gh _ _ h, fun b o h g => by rw [upd_ne (ne_of_none h hl)]; exact g⟩
          exact p (.ref l) _ H' x2 (.lst upd_same (rx.flat c1))
        · exact p.elim
end
end Fx

set_option Elab.async false
set_option linter.all false
set_option maxRecDepth 100000
set_option maxHeartbeats 4000000
/-! Fx38: pairs put into a dict of nested tuples, one after another. -/
namespace Fx
open PySem PySem.Spec PyProof.Rows L2 Sx
variable {K : PySem.W.Frag} {mg : Str → Option Value} {ww : World}
def dc2I (T1 : Tg) (own1 : List Nat) (fk fv : En → Oc D) (ρ1 : En) : List D → D → Oc D
  | [], acc => .ok acc
  | e :: es, acc => bd (noex (bindT T1 e (wipeE ρ1 own1))) fun ρ2 => bd (noex (fk ρ2)) fun k => bd (noex (fv ρ2)) fun v => bd (noex (putIR acc k v)) fun z => dc2I T1 own1 fk fv ρ1 es z
theorem noex_ok_of {α β : Type} {o : Oc α} {f : α → Oc β} {b : β} (h : bd (noex o) f = .ok b) : ∃ a, o = .ok a ∧ f a = .ok b := by
  cases o with
  | st => cases h
  | ex c => cases h
  | ok a => exact ⟨a, rfl, h⟩
theorem putX_of {X : Cx} {G H : Hp} {l : Addr} {ds vs : List D} {k v z : D} {kv vv : V} (sm : Vw G H) (ow : OwAt X.K X.mg X.w G H l (.dct ds vs)) (rk : Rep X.K X.mg X.w G kv k) (rv : Rep X.K X.mg X.w G vv v) (h : putIR (.dct ds vs) k v = .ok z) :
    (∃ ds' vs', z = .dct ds' vs') ∧ ∃ (b : Addr) (kk : NestedKey) (xs : List Ent), kv = .ref b ∧ H l = some (DctNO X.w l xs) ∧ Gx.KB X H b kk ∧ (∀ e ∈ xs, Gx.KB X H e.2.1 e.1) ∧ xs.length < sizeLine ∧ OwAt X.K X.mg X.w G (L2.upd H l (DctNO X.w l (setX xs kk b vv))) l z := by
  unfold putIR at h
  simp only at h
  split at h
  · rename_i b ks kk h1 h2 h3
    cases hc : decide (ds.length ≤ 1000000) with
    | false => rw [hc] at h; cases h
    | true =>
      rw [hc] at h
      simp only [chk_true] at h
      have h := Oc.ok.inj h
      obtain ⟨ks', k', g1, g2, ht, hd, rfl⟩ := inK_some h1
      rw [h2] at g1
      cases g1
      rw [h3] at g2
      cases g2
      obtain ⟨xs, hl, rl, kl, dl, vl⟩ := ow
      have ek : ks = xs.map (·.1) := Option.some.inj (h2.symm.trans kl)
      have S : ∀ Z : Cx, Z.K = X.K → Z.mg = X.mg → DctQ Z X.w G H l xs ds vs := fun Z e1 e2 => ⟨hl, by rw [e1, e2]; exact rl, kl, dl, by rw [e1, e2]; exact vl⟩
      obtain ⟨bb, rfl⟩ := tup_ref rk ht
      have lt : xs.length < sizeLine := by
        have e1 : xs.length = ds.length := by have := rl.length; simpa using this
        have := of_decide_eq_true hc
        rw [sizeLine_val]; omega
      have ma := atX_mem xs kk
      have hz : ∃ ds' vs', z = .dct ds' vs' := by
        split at h
        · exact ⟨_, _, h.symm⟩
        · exact ⟨_, _, h.symm⟩
      refine ⟨hz, bb, kk, xs, rfl, hl, fun s H0 scope ce fp => Rep.ka (X := X.blk s H0 scope ce fp) sm rk h3 hd, fun e he s H0 scope ce fp => DctQ.ka (X := X.blk s H0 scope ce fp) (S _ rfl rfl) sm e he, lt, ?_⟩
      by_cases hm : kk ∈ ks
      · rw [if_pos (by simpa using hm)] at h
        rw [← h]
        have e2 : (atX xs kk).isSome = true := by rw [ma, ← ek]; simpa using hm
        have e3 : setX xs kk bb vv = xs.map (putX kk vv) := by unfold setX; rw [if_pos e2]
        refine ⟨_, upd_same, ?_, ?_, ?_, ?_⟩
        · rw [e3, (putX_keys kk vv xs).2]; exact rl
        · rw [e3, (putX_keys kk vv xs).1]; exact kl
        · rw [e3, (putX_keys kk vv xs).1]; exact dl
        · rw [e3, ek]; exact zipPut_rep rv vl
      · rw [if_neg (by simpa using hm)] at h
        rw [← h]
        have e2 : (atX xs kk).isSome = false := by rw [ma, ← ek]; simpa using hm
        have e3 : setX xs kk bb vv = xs ++ [(kk, bb, vv)] := by unfold setX; rw [if_neg (by rw [e2]; decide)]
        refine ⟨_, upd_same, ?_, ?_, ?_, ?_⟩
        · rw [e3, List.map_append]; exact rl.append (.cons rk .nil)
        · rw [e3, List.map_append]; exact keyNs_app kl h3
        · rw [e3, List.map_append]
          intro k'' hk''
          rcases List.mem_append.mp hk'' with z | z
          · exact dl k'' z
          · rw [List.mem_singleton.mp z]; exact hd
        · rw [e3, List.map_append]; exact vl.append (.cons rv .nil)
  · cases h
theorem gT_kept {G H : Hp} {T : Tg} {v : V} {d : D} {ρ ρ' : En} {σ : L2.St} {Q : L2.St → Hp → Prop} (s : Vw G H) (r : Rep K mg ww G v d) (h : bindT T d ρ = .ok ρ') (q : ∀ vs, (∀ G2 H2, Same G G2 → Rel K mg ww G2 H2 ρ σ → Rel K mg ww G2 H2 ρ' (setT T v vs σ)) → Q (setT T v vs σ) H) : gT K T v σ H Q := by
  refine gT_in s r h fun vs ds c => q vs fun G2 H2 s2 R => ?_
  cases T with
  | one i => cases h; exact R.set i (r.same s2)
  | tup is =>
    obtain ⟨_, _, rl, e⟩ := c
    subst e
    exact R.setV (rl.same s2)
end Fx

set_option Elab.async false
set_option linter.all false
set_option maxRecDepth 100000
set_option maxHeartbeats 4000000
/-! Fx39: new lists of new lists. -/
namespace Fx
open PySem PySem.Spec PyProof.Rows L2 Sx
variable {K : PySem.W.Frag} {mg : Str → Option Value} {ww : World}
def PostD (K : PySem.W.Frag) (mg : Str → Option Value) (ww : World) (W : XK) (G H : Hp) (Q : VK) : Oc D → Prop
  | .st => False
  | .ok d => ∀ a G' H', Ext G H G' H' → DpAt K mg ww H G' H' a d → Q (.ref a) H'
  | .ex c => ∀ C G' H', Ext G H G' H' → mg c = some (.ref C) → W (.ref C) none H'
def tD (K : PySem.W.Frag) (mg : Str → Option Value) (ww : World) (W : WX) (f : En → Oc D) : TE := fun σ H Q => ∃ G ρ, Rel K mg ww G H ρ σ ∧ PostD K mg ww (fun c d H' => W c d σ H') G H Q (f ρ)
abbrev SD (X : Cx) (W : WX) (e : Expr) (f : En → Oc D) : Prop := PE X e (tD X.K X.mg X.w W f)
theorem paired_l {α β : Type} {F : α → β → Prop} : ∀ {l : List α} {m : List β}, Paired F l m → ∀ a ∈ l, ∃ b, F a b
  | _, _, .cons h t, a, ha => by
    rcases List.mem_cons.mp ha with rfl | k
    · exact ⟨_, h⟩
    · exact paired_l t a k
  | _, _, .nil, a, ha => absurd ha List.not_mem_nil
theorem paired_in {α β : Type} {F : α → β → Prop} : ∀ {l : List α} {m : List β}, Paired F l m → Paired (fun a b => a ∈ l ∧ F a b) l m
  | _, _, .nil => .nil
  | _, _, .cons h t => .cons ⟨List.mem_cons_self, h⟩ (Paired.imp (fun _ _ z => ⟨List.mem_cons_of_mem _ z.1, z.2⟩) (paired_in t))
theorem dp_reps {G2 : Hp} {R : Addr → List D → Prop} (h : ∀ b ds, R b ds → Rep K mg ww G2 (.ref b) (.lst ds)) : ∀ {as : List Addr} {dss : List (List D)}, Paired R as dss → RepL K mg ww G2 (as.map .ref) (dss.map .lst)
  | _, _, .nil => .nil
  | _, _, .cons q t => .cons (h _ _ q) (dp_reps h t)
theorem paired_all {α β : Type} {F : α → β → Prop} {P : α → Prop} (h : ∀ a b, F a b → P a) : ∀ {l1 : List α} {l2 : List β}, Paired F l1 l2 → ∀ a ∈ l1, P a
  | _, _, .nil, a, m => absurd m List.not_mem_nil
  | _, _, .cons r t, a, m => by
    rcases List.mem_cons.mp m with rfl | m
    · exact h _ _ r
    · exact paired_all h t a m
theorem DpAt.own {H0 G0 G H : Hp} {a : Addr} {d : D} (x : Ext G0 H0 G H) (w : DpAt K mg ww H0 G H a d) : ∃ G2, Ext G0 H0 G2 H ∧ H0 a = none ∧ G2 a = none ∧ OwAt K mg ww G2 H a d := by
  obtain ⟨as, dss, rfl, hl, nd, hn, pr⟩ := w
  rw [List.nodup_cons] at nd
  have gg : Same G (fun b => if b ∈ as then H b else G b) := fun b o e => by
    show (if b ∈ as then H b else G b) = some o
    rw [if_neg fun m => by rw [(hn b (List.mem_cons_of_mem _ m)).2] at e; cases e]
    exact e
  refine ⟨fun b => if b ∈ as then H b else G b, ⟨x.hh, x.gg.trans gg, fun b o e => ?_, fun b o e g => ?_⟩, (hn a List.mem_cons_self).1, ?_, ⟨as.map .ref, hl, dp_reps (fun b ds ow => ?_) (paired_in pr)⟩⟩
  · have e : (if b ∈ as then H b else G b) = some o := e
    split at e
    · rename_i hm
      exact paired_all (fun b ds (w : OwAt K mg ww G H b (.lst ds)) => show ∀ o, H b = some o → VOk H b o from fun o q => w.seen q _ _ q) pr b hm o e
    · exact x.gh b o e
  · show (if b ∈ as then H b else G b) = none
    rw [if_neg fun m => by rw [(hn b (List.mem_cons_of_mem _ m)).1] at e; cases e]
    exact x.nc b o e g
  · show (if a ∈ as then H a else G a) = none
    rw [if_neg nd.1]
    exact (hn a List.mem_cons_self).2
  · exact ow.2.rep gg fun o q => by
      show (if b ∈ as then H b else G b) = some o
      rw [if_pos ow.1]
      exact q
theorem postD_of {U : XK} {G H : Hp} {Q : VK} {o : Oc D} (p : PostF K mg ww U G H Q o) : PostD K mg ww U G H Q o := by
  revert p
  cases o with
  | st => exact id
  | ex c => exact id
  | ok d =>
    intro p a G' H' x w
    obtain ⟨G2, x2, h0, g0, ow⟩ := w.own x
    exact p a G2 H' x2 h0 g0 ow
theorem PostD.imp {W : XK} {G H G1 H1 : Hp} {Q Q' : VK} {o : Oc D} (x : Ext G H G1 H1) (h : PostD K mg ww W G H Q o) (q : ∀ v H, Q v H → Q' v H) : PostD K mg ww W G1 H1 Q' o := by
  cases o with
  | st => exact h
  | ok d =>
    intro a G' H' e w
    obtain ⟨as, dss, rfl, hl, nd, hn, pr⟩ := w
    exact q _ _ (h a G' H' (x.trans e) ⟨as, dss, rfl, hl, nd, fun b hb => ⟨x.hh.free (hn b hb).1, (hn b hb).2⟩, pr⟩)
  | ex c => exact fun C G' H' e m => h C G' H' (x.trans e) m
theorem SD.toF {X : Cx} {W : WX} {e : Expr} {f : En → Oc D} (h : SD X W e f) : SF X W e f := PE.weak h fun σ H Q ⟨G, ρ, R, p⟩ => ⟨G, ρ, R, postD_of p⟩
/-! ### defs -/
def spFD (K : PySem.W.Frag) (mg : Str → Option Value) (ww : World) (n : Nat) (F : List D → Oc D) : Sp := fun vs H Q E => vs.length = n ∧ ∃ G ds, Vw G H ∧ Tabs K G H ∧ RepL K mg ww G vs ds ∧ PostD K mg ww E G H Q (F ds)
structure KnD (P : Program) (w : World) (K : PySem.W.Frag) (mg : Str → Option Value) (base : Heap) (k : Nat) (x : Str) (n : Nat) (dds : List D) (F : List D → Oc D) : Prop where
  ex : ∃ (f : Addr) (fd : FuncData) (ps : List Str) (ds : List Value) (dvs : List V), FnOk P w K mg base (L2.CX P w) k f fd ps (spFD K mg w (n + dds.length) F) ∧ mg x = some (.ref f) ∧ PySem.W.keepIn K (.ref f) = true ∧ Binds K fd ps ds ∧ Vals dvs ds ∧ (∀ G, RepL K mg w G dvs dds)
abbrev XKnD (X : Cx) := KnD X.prog X.w X.K X.mg X.base
theorem KnD.knF {P : Program} {w : World} {base : Heap} {k n : Nat} {x : Str} {dds : List D} {F : List D → Oc D} (h : KnD P w K mg base k x n dds F) : KnF P w K mg base k x n dds F := by
  obtain ⟨f, fd, ps, ds, dvs, ok, r⟩ := h.ex
  exact ⟨f, fd, ps, ds, dvs, ok.imp fun vs H Q E ⟨hl, G, es, s, t, r, p⟩ => ⟨hl, G, es, s, t, r, postD_of p⟩, r⟩
section
variable {X : Cx} {W : WX} {U : XK} {fre : Fr} {a b c e tg it : Expr} {es : List Expr} {f g h : En → Oc D} {fs : En → Oc (List D)} {pos : Pos} {G H : Hp} {Q : VK} {sts : List Stmt} {gs : En → Oc Res}
theorem sd_call {k n : Nat} {nm : Str} {dds : List D} {F : List D → Oc D} {p : Pos} (kn : XKnD X k nm n dds F) (C : Ctx X W) (hr : Room k X.A) (hg : Gl X nm) (ha : SA X W (e :: es) fs) (hdb : (nm == ("__debug__" : Str)) = false := by decide)
    (he : starEach (e :: es) X.env = (false, eval e X.env) :: starEach es X.env := by rfl) (hpl : (backTo pos (starEach es X.env)).any (·.1) = false := by rfl) : SD X W (.Call (.Name nm p) (e :: es) [] pos) (cal F n dds fs) := by
  obtain ⟨f, fd, ps, ds, dvs, ok, gm, kp, b, vd, rd⟩ := kn.ex
  refine PE.weak (pe_callW ok hr hg gm kp b vd C.tk ha hdb he hpl) fun σ H Q ⟨G, ρ, R, p⟩ => ?_
  refine ⟨G, ρ, R, ?_⟩
  revert p
  unfold cal
  cases fs ρ with
  | st => exact id
  | ex c => exact id
  | ok ds =>
    intro p vs G1 H1 x1 r1
    have p := PostD.imp x1 p fun _ _ q => q
    simp only [bd_ok] at p
    cases hc : decide (ds.length = n) with
    | false => rw [hc] at p; exact p.elim
    | true =>
      rw [hc] at p
      have p : PostD X.K X.mg X.w _ G1 H1 Q (F (ds ++ dds)) := p
      exact ⟨by rw [List.length_append, r1.length, (rd G1).length, of_decide_eq_true hc], G1, ds ++ dds, x1.gh, (R.ext x1).tabs, r1.append (rd G1), p⟩
theorem ss_retD (ha : SD X (up U) a f) : SS X U .d (.Return (some a) pos) (ret f) := PS.weak (ps_ret ha) fun D σ H ⟨G, ρ, me, G0, H0, B, p⟩ => by
  refine ⟨G, ρ, B.rel, ?_⟩
  revert p
  unfold ret
  cases f ρ with
  | st => exact id
  | ex c => exact fun p C G' H' x m => p C G' H' (B.ext.trans x) m
  | ok d =>
    intro p a G' H' x w
    obtain ⟨as, dss, rfl, hl, nd, hn, pr⟩ := w
    exact p a G' H' (B.ext.trans x) ⟨as, dss, rfl, hl, nd, fun b hb => ⟨B.ext.hh.free (hn b hb).1, (hn b hb).2⟩, pr⟩
/-! ### [.. for ..] of new lists -/
def isLs : D → Bool
  | .lst _ => true
  | _ => false
def dpo : Oc D → Oc D
  | .ok (.lst ds) => if ds.all isLs then .ok (.lst ds) else .st
  | _ => .st
def lcd (T : Tg) (own : List Nat) (src : En → Oc (List D)) (tt : En → Oc Bool) (el : En → Oc D) : En → Oc D := fun ρ => bd (src ρ) fun ds => chk (decide (ds.length ≤ sizeLine)) (dpo (bd (lcL T own tt el ρ ds) fun ys => .ok (.lst ys)))
theorem isLs_eq {d : D} (h : isLs d = true) : ∃ ds, d = .lst ds := by
  cases d <;> first | exact ⟨_, rfl⟩ | cases h
theorem paired_snoc {α β : Type} {F : α → β → Prop} {x : α} {y : β} (h : F x y) : ∀ {l : List α} {m : List β}, Paired F l m → Paired F (l ++ [x]) (m ++ [y])
  | _, _, .nil => .cons h .nil
  | _, _, .cons q t => .cons q (paired_snoc h t)
theorem tLcD_in {T : Tg} {own : List Nat} {src : En → Oc (List D)} {tt : En → Oc Bool} {el : En → Oc D} {σ : L2.St} {H : Hp} {Q : VK} (ho : ∀ i ∈ T.slots, i ∈ own) (q : tD K mg ww W (lcd T own src tt el) σ H Q) :
    tLc (tI K mg ww W src) (gT K T) (tT K mg ww E0W tt) (tF K mg ww E0W el) own σ H Q := by
  obtain ⟨G, ρ, R, p⟩ := q
  refine ⟨G, ρ, R, ?_⟩
  revert p
  unfold lcd
  cases src ρ with
  | st => exact id
  | ex c => exact id
  | ok ds =>
    intro p J G1 H1 x1 Y D hD
    simp only [bd_ok] at p
    have hsz : ds.length ≤ sizeLine ∧ PostD K mg ww (fun c d H' => W c d σ H') G H Q (dpo (bd (lcL T own tt el ρ ds) fun ys => .ok (.lst ys))) := by
      cases hc : decide (ds.length ≤ sizeLine) with
      | false => rw [hc] at p; exact p.elim
      | true => rw [hc] at p; exact ⟨of_decide_eq_true hc, p⟩
    obtain ⟨hsz, p⟩ := hsz
    have g1 : G1 D = none := x1.gh.free hD
    cases hall : lcL T own tt el ρ ds with
    | st => rw [hall] at p; exact p.elim
    | ex c => exact absurd hall lcL_noex
    | ok ys =>
      rw [hall] at p
      simp only [bd_ok, dpo] at p
      cases hls : ys.all isLs with
      | false => rw [hls] at p; exact p.elim
      | true =>
      rw [hls] at p
      simp only [if_true] at p
      have p : PostD K mg ww (fun c d H' => W c d σ H') G H Q (.ok (.lst ys)) := p
      refine ⟨fun i m H => m = ds.length - i ∧ i ≤ ds.length ∧ ∃ G as dss ws, Ext G1 H1 G H ∧ H D = some (.lst (as.map .ref)) ∧ G D = none ∧ (D :: as).Nodup ∧ (∀ b ∈ as, H1 b = none ∧ G b = none) ∧ Paired (fun b ds => OwAt K mg ww G H b (.lst ds)) as dss ∧ as.length ≤ i ∧ lcL T own tt el ρ (ds.drop i) = .ok ws ∧ ys = dss.map .lst ++ ws,
        ⟨ds.length, by simp, Nat.zero_le _, G1, [], [], ys, Ext.newH x1.gh hD, upd_same, g1, by simp, fun b hb => absurd hb List.not_mem_nil, .nil, Nat.le_refl _, by simpa using hall, rfl⟩, ?_⟩
      rintro i m H ⟨rfl, hi, G, as, dss, ws, x, hH, gD, nd, hn, pr, hz, hw, rfl⟩
      have RR : Rel K mg ww G H ρ σ := (R.ext x1).ext x
      have keep : ∀ {G3 H3 : Hp}, Ext G H G3 H3 → H3 D = some (.lst (as.map .ref)) ∧ G3 D = none ∧ (∀ b ∈ as, H1 b = none ∧ G3 b = none) ∧ Paired (fun b ds => OwAt K mg ww G3 H3 b (.lst ds)) as dss := fun {G3 H3} xx =>
        ⟨xx.hh.ob _ _ hH (fun _ z => by cases z) (fun _ z => by cases z), xx.nc D _ hH gD, fun b hb => ⟨(hn b hb).1, by
          obtain ⟨e, ow⟩ := paired_l pr b hb
          obtain ⟨u, hu⟩ := ow.ex
          exact xx.nc b u hu (hn b hb).2⟩, Paired.imp (fun b ds ow => ow.same xx.gg fun o q n m => xx.hh.ob _ _ q n m) pr⟩
      by_cases hlt : i < ds.length
      · refine .inr ⟨Y.go i G H hlt x.gg x.gh, _, fun H' n => n, fun v H' y => ?_⟩
        obtain ⟨d, hd⟩ : ∃ d, ds[i]? = some d := ⟨ds[i], List.getElem?_eq_getElem hlt⟩
        obtain ⟨G2, x2, r2⟩ := Y.yld i d v G H H' hd x.gg x.gh y
        have hdr : ds.drop i = d :: ds.drop (i + 1) := by
          rw [List.drop_eq_getElem_cons hlt]
          rw [List.getElem?_eq_getElem hlt] at hd
          cases hd
          rfl
        rw [hdr] at hw
        unfold lcL at hw
        obtain ⟨ρ1, h1, hw⟩ := noex_ok_of hw
        obtain ⟨b, h2, hw⟩ := noex_ok_of hw
        have R2 : Rel K mg ww G2 H' (wipeE ρ own) (L2.wipe σ own) := (RR.ext x2).wipe own
        refine gT_rel R2 r2 h1 fun us R3 => ⟨setT_wipe ho, ?_⟩
        refine ⟨G2, ρ1, R3, ?_⟩
        rw [h2]
        intro G3 H3 x3
        have x13 : Ext G1 H1 G3 H3 := (x.trans x2).trans x3
        have x23 : Ext G H G3 H3 := x2.trans x3
        cases b with
        | false =>
          simp only [Bool.false_eq_true, if_false] at hw ⊢
          obtain ⟨k1, k2, k3, k4⟩ := keep x23
          exact ⟨ds.length - (i + 1), by omega, rfl, hlt, G3, as, dss, ws, x13, k1, k2, nd, k3, k4, by omega, hw, rfl⟩
        | true =>
          simp only [if_true] at hw ⊢
          refine ⟨G3, ρ1, R3.ext x3, ?_⟩
          obtain ⟨yd, h3, hw⟩ := noex_ok_of hw
          rw [h3]
          intro bb G4 H4 x4 hb4 gb4 owb
          cases h4 : lcL T own tt el ρ (ds.drop (i + 1)) with
          | st => rw [h4] at hw; cases hw
          | ex c => exact absurd h4 lcL_noex
          | ok ws2 =>
            rw [h4] at hw
            cases hw
            have x14 : Ext G1 H1 G4 H4 := x13.trans x4
            have x24 : Ext G H G4 H4 := x23.trans x4
            obtain ⟨k1, k2, k3, k4⟩ := keep x24
            obtain ⟨j1, j2, j3, j4⟩ := keep x23
            have hyl : isLs yd = true := List.all_eq_true.mp hls yd (List.mem_append_right _ List.mem_cons_self)
            obtain ⟨yds, rfl⟩ := isLs_eq hyl
            have nb : bb ∉ D :: as := fun m => by
              rcases List.mem_cons.mp m with z | z
              · rw [z] at hb4; rw [hb4] at j1; cases j1
              · obtain ⟨e, ow⟩ := paired_l j4 bb z
                obtain ⟨u, hu⟩ := ow.ex
                rw [hb4] at hu; cases hu
            have hD2 : ∀ c ∈ as ++ [bb], c ≠ D := fun c hc z => by
              subst z
              rcases List.mem_append.mp hc with k | k
              · exact (List.nodup_cons.mp nd).1 k
              · rw [List.mem_singleton.mp k] at nb; exact nb List.mem_cons_self
            have hl : as.length < sizeLine := by omega
            refine ⟨as.map .ref, k1, by rw [List.length_map]; exact hl, ds.length - (i + 1), by omega, rfl, hlt, G4, as ++ [bb], dss ++ [yds], ws2, ⟨x14.hh.upd hD (notFn_lst k1), x14.gg, fun b u e => ?_, x14.nc⟩, ?_, k2, ?_, ?_, ?_, by simp; omega, rfl, by simp⟩
            · exact (x14.gh _ _ e).upd (ne_of_none e k2)
            · rw [upd_same, List.map_append]; rfl
            · rw [List.nodup_cons] at nd ⊢
              refine ⟨fun m => hD2 D m rfl, List.nodup_append.mpr ⟨nd.2, by simp, fun c hc d hd z => ?_⟩⟩
              rw [List.mem_singleton.mp hd] at z
              subst z
              exact nb (List.mem_cons_of_mem _ hc)
            · intro c hc
              rcases List.mem_append.mp hc with k | k
              · exact k3 c k
              · rw [List.mem_singleton.mp k]
                exact ⟨x13.hh.free hb4, gb4⟩
            · refine Paired.imp (fun c ds' (z : OwAt K mg ww G4 H4 c (.lst ds') ∧ c ≠ D) => z.1.same (.refl _) fun o q n _ => by rw [upd_ne z.2]; exact q) (paired_snoc ⟨owb, hD2 bb (by simp)⟩ ?_)
              have : ∀ {l : List Addr} {m : List (List Fx.D)}, Paired (fun b ds => OwAt K mg ww G4 H4 b (.lst ds)) l m → (∀ c ∈ l, c ≠ D) → Paired (fun c ds' => OwAt K mg ww G4 H4 c (.lst ds') ∧ c ≠ D) l m := by
                intro l m pp
                induction pp with
                | nil => exact fun _ => .nil
                | cons h t ih => exact fun hh => .cons ⟨h, hh _ List.mem_cons_self⟩ (ih fun c hc => hh c (List.mem_cons_of_mem _ hc))
              exact this k4 fun c hc => hD2 c (List.mem_append_left _ hc)
      · have e : i = ds.length := by omega
        subst e
        rw [List.drop_length] at hw
        cases hw
        rw [List.append_nil] at p
        refine .inl ⟨Y.stop G H x.gg x.gh, p D G H (x1.trans x) ⟨as, dss, rfl, hH, nd, fun b hb => ?_, pr⟩⟩
        rcases List.mem_cons.mp hb with z | z
        · subst z
          exact ⟨x1.hh.free hD, gD⟩
        · exact ⟨x1.hh.free (hn b z).1, (hn b z).2⟩
theorem sd_lc {elt : Expr} {ifs : List Expr} {scope : Scope} {own : List (Str × Nat)} {T : Tg} {src : En → Oc (List D)} {tt : En → Oc Bool} {el : En → Oc D} (C : Ctx X W) (hi : SI X W tg it src) (ok : BlkOk X.N X.env.scope scope own)
    (hg : ∀ (s : Shared) (H : Hp) (C : Addr) (cl : List (Str × Addr)) (fp : List Addr), ST (X.blk s H scope (compEnvC scope cl C X.env) fp) tg T) (ht : ∀ (s : Shared) (H : Hp) (C : Addr) (cl : List (Str × Addr)) (fp : List Addr), PTs (X.blk s H scope (compEnvC scope cl C X.env) fp) ifs (tT X.K X.mg X.w E0W tt))
    (he : ∀ (s : Shared) (H : Hp) (C : Addr) (cl : List (Str × Addr)) (fp : List Addr), SF (X.blk s H scope (compEnvC scope cl C X.env) fp) E0W elt el) (ho : ∀ i ∈ T.slots, i ∈ own.map (·.2)) (hs : ∀ x, foldedSetIterable it X.env x = pure x := by intro _; rfl) :
    SD X W (.ListComp elt [⟨tg, it, ifs, 0⟩] scope pos) (lcd T (own.map (·.2)) src tt el) := PE.weak (pe_lc C.calm C.nd hi ok hg ht he hs) fun σ H Q q => tLcD_in ho q
end
section
variable {w : World} {P : Program} {base : Heap}
theorem fnDp_start {N ps : List Str} {sc : Scope} {G H : Hp} {vs : List V} {ds : List D} {Q : VK} {E : XK} {g : En → Oc Res} (S : FnScope N ps sc) (sG : Vw G H) (tb : Tabs K G H) (r : RepL K mg ww G vs ds) (p : PostD K mg ww E G H Q (fnF N.length ps.length g ds)) :
    tS K mg ww E .d g { nx := fun _ H' => Q .non H', rt := Q } (L2.start N vs) H := by
  unfold fnF at p
  cases hc : decide (ds.length = ps.length) with
  | false => rw [hc] at p; exact p.elim
  | true =>
    rw [hc] at p
    simp only [chk_true] at p
    have hd := of_decide_eq_true hc
    have R := rel_start (N := N) sG tb r
    rw [hd] at R
    refine ⟨G, _, 0, G, H, ⟨R, .refl sG, fun i a d h1 _ => absurd h1 (noOwn i d), fun i c fs h1 => absurd h1 (noOwn i _)⟩, ?_⟩
    revert p
    unfold outF
    cases g (ds.map .sh ++ List.replicate (N.length - ps.length) .no) with
    | st => exact id
    | ex c => exact id
    | ok r =>
      simp only [bd_ok]
      cases r with
      | nx ρ => exact fun p => p.elim
      | rt d =>
        simp only
        cases hn : isNon d with
        | true => exact fun p => p.elim
        | false => exact fun p => fun a G' H' x w => p a G' H' x w
      | bk ρ => exact fun p => p.elim
      | ct ρ => exact fun p => p.elim
theorem fnDp_ok {x qual : Str} {pa : Arguments} {bd : List Stmt} {sc : Scope} {dvs : List V} {kws : List (Str × V)} {f : Addr} {fd : FuncData} {N ps : List Str} {k : Nat} {g : En → Oc Res} (F : FunD K x qual pa bd sc dvs kws f fd) (S : FnScope N ps sc)
    (hb : ∀ (cdv : Value) (A : Around) (outer : List Env) (s : Shared) (H : Hp) (E : XK), fd.code = cdv → Room k (A.deeper (envOfC qual sc s.heap.objs.size f cdv)) → Ctx (cxOf (L2.CX P w) P w K mg base N qual sc f cdv A outer s H E) (up E) →
      SSs (cxOf (L2.CX P w) P w K mg base N qual sc f cdv A outer s H E) E .d bd g) : FnOk P w K mg base (L2.CX P w) (k + 1) f fd ps (spFD K mg w ps.length (fnF N.length ps.length g)) := by
  obtain ⟨oc, od, dV, kV, doc, pm, an, cdv, ct, osl, rfl, lk, hcd, _, _⟩ := F.ex
  refine fn_of lk hcd S (fun vs H Q E h => h.1) fun A outer s H vs Q E hr h => ?_
  obtain ⟨hl, G, ds, sG, tb, r, p⟩ := h
  refine ⟨_, hb cdv A outer s H E rfl hr (ctx_def S hr), ?_⟩
  exact fnDp_start S sG tb r p
end
/-! ### x = F(..); x[0].append(c); x.append(c'), and x is never read again -/
section
variable {X : Cx} {W : WX} {U : XK} {fre : Fr} {a c c2 : Expr} {f : En → Oc D} {pos : Pos} {sts : List Stmt} {gs : En → Oc Res}
def spl (i : Nat) (f : En → Oc D) (gs : En → Oc Res) : En → Oc Res := fun ρ => bd (f ρ) fun d => match d with
  | .lst (.lst es :: ds) => chk (decide (i < ρ.length ∧ ds.length < 1000000 ∧ es.length < 1000000)) (gs (ρ.set i .no))
  | _ => .st
theorem Rel.forget {G H : Hp} {ρ : En} {σ : L2.St} (R : Rel K mg ww G H ρ σ) (i : Nat) (v : Option V) : Rel K mg ww G H (ρ.set i .no) (σ.set i v) := by
  refine ⟨R.sub, R.tabs, by simp [R.len], fun j s o h1 h2 => ?_, fun j k a d' e' h1 h2 h3 h4 => ?_⟩
  · by_cases hj : i = j
    · subst hj
      have hi : i < (ρ.set i .no).length := (List.getElem?_eq_some_iff.mp h1).1
      have hr : i < ρ.length := by simpa using hi
      rw [List.getElem?_set_self hr] at h1
      cases h1
      trivial
    · rw [List.getElem?_set_ne hj] at h1 h2
      exact R.at_ j s o h1 h2
  · have nj : ∀ {m : Nat} {y : D}, (ρ.set i .no)[m]? = some (.ow y) → i ≠ m := fun {m y} h e => by
      subst e
      have hi : i < (ρ.set i .no).length := (List.getElem?_eq_some_iff.mp h).1
      rw [List.getElem?_set_self (by simpa using hi)] at h
      cases h
    have n1 := nj h1
    have n2 := nj h2
    rw [List.getElem?_set_ne n1] at h1 h3
    rw [List.getElem?_set_ne n2] at h2 h4
    exact R.apart j k a d' e' h1 h2 h3 h4
theorem Bs.forget {me : Addr} {G0 H0 G H : Hp} {ρ : En} {σ : L2.St} (B : Bs K mg ww me G0 H0 G H ρ σ) (i : Nat) (v : Option V) : Bs K mg ww me G0 H0 G H (ρ.set i .no) (σ.set i v) := by
  have nj : ∀ {m : Nat} {y : D}, (ρ.set i .no)[m]? = some (.ow y) → i ≠ m := fun {m y} h e => by
    subst e
    have hi : i < (ρ.set i .no).length := (List.getElem?_eq_some_iff.mp h).1
    rw [List.getElem?_set_self (by simpa using hi)] at h
    cases h
  refine ⟨B.rel.forget i v, B.ext, fun j b d h1 h2 => ?_, fun j c ds h1 => ?_⟩
  · have n := nj h1
    rw [List.getElem?_set_ne n] at h1 h2
    exact B.own j b d h1 h2
  · have n := nj h1
    rw [List.getElem?_set_ne n] at h1 ⊢
    exact B.self j c ds h1
theorem sss_spl {i : Nat} {x z1 z2 : Str} {p0 p1 p3 p4 sp ap cp ap2 cp2 e1p e2p q1 q2 : Pos} {k0 k1 k2 : Nat} (C : Ctx X (up U)) (hi : X.N[i]? = some x) (hx : Loc X.env.scope x) (ha : SD X (up U) a f) (hv : ∀ p, PE X (.Name x p) (tVar i)) (hr : SSs X U fre sts gs)
    (hs : swapsWith a (some (.Name x p0)) pos.line X.env = pure false := by rfl) (hf : X.fn x = true ∨ X.env.scope.names.lookup x = some .local := by first | exact .inl rfl | exact .inr rfl | assumption)
    (hx0 : PlainIx (.Constant (.int 0) k0 p3) := by exact fun _ _ => rfl)
    (hb1 : attributeBase (.Subscript (.Name x p1) (.Constant (.int 0) k0 p3) sp) "append" X.env (eval (.Subscript (.Name x p1) (.Constant (.int 0) k0 p3) sp) X.env) = eval (.Subscript (.Name x p1) (.Constant (.int 0) k0 p3) sp) X.env := by rfl)
    (hw1 : ((backTo cp (starEach [.Constant (.str z1) k1 q1] X.env)).all (fun x => !x.1) && (backToKw cp (keywordEach [] X.env)).all (fun x => x.1.isSome)
      && decide (([.Constant (.str z1) k1 q1] : List Expr).length + ([] : List Keyword).length + (if ([] : List Keyword).isEmpty then 0 else 1) < 30)) = true := by rfl)
    (hl1 : (ap.endLine == cp.line) = true := by rfl) (ht1 : starEach [.Constant (.str z1) k1 q1] X.env = (false, eval (.Constant (.str z1) k1 q1) X.env) :: starEach [] X.env := by rfl) (hp1 : (backTo cp (starEach [] X.env)).any (·.1) = false := by rfl)
    (hsw1 : swapsWith (.Call (.Attribute (.Subscript (.Name x p1) (.Constant (.int 0) k0 p3) sp) "append" ap) [.Constant (.str z1) k1 q1] [] cp) none e1p.line X.env = pure false := by rfl)
    (hb2 : attributeBase (.Name x p4) "append" X.env (eval (.Name x p4) X.env) = eval (.Name x p4) X.env := by rfl)
    (hw2 : ((backTo cp2 (starEach [.Constant (.str z2) k2 q2] X.env)).all (fun x => !x.1) && (backToKw cp2 (keywordEach [] X.env)).all (fun x => x.1.isSome)
      && decide (([.Constant (.str z2) k2 q2] : List Expr).length + ([] : List Keyword).length + (if ([] : List Keyword).isEmpty then 0 else 1) < 30)) = true := by rfl)
    (hl2 : (ap2.endLine == cp2.line) = true := by rfl) (ht2 : starEach [.Constant (.str z2) k2 q2] X.env = (false, eval (.Constant (.str z2) k2 q2) X.env) :: starEach [] X.env := by rfl) (hp2 : (backTo cp2 (starEach [] X.env)).any (·.1) = false := by rfl)
    (hsw2 : swapsWith (.Call (.Attribute (.Name x p4) "append" ap2) [.Constant (.str z2) k2 q2] [] cp2) none e2p.line X.env = pure false := by rfl) :
    SSs X U fre (.Assign [.Name x p0] a pos :: .Expr (.Call (.Attribute (.Subscript (.Name x p1) (.Constant (.int 0) k0 p3) sp) "append" ap) [.Constant (.str z1) k1 q1] [] cp) e1p ::
      .Expr (.Call (.Attribute (.Name x p4) "append" ap2) [.Constant (.str z2) k2 q2] [] cp2) e2p :: sts) (spl i f gs) := by
  have s1 := ps_set (pos := pos) (pos' := p0) C.nd hi hx ha hs hf
  have s2 := ps_expr (pos := e1p) (pe_bm PySem.F.plainAttrs_list PySem.F.slot_list_append PySem.F.type_list_append mt_append (pe_ix (pos := sp) ix_list (hv p1) (pe_int (i := 0) (pos := p3)) hx0) (pa_cons (pe_str (x := z1) (pos := q1)) pa_nil ht1) hb1 hw1 hl1 ht1 hp1) hsw1
  have s3 := ps_expr (pos := e2p) (pe_bm PySem.F.plainAttrs_list PySem.F.slot_list_append PySem.F.type_list_append mt_append (hv p4) (pa_cons (pe_str (x := z2) (pos := q2)) pa_nil ht2) hb2 hw2 hl2 ht2 hp2) hsw2
  refine PSs.weak (pss_cons s1 (pss_cons s2 (pss_cons s3 hr))) fun D σ H ⟨G, ρ, me, G0, H0, B, p⟩ => ?_
  refine ⟨G, ρ, B.rel, ?_⟩
  revert p
  unfold spl
  cases f ρ with
  | st => exact id
  | ex c => exact fun p C G' H' x m => p C G' H' (B.ext.trans x) m
  | ok d =>
    intro p a G1 H1 x1 w
    obtain ⟨as, dss, rfl, hl, nd, hn, pr⟩ := w
    simp only [bd_ok] at p
    cases pr with
    | nil => exact p.elim
    | cons ow pr =>
      rename_i a0 es as dss
      simp only [List.map_cons] at p hl
      cases hc : decide (i < ρ.length ∧ (dss.map Fx.D.lst).length < 1000000 ∧ es.length < 1000000) with
      | false => rw [hc] at p; exact p.elim
      | true =>
        rw [hc] at p
        obtain ⟨hc0, hc1, hc2⟩ := of_decide_eq_true hc
        have hσ : i < σ.length := by rw [B.rel.len]; exact hc0
        have hg : (σ.set i (some (.ref a)))[i]? = some (some (.ref a)) := List.getElem?_set_self hσ
        refine ⟨.ref a, hg, ?_⟩
        obtain ⟨ys, h0, r0⟩ := ow
        have na : a ≠ a0 := fun z => (List.nodup_cons.mp nd).1 (by rw [z]; exact List.mem_cons_self)
        obtain ⟨ha1, ga1⟩ := hn a List.mem_cons_self
        obtain ⟨hb1', gb1⟩ := hn a0 (List.mem_cons_of_mem _ List.mem_cons_self)
        have lenO : (V.ref a0 :: as.map V.ref).length < sizeLine := by
          have e1 : as.length = dss.length := Paired.length pr
          rw [List.length_map] at hc1
          rw [sizeLine_val, List.length_cons, List.length_map]
          omega
        have lenI : ys.length < sizeLine := by
          have := r0.length
          rw [sizeLine_val]
          omega
        refine ⟨a, V.ref a0 :: as.map V.ref, 0, .ref a0, rfl, rfl, SqL.of hl, atI_nat (j := 0) rfl, .inl ⟨rfl, _, SqL.of h0⟩, ⟨a0, ys, .str z1, rfl, rfl, h0, lenI, ?_⟩⟩
        have hl2 : (L2.upd H1 a0 (.lst (ys ++ [.str z1]))) a = some (.lst (V.ref a0 :: as.map V.ref)) := by rw [upd_ne na]; exact hl
        refine ⟨.ref a, hg, .inl ⟨rfl, _, SqL.of hl2⟩, ⟨a, _, .str z2, rfl, rfl, hl2, lenO, ?_⟩⟩
        have x4 : Ext G H G1 (L2.upd (L2.upd H1 a0 (.lst (ys ++ [.str z1]))) a (.lst (V.ref a0 :: as.map V.ref ++ [.str z2]))) := by
          refine ⟨(x1.hh.upd hb1' (notFn_lst h0)).upd ha1 (notFn_lst hl2), x1.gg, fun b u e => ?_, x1.nc⟩
          exact ((x1.gh _ _ e).upd (ne_of_none e gb1)).upd (ne_of_none e ga1)
        exact ⟨G1, _, me, G0, H0, (B.step x4).forget i (some (.ref a)), p⟩
end
end Fx

set_option Elab.async false
set_option linter.all false
set_option maxRecDepth 100000
set_option maxHeartbeats 4000000
/-! Fx40: == of nested data with dicts, that are the same; list(d), dict(d) of a dict. -/
namespace Fx
open PySem PySem.Spec PyProof.Rows L2 Sx
variable {K : PySem.W.Frag} {mg : Str → Option Value} {ww : World}
def EqW (K : PySem.W.Frag) (H : Hp) : Nat → V → V → Prop
  | 0 => fun _ _ => False
  | n + 1 => fun x y => (x = y ∧ flatB x = true) ∨ EqR K H (EqW K H n) x y ∨ ∃ a b xs ys, x = .ref a ∧ y = .ref b ∧ SqT K H a xs ∧ SqT K H b ys ∧ Paired (EqW K H n) xs ys
section
variable {X : Cx} {pins : List (Addr × Obj)} {σ : L2.St} {H : Hp} {s : Shared}
theorem tupW_run (I : Inv X pins σ H s) {A : Around} {F : V → V → Prop} (hu : A.units < cLine) (ih : ∀ x y v u, F x y → RelV x v → RelV y u → SeqAt.EqP X.prog X.w A.in1 s v u true) {a b : Addr} {xs ys : List V} (ha : SqT X.K H a xs) (hb : SqT X.K H b ys) (hp : Paired F xs ys)
    (E Q : Value → Shared → Prop) (q : Q (.bool true) s) : wpAny (model X.prog X.w) A (richCompare .Eq (.ref a) (.ref b)) Q E s := by
  obtain ⟨us, r1, p1, _⟩ := I.tuple ha
  obtain ⟨ws, r2, p2, _⟩ := I.tuple hb
  have hsz : us.toArray.size = ws.toArray.size := by
    rw [List.size_toArray, List.size_toArray, ← r1.length, ← r2.length]
    exact Paired.length hp
  refine SeqAt.rcIn_tuples (e := fun _ => true) p1 p2 hu (fun j h1 h2 => ?_) ?_
  · have k := items_run ih hp r1 r2 j (by simpa using h1) (by simpa using h2)
    have k2 : SeqAt.EqP X.prog X.w A.in1 s us.toArray[j] ws.toArray[j] true := by simpa using k
    exact k2
  · rw [show ((List.range (min us.toArray.size ws.toArray.size)).all fun _ => true) = true from List.all_eq_true.mpr fun _ _ => rfl, hsz]
    simpa using q
theorem eqW_run (I : Inv X pins σ H s) : ∀ (n : Nat) (A : Around), A.units + n < cLine → ∀ (x y : V) (v u : Value), EqW X.K H n x y → RelV x v → RelV y u → SeqAt.EqP X.prog X.w A s v u true
  | 0, _, _, _, _, _, _, h, _, _ => (show False from h).elim
  | n + 1, A, hu, x, y, v, u, h, rx, ry => by
    have step : ∀ {a b : Addr}, x = .ref a → y = .ref b → (∀ E Q : Value → Shared → Prop, Q (.bool true) s → wpAny (model X.prog X.w) A (richCompare .Eq v u) Q E s) → SeqAt.EqP X.prog X.w A s v u true := fun {a b} e1 e2 st => by
      subst e1 e2
      cases (show v = Value.ref a from rx)
      cases (show u = Value.ref b from ry)
      by_cases e : a = b
      · subst e
        exact (SeqAt.EqAt.same _).eqP
      · exact SeqAt.eqP_refs e st
    rcases h with ⟨rfl, f⟩ | h | ⟨a, b, xs, ys, rfl, rfl, ha, hb, hp⟩
    · exact (eqAt_same rx ry f).eqP
    · have st := eqR_run I (A := A) (by omega) (eqW_run I n A.in1 (by show A.units + 1 + n < cLine; omega)) h rx ry
      obtain ⟨a, b, e1, e2⟩ : ∃ a b, x = .ref a ∧ y = .ref b := by
        rcases h with ⟨a, b, _, _, e1, e2, _⟩ | ⟨a, b, _, _, e1, e2, _⟩
        · exact ⟨a, b, e1, e2⟩
        · exact ⟨a, b, e1, e2⟩
      exact step e1 e2 st
    · refine step rfl rfl ?_
      cases (show v = Value.ref a from rx)
      cases (show u = Value.ref b from ry)
      exact tupW_run I (by omega) (eqW_run I n A.in1 (by show A.units + 1 + n < cLine; omega)) ha hb hp
end
def rEqW (K : PySem.W.Frag) : R2 := fun x y H Q => ∃ n, n ≤ 60 ∧ (EqR K H (EqW K H n) x y ∨ ∃ a b xs ys, x = .ref a ∧ y = .ref b ∧ SqT K H a xs ∧ SqT K H b ys ∧ Paired (EqW K H n) xs ys) ∧ Q (.bl true) H
theorem op_eqW {X : Cx} (hu : X.A.units + 64 < cLine) : OpR X (compareOp .Eq) (rEqW X.K) := by
  intro pins s σ H x y v u Q I rx ry h
  obtain ⟨n, hn, h, q⟩ := h
  rcases h with h | ⟨a, b, xs, ys, rfl, rfl, ha, hb, hp⟩
  · exact eqR_run I (A := X.A) (by omega) (eqW_run I n X.A.in1 (by show X.A.units + 1 + n < cLine; omega)) h rx ry _ _ ⟨.bl true, H, I, rfl, q⟩
  · cases (show v = Value.ref a from rx)
    cases (show u = Value.ref b from ry)
    exact tupW_run I (by omega) (eqW_run I n X.A.in1 (by show X.A.units + 1 + n < cLine; omega)) ha hb hp _ _ ⟨.bl true, H, I, rfl, q⟩
/-! ### as data -/
def all2 (f : D → D → Bool) : List D → List D → Bool
  | [], [] => true
  | d :: ds, e :: es => f d e && all2 f ds es
  | _, _ => false
def eqDp : Nat → D → D → Bool
  | 0, _, _ => false
  | n + 1, d, e => match d, e with
    | .non, .non => true
    | .bl a, .bl b => a == b
    | .int i, .int j => i == j
    | .str x, .str y => x == y
    | .lst ds, .lst es => all2 (eqDp n) ds es
    | .tup ds, .tup es => all2 (eqDp n) ds es
    | .dks ks vs, .dks ls us => decide (ks = ls) && all2 (eqDp n) vs us
    | _, _ => false
theorem all2_rep {G : Hp} {f : D → D → Bool} {E : V → V → Prop} (h : ∀ x y d e, f d e = true → Rep K mg ww G x d → Rep K mg ww G y e → E x y) : ∀ {ds es : List D} {xs ys : List V}, all2 f ds es = true → RepL K mg ww G xs ds → RepL K mg ww G ys es → Paired E xs ys
  | [], [], _, _, _, r1, r2 => by cases r1; cases r2; exact .nil
  | d :: ds, e :: es, _, _, q, r1, r2 => by
    unfold all2 at q
    rw [Bool.and_eq_true] at q
    cases r1 with
    | cons a1 b1 =>
      cases r2 with
      | cons a2 b2 => exact .cons (h _ _ _ _ q.1 a1 a2) (all2_rep h q.2 b1 b2)
  | [], _ :: _, _, _, q, _, _ => by cases q
  | _ :: _, [], _, _, q, _, _ => by cases q
theorem keys_val {E : V → V → Prop} : ∀ {k1 k2 : List (Key × V)}, k1.map (·.1) = k2.map (·.1) → (k2.map (·.1)).Nodup → Paired E (k1.map (·.2)) (k2.map (·.2)) → ∀ p ∈ k1, ∃ u, valV k2 p.1 = some u ∧ E p.2 u := by
  intro k1 k2 hk nd hp p hm
  have key : ∀ {l1 l2 : List (Key × V)}, l1.map (·.1) = l2.map (·.1) → Paired E (l1.map (·.2)) (l2.map (·.2)) → ∀ p ∈ l1, ∃ q ∈ l2, q.1 = p.1 ∧ E p.2 q.2 := by
    intro l1
    induction l1 with
    | nil => exact fun _ _ p h => absurd h List.not_mem_nil
    | cons a l1 ih =>
      intro l2 e pp p h
      cases l2 with
      | nil => cases e
      | cons b l2 =>
        rw [List.map_cons, List.map_cons, List.cons.injEq] at e
        rw [List.map_cons, List.map_cons] at pp
        cases pp with
        | cons h1 t =>
          rcases List.mem_cons.mp h with rfl | k
          · exact ⟨b, List.mem_cons_self, e.1.symm, h1⟩
          · obtain ⟨q, hq, e1, e2⟩ := ih e.2 t p k
            exact ⟨q, List.mem_cons_of_mem _ hq, e1, e2⟩
  obtain ⟨q, hq, e1, e2⟩ := key hk hp p hm
  exact ⟨q.2, by rw [← e1]; exact val_nodup nd q hq, e2⟩
theorem dks_eqR {G H : Hp} {E : V → V → Prop} {f : D → D → Bool} (sm : Vw G H) (h : ∀ x y d e, f d e = true → Rep K mg ww G x d → Rep K mg ww G y e → E x y) {a b : Addr} {k1 k2 : List (Key × V)} {ks : List Str} {vs us : List D} (h1 : H a = some (.dK k1)) (h2 : H b = some (.dK k2))
    (e1 : k1.map (·.1) = ks.map Sum.inr) (e2 : k2.map (·.1) = ks.map Sum.inr) (nd : ks.Nodup) (r1 : RepL K mg ww G (k1.map (·.2)) vs) (r2 : RepL K mg ww G (k2.map (·.2)) us) (q : all2 f vs us = true) : EqR K H E (.ref a) (.ref b) := by
  have pp := all2_rep h q r1 r2
  refine .inr ⟨a, b, k1, k2, rfl, rfl, h1, h2, by have := Paired.length pp; simpa using this, keys_val (e1.trans e2.symm) ?_ pp⟩
  rw [e2]
  exact List.Pairwise.map _ (fun a b hab z => hab (Sum.inr.inj z)) nd
theorem eqDp_rep {G H : Hp} (sm : Vw G H) : ∀ (n : Nat) (x y : V) (d e : D), eqDp n d e = true → Rep K mg ww G x d → Rep K mg ww G y e → EqW K H n x y
  | 0, _, _, _, _, h, _, _ => by cases h
  | n + 1, x, y, d, e, h, r1, r2 => by
    unfold eqDp at h
    split at h
    · cases r1; cases r2; exact .inl ⟨rfl, rfl⟩
    · cases r1; cases r2; rw [eq_of_beq h]; exact .inl ⟨rfl, rfl⟩
    · cases r1; cases r2; rw [eq_of_beq h]; exact .inl ⟨rfl, rfl⟩
    · cases r1; cases r2; rw [eq_of_beq h]; exact .inl ⟨rfl, rfl⟩
    · cases r1 with
      | lst a1 b1 =>
        cases r2 with
        | lst a2 b2 => exact .inr (.inl (.inl ⟨_, _, _, _, rfl, rfl, SqL.of (sm _ _ a1), SqL.of (sm _ _ a2), all2_rep (eqDp_rep sm n) h b1 b2⟩))
    · cases r1 with
      | tup a1 b1 =>
        cases r2 with
        | tup a2 b2 => exact .inr (.inr ⟨_, _, _, _, rfl, rfl, sm.sqT a1, sm.sqT a2, all2_rep (eqDp_rep sm n) h b1 b2⟩)
    · rw [Bool.and_eq_true, decide_eq_true_iff] at h
      obtain ⟨rfl, h⟩ := h
      cases r1 with
      | dk a1 b1 c1 d1 =>
        cases r2 with
        | dk a2 b2 c2 d2 => exact .inr (.inl (dks_eqR sm (eqDp_rep sm n) (sm _ _ a1) (sm _ _ a2) b1 b2 c1 d1 d2 h))
    · cases h
def eqS (d e : D) : Oc D := match d, e with
  | .tup ds, .tup es => if all2 (eqDp 50) ds es then .ok (.bl true) else .st
  | _, _ => .st
/-! ### list(d), dict(d) -/
def rListX (X : Cx) : List V → Hp → VK → Prop := fun xs H Q => ∃ (a : Addr) (es : List Ent), xs = [V.ref a] ∧ H a = some (DctNO X.w a es) ∧ ∀ p, H p = none → Q (.ref p) (L2.upd H p (.lst (es.map fun x => V.ref x.2.1)))
theorem vals_ents : ∀ {xs : List Ent} {ys : List EntW}, Paired RelEnt xs ys → Vals (xs.map fun x => V.ref x.2.1) (ys.map fun y => Value.ref y.2.1)
  | _, _, .nil => .nil
  | _, _, .cons h t => .cons (show Value.ref _ = Value.ref _ by rw [h.2.1]) (vals_ents t)
theorem call_listX {X : Cx} (hc : X.calm = true) : CallR X (.type "list") (rListX X) := by
  intro pins s σ H xs us Q I r h
  obtain ⟨d, es, rfl, hd, q⟩ := h
  obtain ⟨u, rfl, rx⟩ := r.one
  cases rx
  obtain ⟨⟨ys, pr, o, en, ep, ho, hx, hdt, he⟩, nd, sz, ns⟩ := (show DctN0 X.w s.heap d es from (I.hok d _ hd).1)
  have l1 : en.size = ys.length := by
    have := congrArg List.length he
    simpa using this
  have l2 := paired_len pr
  refine PySem.W.kdl_call (kdl_raw ns hx hdt) (I.ok.hd hc) ho (by omega) fun h' tk acc' c' kp e it => ?_
  have ea : acc'.toList = ys.map fun y => Value.ref y.2.1 := by
    have hl : acc'.toList.length = ys.length := by rw [Array.length_toList, it.1]; exact l1
    apply List.ext_getElem?
    intro j
    rw [List.getElem?_map]
    cases hj : acc'.toList[j]? with
    | none =>
      have h1 := List.getElem?_eq_none_iff.mp hj
      rw [List.getElem?_eq_none (by omega)]
      all_goals rfl
    | some v =>
      obtain ⟨z, hz, hv⟩ := it.2 j v (by rw [← Array.getElem?_toList]; exact hj)
      rw [← Array.getElem?_toList, he, List.getElem?_map] at hz
      cases hb : ys[j]? with
      | none => rw [hb] at hz; cases hz
      | some b =>
        rw [hb] at hz
        have e2 : entW X.w b = z := Option.some.inj hz
        rw [hv, ← e2]
        all_goals rfl
  have rv := vals_ents pr
  rw [← ea] at rv
  refine ⟨.ref s.heap.objs.size, _, I.laid (t' := tk) (o := .lst (es.map fun x => V.ref x.2.1)) kp (Nat.le_refl _) ?_, rfl, q _ (I.hok.fresh (Nat.le_refl _))⟩
  exact ⟨by rw [List.length_map]; exact sz, acc'.toList, c', rv, by rw [Array.toArray_toList]; exact e⟩
def keysD (d : D) : Oc D := match d with
  | .dct ks _ => .ok (.lst ks)
  | _ => .st
def dcpD (d : D) : Oc D := match d with
  | .dks ks vs => .ok (.dks ks vs)
  | _ => .st
section
variable {X : Cx} {W : WX} {a b : Expr} {f g : En → Oc D} {pos : Pos}
theorem sf_listX {p : Pos} (C : Ctx X W) (hg : Gl X "list") (hm : X.mg "list" = none) (ha : SQ X W a f) (he : starEach [a] X.env = (false, eval a X.env) :: starEach [] X.env := by rfl) : SF X W (.Call (.Name "list" p) [a] [] pos) (un keysD f) :=
  sf_un (fun ha => pe_T1 (call_listX C.calm) hg hm (by decide +kernel) ha (by decide) (by decide) he) (fun {G H x d1 Q U} s r q => by
    unfold keysD at q
    split at q
    · obtain ⟨l, xs, rfl, S⟩ := r.dct (ww := X.w) s
      exact ⟨l, xs, rfl, S.at_, fun p hp => q p G _ (Ext.newH s hp) hp (s.free hp) ⟨_, upd_same, S.rep⟩⟩
    · exact q.elim) ha
theorem sf_dictD {p : Pos} (hg : Gl X "dict") (hm : X.mg "dict" = none) (ha : SQ X W a f) (he : starEach [a] X.env = (false, eval a X.env) :: starEach [] X.env := by rfl) : SF X W (.Call (.Name "dict" p) [a] [] pos) (un dcpD f) :=
  sf_un (fun ha => pe_T1 call_dictD hg hm (by decide +kernel) ha (by decide) (by decide) he) (fun {G H x d1 Q U} s r q => by
    unfold dcpD at q
    split at q
    · obtain ⟨l, kvs, rfl, S⟩ := r.dks (ww := X.w) s
      exact ⟨l, kvs, rfl, .inl S.at_, fun p hp => q p G _ (Ext.newH s hp) hp (s.free hp) ⟨kvs, upd_same, S.key, S.nd, S.val⟩⟩
    · exact q.elim) ha
theorem eqS_of {G H : Hp} {x y : V} {d1 d2 : D} {Q : VK} {U : XK} (s : Vw G H) (r1 : RepQ X.K X.mg X.w G H x d1) (r2 : RepQ X.K X.mg X.w G H y d2) (p : PostE X.K X.mg X.w U G H Q (eqS d1 d2)) : rEqW X.K x y H Q := by
  unfold eqS at p
  split at p
  · cases hc : all2 (eqDp 50) _ _ with
    | false => rw [hc] at p; exact p.elim
    | true =>
      rw [hc] at p
      obtain ⟨a1, xs, rfl, h1, q1⟩ := r1.tup s
      obtain ⟨a2, ys, rfl, h2, q2⟩ := r2.tup s
      exact ⟨50, by decide, .inr ⟨a1, a2, xs, ys, rfl, rfl, h1, h2, all2_rep (eqDp_rep s 50) hc q1 q2⟩, p (.bl true) G H (.refl s) (.bl true)⟩
  · exact p.elim
theorem se_eqS (ha : SQ X W a f) (hb : SQ X W b g) (hu : X.A.units + 65 < cLine) : SE X W (.Compare a [.Eq] [b] pos) (bi eqS f g) := se_op2 (fun ha hb => pe_cmpR (op_eqW (Nat.lt_of_succ_lt hu)) ha hb (nomark _)) eqS_of ha hb
end
end Fx

set_option Elab.async false
set_option linter.all false
set_option maxRecDepth 100000
set_option maxHeartbeats 4000000
/-! Fx41: a memo: an attribute that is a dict whose keys are tuples of numbers, ascending, below 8. -/
namespace Fx
open PySem PySem.Spec PyProof.Rows L2 Sx
variable {K : PySem.W.Frag} {mg : Str → Option Value} {ww : World} {me : Addr}
theorem nodup_le {α : Type} [DecidableEq α] : ∀ (l m : List α), l.Nodup → (∀ x ∈ l, x ∈ m) → l.length ≤ m.length
  | [], m, _, _ => Nat.zero_le _
  | x :: l, m, hl, h => by
    rw [List.nodup_cons] at hl
    have := nodup_le l (m.erase x) hl.2 fun y hy => (List.mem_erase_of_ne fun z => hl.1 (by rw [← z]; exact hy)).mpr (h y (List.mem_cons_of_mem _ hy))
    rw [List.length_erase_of_mem (h x List.mem_cons_self)] at this
    have : 0 < m.length := List.length_pos_of_mem (h x List.mem_cons_self)
    rw [List.length_cons]; omega
theorem GoodC.len {S : Int → Bool} {kvs : List (List Key × V)} (g : GoodC S kvs) : kvs.length ≤ 256 := by
  have := nodup_le (kvs.map (·.1)) (asc8.map fun ns => ns.map (Sum.inl : Int → Key)) g.1 fun x hx => by
    obtain ⟨p, hp, rfl⟩ := List.mem_map.mp hx
    obtain ⟨ns, hn, e, _⟩ := g.2 p hp
    exact List.mem_map.mpr ⟨ns, hn, e.symm⟩
  rw [List.length_map, List.length_map] at this
  exact this
theorem GoodC.nil {S : Int → Bool} : GoodC S [] := ⟨List.nodup_nil, fun p h => absurd h List.not_mem_nil⟩
theorem valV_mem {κ : Type} [DecidableEq κ] {kvs : List (κ × V)} {k : κ} {v : V} (h : valV kvs k = some v) : (k, v) ∈ kvs := by
  unfold valV at h
  obtain ⟨p, hp, e⟩ := Option.map_eq_some_iff.mp h
  have h1 := List.find?_some hp
  have h2 := List.mem_of_find?_eq_some hp
  rw [decide_eq_true_iff] at h1
  cases p
  simp only at h1 e
  subst h1; subst e
  exact h2
theorem valV_notin {κ : Type} [DecidableEq κ] {kvs : List (κ × V)} {k : κ} (h : valV kvs k = none) : k ∉ kvs.map (·.1) := by
  intro m
  obtain ⟨p, hp, e⟩ := List.mem_map.mp m
  unfold valV at h
  rw [Option.map_eq_none_iff, List.find?_eq_none] at h
  exact h p hp (by simpa using e)
theorem codeInl : ∀ {a b : List Int}, a.map (Sum.inl : Int → Key) = b.map Sum.inl → a = b
  | [], [], _ => rfl
  | [], _ :: _, h => by cases h
  | _ :: _, [], h => by cases h
  | x :: xs, y :: ys, h => by
    rw [List.map_cons, List.map_cons, List.cons.injEq] at h
    rw [Sum.inl.inj h.1, codeInl h.2]
theorem GoodC.get {f : List Int → Bool} {kvs : List (List Key × V)} (g : GoodC (memS f) kvs) {ns : List Int} {v : V} (h : valV kvs (ns.map Sum.inl) = some v) : v = .bl (f ns) := by
  obtain ⟨ms, _, e, e2⟩ := g.2 _ (valV_mem h)
  rw [← codeInl e, memS_at] at e2
  exact e2
theorem GoodC.put0 {f : List Int → Bool} {kvs : List (List Key × V)} (g : GoodC (memS f) kvs) {ns : List Int} (hn : ns ∈ asc8) (h : valV kvs (ns.map Sum.inl) = none) : GoodC (memS f) (putK kvs (ns.map Sum.inl) (.bl (f ns))) := by
  rw [putK_new _ h]
  refine ⟨?_, fun p hp => ?_⟩
  · rw [List.map_append, List.nodup_append]
    refine ⟨g.1, by simp, fun a ha b hb z => ?_⟩
    simp at hb
    subst z
    rw [hb] at ha
    exact valV_notin h ha
  · rcases List.mem_append.mp hp with k | k
    · exact g.2 p k
    · rw [List.mem_singleton.mp k]
      exact ⟨ns, hn, rfl, by rw [memS_at]⟩
theorem GoodC.put' {f : List Int → Bool} {kvs : List (List Key × V)} (g : GoodC (memS f) kvs) {ns : List Int} (hn : ns ∈ asc8) : GoodC (memS f) (putK kvs (ns.map Sum.inl) (.bl (f ns))) := by
  cases h : valV kvs (ns.map Sum.inl) with
  | none => exact g.put0 hn h
  | some v =>
    have e : putK kvs (ns.map Sum.inl) (.bl (f ns)) = kvs.map fun kv => if kv.1 = ns.map Sum.inl then (kv.1, .bl (f ns)) else kv := by
      unfold putK
      rw [if_pos (by rw [valV_any, h]; rfl)]
    rw [e]
    refine ⟨?_, fun p hp => ?_⟩
    · rw [List.map_map]
      rw [show ((fun x : List Key × V => x.1) ∘ fun kv : List Key × V => if kv.1 = ns.map Sum.inl then (kv.1, V.bl (f ns)) else kv) = fun kv => kv.1 from by funext kv; show (if _ then _ else _ : List Key × V).1 = _; split <;> rfl]
      exact g.1
    · obtain ⟨q, hq, rfl⟩ := List.mem_map.mp hp
      by_cases hk : q.1 = ns.map Sum.inl
      · rw [if_pos hk]; exact ⟨ns, hn, hk, by rw [memS_at]⟩
      · rw [if_neg hk]; exact g.2 q hq
def slM (ρ : En) (i : Nat) : D := match ρ[i]? with
  | some (.sh d) => d
  | _ => .non
def isTr : Oc D → Bool
  | .ok (.bl b) => b
  | _ => false
def cchM (F : List D → Oc D) (i j : Nat) : En → Oc D := fun ρ => .ok (.cch fun ns => isTr (F [slM ρ i, slM ρ j, .tup (ns.map .int)]))
def intsD : List D → Option (List Int)
  | [] => some []
  | .int i :: ds => (intsD ds).map (i :: ·)
  | _ :: _ => none
theorem intsD_eq : ∀ {ds : List D} {ns : List Int}, intsD ds = some ns → ds = ns.map .int
  | [], ns, h => by cases h; rfl
  | d :: ds, ns, h => by
    cases d with
    | int i =>
      simp only [intsD] at h
      obtain ⟨ms, h1, rfl⟩ := Option.map_eq_some_iff.mp h
      rw [intsD_eq h1]; rfl
    | _ => cases h
theorem intsD_map : ∀ ns : List Int, intsD (ns.map .int) = some ns
  | [] => rfl
  | n :: ns => by simp [intsD, intsD_map ns]
theorem repL_intsM {G : Hp} : ∀ {us : List V} {ns : List Int}, RepL K mg ww G us (ns.map .int) → us = (ns.map (Sum.inl : Int → Key)).map kV
  | _, [], r => by cases r; rfl
  | _, n :: ns, r => by
    cases r with
    | cons r t => cases r; rw [repL_intsM t]; rfl
section
variable {X : Cx} {W : WX} {U : XK} {fre : Fr} {f g h : En → Oc D} {fs : En → Oc (List D)} {pos : Pos}
theorem se_cchM (F : List D → Oc D) (i j : Nat) : SE X W (.Dict [] [] pos) (cchM F i j) := PE.weak pe_dnewT fun σ H Q ⟨G, ρ, R, p⟩ => by
  intro q hq
  have gq : G q = none := R.sub.free hq
  refine p (.ref q) (L2.upd G q (.set (memS _) 0)) _ ⟨.of fun b u e => by rw [upd_ne (ne_of_none e hq)]; exact e, fun b u e => by rw [upd_ne (ne_of_none e gq)]; exact e, fun b u e => ?_, fun b u h g => ?_⟩ (.cch upd_same)
  · by_cases hb : b = q
    · subst hb; rw [upd_same] at e; cases e; exact ⟨[], upd_same, .nil⟩
    · rw [upd_ne hb] at e; exact (R.sub _ _ e).upd hb
  · rw [upd_ne (ne_of_none h hq)]; exact g
def memR (z : Bool) : Oc D → Oc D
  | .ok (.bl b) => chk (decide (b = z)) (.ok (.bl b))
  | _ => .st
theorem memR_ok {z : Bool} {o : Oc D} {P : Oc D → Prop} (hst : ¬ P .st) (h : P (memR z o)) : o = .ok (.bl z) ∧ P (.ok (.bl z)) := by
  unfold memR at h
  split at h
  · rename_i b
    obtain ⟨hc, h2⟩ := chk_some (P := P) hst h
    clear h
    obtain rfl := of_decide_eq_true hc
    exact ⟨rfl, h2⟩
  · exact absurd h hst
def memF (cn at_ f1 f2 : Str) (F : List D → Oc D) : List D → Oc D
  | [.obj c fs, .tup es] => match fs.lookup f1, fs.lookup f2, fs.lookup at_, intsD es with
    | some sd, some td, some (.cch f), some ns => chk (decide (c = cn)) (chk (decide (ns ∈ asc8)) (memR (f ns) (F [sd, td, .tup es])))
    | _, _, _, _ => .st
  | _ => .st
theorem memF_ok {cn at_ f1 f2 : Str} {F : List D → Oc D} {ds : List D} {P : Oc D → Prop} (hst : ¬ P .st) (h : P (memF cn at_ f1 f2 F ds)) : ∃ fs sd td f ns, ds = [.obj cn fs, .tup (ns.map .int)] ∧ fs.lookup f1 = some sd ∧ fs.lookup f2 = some td ∧ fs.lookup at_ = some (.cch f) ∧ ns ∈ asc8 ∧ F [sd, td, .tup (ns.map .int)] = .ok (.bl (f ns)) ∧ P (.ok (.bl (f ns))) := by
  unfold memF at h
  split at h
  · rename_i c fs es
    split at h
    · rename_i sd td f ns h1 h2 h3 h4
      obtain ⟨hc, h5⟩ := chk_some (P := P) hst h
      obtain ⟨hn, h6⟩ := chk_some (P := P) hst h5
      obtain ⟨hF, h7⟩ := memR_ok (P := P) hst h6
      clear h h5 h6
      obtain rfl := of_decide_eq_true hc
      obtain rfl := intsD_eq h4
      exact ⟨fs, sd, td, f, ns, rfl, h1, h2, h3, of_decide_eq_true hn, hF, h7⟩
    · exact absurd h hst
  · exact absurd h hst
def tMemo (K : PySem.W.Frag) (mg : Str → Option Value) (ww : World) (W : XK) (cn at_ f1 f2 : Str) (F : List D → Oc D) : TS := fun D σ H => ∃ G x fam es b us, Rel K mg ww G H [.sh fam, .sh (.tup es)] σ ∧ σ[0]? = some (some x) ∧ Rep K mg ww G x fam ∧ σ[1]? = some (some (.ref b)) ∧ G b = some (.tup us) ∧ RepL K mg ww G us es ∧ PostE K mg ww W G H D.rt (memF cn at_ f1 f2 F [fam, .tup es])
theorem pss_memo {cn at_ f1 f2 sf : Str} {F : List D → Oc D} {eN1 eN2 eN3 eC : Expr} {q1 q2 q3 a1 a2 a3 p1 p2 p3 p4 p5 p6 : Pos} (hu : X.A.units + 65 < cLine)
    (hS1 : PE X (.Name sf q1) (tVar 0)) (hS2 : PE X (.Name sf q2) (tVar 0)) (hS3 : PE X (.Name sf q3) (tVar 0)) (hN1 : PE X eN1 (tVar 1)) (hN2 : PE X eN2 (tVar 1)) (hN3 : PE X eN3 (tVar 1)) (hc : ClsA X.K X.mg at_ cn)
    (hC : SE X (up U) eC (cal F 3 [] (aC (un (fldD [cn] f1) (vo 0)) (aC (un (fldD [cn] f2) (vo 0)) (aC (vr 1) aN)))))
    (hm : behindInMarks .NotIn (.Attribute (.Name sf q1) at_ a1) = false := by rfl)
    (hs : swapsWith eC (some (.Subscript (.Attribute (.Name sf q2) at_ a2) eN2 p2)) p3.line X.env = pure false := by rfl) (hn : NoSl eN3 := by intro _ _; rfl)
    (hb1 : attributeBase (.Name sf q1) at_ X.env (eval (.Name sf q1) X.env) = eval (.Name sf q1) X.env := by rfl)
    (hb2 : attributeBase (.Name sf q2) at_ X.env (eval (.Name sf q2) X.env) = eval (.Name sf q2) X.env := by rfl)
    (hb3 : attributeBase (.Name sf q3) at_ X.env (eval (.Name sf q3) X.env) = eval (.Name sf q3) X.env := by rfl) :
    PSs X [.If (.Compare eN1 [.NotIn] [.Attribute (.Name sf q1) at_ a1] p1) [.Assign [.Subscript (.Attribute (.Name sf q2) at_ a2) eN2 p2] eC p3] [] p4, .Return (some (.Subscript (.Attribute (.Name sf q3) at_ a3) eN3 p5)) p6]
      (tMemo X.K X.mg X.w U cn at_ f1 f2 F) := by
  have hu1 : X.A.units + 1 < cLine := by omega
  refine PSs.weak (pss_cons (ps_if (pt_cmp (pc_dnotin hu1 hN1 (pe_fld hS1 hb1)) hm) (pss_one (ps_dput hu1 (pe_fld hS2 hb2) hN2 hC hs)) pss_nil) (pss_one (ps_ret (pe_dget hu1 (pe_fld hS3 hb3) hN3 hn)))) fun D σ H ⟨G, x, fam, es, b, us, R, h0, rx, h1, gb, ru, p⟩ => ?_
  obtain ⟨fs, sd, td, f, ns, e, l1, l2, l3, hns, hF, p2⟩ := memF_ok (P := PostE X.K X.mg X.w U G H D.rt) (fun z => z) p
  clear p
  rw [List.cons.injEq, List.cons.injEq] at e
  obtain ⟨rfl, e, _⟩ := e
  obtain rfl := Fx.D.tup.inj e
  cases rx with
  | @obj a Cc dx c fvs _ mc ga rf =>
  obtain ⟨v3, hv3, r3⟩ := rf.look l3
  cases r3 with
  | @cch q _ gq =>
  obtain ⟨k1, k2⟩ := hc Cc mc
  have eu : us = (ns.map (Sum.inl : Int → Key)).map kV := repL_intsM ru
  subst eu
  have ga' : H a = some (.ins Cc dx fvs) := R.sub _ _ ga
  have gb' : H b = some (.tup ((ns.map (Sum.inl : Int → Key)).map kV)) := R.sub _ _ gb
  obtain ⟨kvs, hq, good⟩ := R.sub _ _ gq
  refine ⟨.ref b, h1, .ref a, h0, a, Cc, dx, fvs, .ref q, rfl, ga', k1, k2, hv3, q, valV kvs (ns.map Sum.inl), rfl, DGet.t hq gb', !(valV kvs (ns.map Sum.inl)).isSome, rfl, ?_⟩
  have fin : ∀ {G' H' : Hp} {kvs' : List (List Key × V)}, Ext G H G' H' → H' q = some (.dT kvs') → GoodC (memS f) kvs' → (valV kvs' (ns.map Sum.inl)).isSome = true → (tDGet (tFld X.K (tVar 0) at_) (tVar 1)) σ H' D.rt := by
    intro G' H' kvs' xx hq' good' hv'
    obtain ⟨vv, hvv⟩ := Option.isSome_iff_exists.mp hv'
    have eb := good'.get hvv
    subst eb
    exact ⟨.ref a, h0, a, Cc, dx, fvs, .ref q, rfl, xx.gh _ _ (xx.gg _ _ ga), k1, k2, hv3, .ref b, h1, q, _, rfl, DGet.t hq' (xx.gh _ _ (xx.gg _ _ gb)) |> (fun z => by rw [hvv] at z; exact z), p2 _ G' H' xx (.bl _)⟩
  cases hv : valV kvs (ns.map Sum.inl) with
  | some vv =>
    exact fin (.refl R.sub) hq good (by rw [hv]; rfl)
  | none =>
    refine ⟨G, _, R, ?_⟩
    have ev : cal F 3 [] (aC (un (fldD [cn] f1) (vo 0)) (aC (un (fldD [cn] f2) (vo 0)) (aC (vr 1) aN))) [.sh (.obj cn fs), .sh (.tup (ns.map .int))] = .ok (.bl (f ns)) := by
      simp [cal, aC, aN, un, fldD, vo, vr, l1, l2, hF]
    rw [ev]
    intro v G2 H2 x2 rv
    cases rv
    have gq2 := x2.gg _ _ gq
    obtain ⟨kvs2, hq2, good2⟩ := x2.gh _ _ gq2
    refine ⟨.ref a, h0, a, Cc, dx, fvs, .ref q, rfl, x2.gh _ _ (x2.gg _ _ ga), k1, k2, hv3, .ref b, h1, q, _, rfl, DPut.t hq2 (x2.gh _ _ (x2.gg _ _ gb)) (by have := good2.len; rw [sizeLine_val]; omega), ?_⟩
    have x3 : Ext G2 H2 G2 (L2.upd H2 q (.dT (putK kvs2 (ns.map Sum.inl) (.bl (f ns))))) := by
      refine ⟨⟨fun c o e n m => ?_, fun c o e => ?_, fun P t => ?_⟩, .refl _, fun c o e => ?_, fun _ _ _ g => g⟩
      · rw [upd_ne fun z => by rw [z, hq2] at e; cases e; exact m _ rfl]; exact e
      · by_cases hcq : c = q
        · rw [hcq]; exact ⟨_, upd_same⟩
        · exact ⟨o, by rw [upd_ne hcq]; exact e⟩
      · exact t.ext (fun ps e => by rw [upd_ne fun z => by rw [z, hq2] at e; cases e]; exact e) fun c q' e => by rw [upd_ne fun z => by rw [z, hq2] at e; cases e]; exact e
      · by_cases hcq : c = q
        · subst hcq
          rw [gq2] at e; cases e
          exact ⟨_, upd_same, good2.put' hns⟩
        · exact (x2.gh _ _ e).upd hcq
    exact fin (x2.trans x3) upd_same (good2.put' hns) (by rw [valV_put, if_pos rfl]; rfl)
end
end Fx

set_option Elab.async false
set_option linter.all false
set_option maxRecDepth 100000
set_option maxHeartbeats 4000000
/-! Fx42: the memo's method and its caller: r = tuple(..); if not self.m(r): return None; return r. -/
namespace Fx
open PySem PySem.Spec PyProof.Rows L2 Sx
variable {K : PySem.W.Frag} {mg : Str → Option Value} {ww : World} {me : Addr}
def spMm (K : PySem.W.Frag) (mg : Str → Option Value) (ww : World) (F : List D → Oc D) : Sp := fun vs H Q E => vs.length = 2 ∧ ∃ G x fam b us es, vs = [x, .ref b] ∧ Vw G H ∧ Tabs K G H ∧ Rep K mg ww G x fam ∧ G b = some (.tup us) ∧ RepL K mg ww G us es ∧ PostE K mg ww E G H Q (F [fam, .tup es])
structure KnMm (P : Program) (w : World) (K : PySem.W.Frag) (mg : Str → Option Value) (base : Heap) (k : Nat) (c m : Str) (F : List D → Oc D) : Prop where
  ex : ∃ (C f : Addr) (fd : FuncData) (ps : List Str), Cls K C ∧ Meth K C m f ∧ FnOk P w K mg base (L2.CX P w) k f fd ps (spMm K mg w F) ∧ mg c = some (.ref C) ∧ Binds K fd ps []
abbrev XKnMm (X : Cx) := KnMm X.prog X.w X.K X.mg X.base
section
variable {P : Program} {w : World} {base : Heap}
theorem fnMm_ok {x qual : Str} {pa : Arguments} {bd : List Stmt} {sc : Scope} {dvs : List V} {kws : List (Str × V)} {f : Addr} {fd : FuncData} {n1 n2 : Str} {k : Nat} {cn at_ f1 f2 : Str} {F : List D → Oc D} (FD : FunD K x qual pa bd sc dvs kws f fd) (S : FnScope [n1, n2] [n1, n2] sc)
    (hb : ∀ (cdv : Value) (A : Around) (outer : List Env) (s : Shared) (H : Hp) (E : XK), fd.code = cdv → Room k (A.deeper (envOfC qual sc s.heap.objs.size f cdv)) → Ctx (cxOf (L2.CX P w) P w K mg base [n1, n2] qual sc f cdv A outer s H E) (up E) →
      PSs (cxOf (L2.CX P w) P w K mg base [n1, n2] qual sc f cdv A outer s H E) bd (tMemo K mg w E cn at_ f1 f2 F)) : FnOk P w K mg base (L2.CX P w) (k + 1) f fd [n1, n2] (spMm K mg w (memF cn at_ f1 f2 F)) := by
  obtain ⟨oc, od, dV, kV, doc, pm, an, cdv, ct, osl, rfl, lk, hcd, _, _⟩ := FD.ex
  refine fn_of lk hcd S (fun vs H Q E h => h.1) fun A outer s H vs Q E hr h => ?_
  obtain ⟨_, G, v, fam, b, us, es, rfl, sG, tb, rv, gb, ru, p⟩ := h
  refine ⟨_, hb cdv A outer s H E rfl hr (ctx_def S hr), ?_⟩
  have R := rel_start (N := [n1, n2]) sG tb (.cons rv (.cons (.tup (SqT.of gb) ru) .nil))
  exact ⟨G, v, fam, es, b, us, R, rfl, rv, rfl, gb, ru, p⟩
end
def PostK (K : PySem.W.Frag) (mg : Str → Option Value) (ww : World) (W : XK) (G H : Hp) (Q : VK) : Oc D → Prop
  | .st => False
  | .ok d => match d with
    | .tup ds => ∀ b us G' H', Ext G H G' H' → G' b = some (.tup us) → RepL K mg ww G' us ds → Q (.ref b) H'
    | _ => False
  | .ex c => ∀ C G' H', Ext G H G' H' → mg c = some (.ref C) → W (.ref C) none H'
def tK (K : PySem.W.Frag) (mg : Str → Option Value) (ww : World) (W : WX) (f : En → Oc D) : TE := fun σ H Q => ∃ G ρ, Rel K mg ww G H ρ σ ∧ PostK K mg ww (fun c d H' => W c d σ H') G H Q (f ρ)
abbrev SK (X : Cx) (W : WX) (e : Expr) (f : En → Oc D) : Prop := PE X e (tK X.K X.mg X.w W f)
section
variable {X : Cx} {W : WX} {U : XK} {fre : Fr} {a b c e : Expr} {es : List Expr} {f g h : En → Oc D} {pos apos p : Pos}
theorem sk_tuple (hg : Gl X "tuple") (hm : X.mg "tuple" = none) (ha : SF X W a f) (he : starEach [a] X.env = (false, eval a X.env) :: starEach [] X.env := by rfl) : SK X W (.Call (.Name "tuple" p) [a] [] pos) (un tupleD f) :=
  PE.weak (pe_T1 call_tuple_of hg hm (by decide +kernel) ha (by decide) (by decide) he) fun σ H Q ⟨G, ρ, R, p⟩ => by
    refine ⟨G, ρ, R, ?_⟩
    revert p
    unfold un
    cases f ρ with
    | st => exact id
    | ex c => exact id
    | ok d =>
      intro p q G1 H1 x1 hq gq ow
      simp only [bd_ok] at p
      unfold tupleD at p
      cases d with
      | lst ds =>
        obtain ⟨xs, hl, rl⟩ := ow
        refine ⟨q, xs, rfl, .inl ⟨SqL.of hl, fun t ht => ?_⟩⟩
        have x2 := Ext.new (o := .tup xs) x1.gh ht
        exact p t xs _ _ (x1.trans x2) upd_same (rl.same x2.gg)
      | tup ds => exact ow.elim
      | fz ds => exact ow.elim
      | _ => exact p.elim
def memTl (fl : En → Oc D) (s j : Nat) (c m : Str) (F : List D → Oc D) : En → Oc Res := fun ρ => bd (fl ρ) fun d => match d, ρ[s]? with
  | .tup ds, some (.sh fam) => chk (isOb c m fam && decide (j < ρ.length)) (bd (F [fam, .tup ds]) fun r => match r with
    | .bl b => .ok (.rt (if b then .tup ds else .non))
    | _ => .st)
  | _, _ => .st
theorem sss_memTl {pl : Sem Bool} {k j s : Nat} {cn m rn sf : Str} {F : List D → Oc D} {p1 p2 p3 p4 p5 p6 p7 p8 p9 p10 : Pos} {kk : Nat} (kn : XKnMm X k cn m F) (C : Ctx X (up U)) (hr : Room k X.A) (hi : X.N[j]? = some rn) (hx : Loc X.env.scope rn) (hsj : s ≠ j)
    (ha : SK X (up U) a f) (hS : PE X (.Name sf p1) (tVar s)) (hN1 : PE X (.Name rn p2) (tVar j)) (hN2 : PE X (.Name rn p3) (tVar j))
    (hs : swapsWith a (some (.Name rn p4)) pos.line X.env = pure false := by rfl) (hf : X.fn rn = true ∨ X.env.scope.names.lookup rn = some .local := by first | exact .inl rfl | exact .inr rfl | assumption)
    (hst : starEach [.Name rn p2] X.env = (false, eval (.Name rn p2) X.env) :: starEach [] X.env := by rfl) (hpl : (backTo p5 (starEach [] X.env)).any (·.1) = false := by rfl)
    (ht : eval (.Call (.Attribute (.Name sf p1) m apos) [.Name rn p2] [] p5) X.env = (do
      let ov ← eval (.Name sf p1) X.env
      standAt apos.atName
      let (g, first) ← holding [ov] (getMethod ov m pl)
      callWith p5 g first (backTo p5 (starEach [.Name rn p2] X.env)) (backToKw p5 (keywordEach [] X.env))) := by rfl)
    (hw : ∀ whole, isTrue (.Call (.Attribute (.Name sf p1) m apos) [.Name rn p2] [] p5) X.env whole = (do let v ← whole; standAt (Expr.pos (.Call (.Attribute (.Name sf p1) m apos) [.Name rn p2] [] p5)); holding [v] (truthy v)) := by intro _; rfl) :
    SSs X U .s [.Assign [.Name rn p4] a pos, .If (.UnaryOp .Not (.Call (.Attribute (.Name sf p1) m apos) [.Name rn p2] [] p5) p6) [.Return (some (.Constant .none kk p7)) p8] [] p9, .Return (some (.Name rn p3)) p10] (memTl f s j cn m F) := by
  obtain ⟨Cl, fa, fd, ps, cl, mt, ok, gm, bi⟩ := kn.ex
  refine PSs.weak (pss_cons (ps_set C.nd hi hx ha hs hf) (pss_cons (ps_if (pt_not (pt_val (pe_methW hS cl mt ok hr bi C.tk (pa_cons hN1 pa_nil hst) hst hpl ht) hw)) (pss_one (ps_ret pe_non)) pss_nil) (pss_one (ps_ret hN2)))) fun D σ H ⟨G, ρ, me, G0, H0, B, p⟩ => ?_
  refine ⟨G, ρ, B.rel, ?_⟩
  revert p
  unfold memTl
  cases f ρ with
  | st => exact id
  | ex c => exact fun p C1 G' H' x mc => p C1 G' H' (B.ext.trans x) mc
  | ok d =>
    intro p
    simp only [bd_ok] at p
    cases d with
    | tup ds =>
      intro b us G1 H1 x1 gb ru
      cases hρ : ρ[s]? with
      | none => rw [hρ] at p; exact p.elim
      | some sl =>
        cases sl with
        | sh fam =>
          rw [hρ] at p
          simp only at p
          obtain ⟨c1, p1⟩ := chk_some (P := PostS X.K X.mg X.w U .s me G0 H0 D) (fun z => z) p
          rw [Bool.and_eq_true] at c1
          have hj : j < σ.length := by rw [B.rel.len]; exact of_decide_eq_true c1.2
          obtain ⟨fs, rfl, hl⟩ := isOb_ok c1.1
          obtain ⟨o, ho, v, rfl, rv⟩ := (B.rel.ext x1).get hρ
          cases rv with
          | @obj ad Cc dx c' fvs _ mc ga rf =>
            rw [gm] at mc
            cases mc
            have hσ : (σ.set j (some (.ref b)))[s]? = some (some (.ref ad)) := by rw [List.getElem?_set_ne (Ne.symm hsj)]; exact ho
            have hσj : (σ.set j (some (V.ref b)))[j]? = some (some (.ref b)) := List.getElem?_set_self hj
            refine ⟨.ref ad, hσ, ad, dx, fvs, rfl, x1.gh _ _ ga, rf.lookN hl, .ref b, hσj, rfl, G1, .ref ad, _, b, us, ds, rfl, x1.gh, (B.rel.ext x1).tabs, .obj gm ga rf, gb, ru, ?_⟩
            revert p1
            cases F [.obj cn fs, .tup ds] with
            | st => exact id
            | ex c => exact fun p C1 G' H' x mc => p C1 G' H' ((B.ext.trans x1).trans x) mc
            | ok r =>
              intro p1 v2 G2 H2 x2 r2
              simp only [bd_ok] at p1
              cases r with
              | bl bb =>
                cases r2
                refine ⟨bb, rfl, ?_⟩
                have xx := (B.ext.trans x1).trans x2
                cases bb with
                | true => exact ⟨.ref b, hσj, p1 (.ref b) G2 H2 xx (.tup (SqT.of (x2.gg _ _ gb)) (ru.same x2.gg))⟩
                | false => exact p1 .non G2 H2 xx .non
              | _ => exact p1.elim
        | _ => rw [hρ] at p; exact p.elim
    | _ => exact p.elim
end
end Fx

set_option Elab.async false
set_option linter.all false
set_option maxRecDepth 100000
set_option maxHeartbeats 4000000
/-! Fx43: {elt for target in iter}, the elements nested tuples. -/
namespace Fx
open PySem PySem.Spec PyProof.Rows L2 Sx
variable {K : PySem.W.Frag} {mg : Str → Option Value} {ww : World} {me : Addr}
def scL (T : Tg) (own : List Nat) (el : En → Oc D) (ρ : En) : List D → List D → Oc (List D)
  | acc, [] => .ok acc
  | acc, d :: ds => bd (noex (bindT T d (wipeE ρ own))) fun ρ1 => bd (noex (el ρ1)) fun y => match addSR acc y with
    | .ok (.set z) => scL T own el ρ z ds
    | _ => .st
def scD (T : Tg) (own : List Nat) (src : En → Oc (List D)) (el : En → Oc D) : En → Oc D := fun ρ => bd (src ρ) fun ds => bd (scL T own el ρ [] ds) fun z => .ok (.set z)
theorem scL_cons {T : Tg} {own : List Nat} {el : En → Oc D} {ρ : En} {acc ds zs : List D} {d : D} (h : scL T own el ρ acc (d :: ds) = .ok zs) : ∃ ρ1 y z, bindT T d (wipeE ρ own) = .ok ρ1 ∧ el ρ1 = .ok y ∧ addSR acc y = .ok (.set z) ∧ scL T own el ρ z ds = .ok zs := by
  unfold scL at h
  cases h1 : noex (bindT T d (wipeE ρ own)) with
  | st => rw [h1] at h; cases h
  | ex c => exact (noex_ne h1).elim
  | ok ρ1 =>
    rw [h1] at h
    simp only [bd_ok] at h
    cases h2 : noex (el ρ1) with
    | st => rw [h2] at h; cases h
    | ex c => exact (noex_ne h2).elim
    | ok y =>
      rw [h2] at h
      simp only [bd_ok] at h
      split at h
      · rename_i z hz
        exact ⟨ρ1, y, z, noex_eq h1, noex_eq h2, hz, h⟩
      · cases h
theorem scL_noex {T : Tg} {own : List Nat} {el : En → Oc D} {ρ : En} {c : Str} : ∀ {ds acc : List D}, scL T own el ρ acc ds ≠ .ex c
  | [], acc, h => by cases h
  | d :: ds, acc, h => by
    unfold scL at h
    cases h1 : noex (bindT T d (wipeE ρ own)) with
    | st => rw [h1] at h; cases h
    | ex c => exact noex_ne h1
    | ok ρ1 =>
      rw [h1] at h
      simp only [bd_ok] at h
      cases h2 : noex (el ρ1) with
      | st => rw [h2] at h; cases h
      | ex c => exact noex_ne h2
      | ok y =>
        rw [h2] at h
        simp only [bd_ok] at h
        split at h
        · exact scL_noex h
        · cases h
section
variable {X : Cx} {W : WX} {U : XK} {it tg elt : Expr} {pos : Pos} {tgt : Tg}
theorem Rep.kb {G H : Hp} {b : Addr} {d : D} {k : NestedKey} (sm : Vw G H) (r : Rep X.K X.mg X.w G (.ref b) d) (h : keyN d = some k) (hd : k.depth ≤ 8) : Gx.KB X H b k := fun s H0 scope ce fp => Rep.ka (X := X.blk s H0 scope ce fp) sm r h hd
theorem addS_of {G H : Hp} {l : Addr} {ds z : List D} {d : D} {v : V} (sm : Vw G H) (ow : OwAt X.K X.mg X.w G H l (.set ds)) (rd : Rep X.K X.mg X.w G v d) (h : addSR ds d = .ok (.set z)) :
    ∃ (b : Addr) (k : NestedKey) (L : Mem), v = .ref b ∧ H l = some (SetNO X.w l L) ∧ Gx.KB X H b k ∧ (∀ p ∈ L, Gx.KB X H p.1 p.2) ∧ L.length + 1 ≤ 1000 ∧
      ∀ L' : Mem, (k ∈ L.map (·.2) → L' = L) → (k ∉ L.map (·.2) → L'.Perm ((b, k) :: L)) → OwAt X.K X.mg X.w G (L2.upd H l (SetNO X.w l L')) l (.set z) := by
  unfold addSR at h
  cases hk : inK ds d with
  | none => rw [hk] at h; cases h
  | some t =>
    rw [hk] at h
    simp only at h
    cases hc : decide (ds.length + 1 ≤ 1000) with
    | false => rw [hc] at h; cases h
    | true =>
      rw [hc] at h
      simp only [chk_true] at h
      obtain ⟨ks, k, h1, h2, ht, hd, rfl⟩ := inK_some hk
      obtain ⟨b, rfl⟩ := tup_ref rd ht
      obtain ⟨L, M, hl, pm, rl, kl, dl⟩ := ow
      have e0 := Fx.D.set.inj (Oc.ok.inj h)
      have S : SetQ X X.w G H l L M ds := ⟨hl, pm, rl, kl, dl⟩
      have ek : ks = M.map (·.2) := Option.some.inj (h1.symm.trans kl)
      have few : L.length + 1 ≤ 1000 := by
        have e1 : M.length = ds.length := by have := rl.length; simpa using this
        have := of_decide_eq_true hc
        rw [pm.length_eq, e1]; exact this
      refine ⟨b, k, L, rfl, hl, rd.kb sm h2 hd, fun p hp s H0 scope ce fp => ?_, few, fun L' z1 z2 => ?_⟩
      · have S' : SetQ (X.blk s H0 scope ce fp) X.w G H l L M ds := ⟨hl, pm, rl, kl, dl⟩
        exact S'.ka sm p hp
      · by_cases hm : k ∈ L.map (·.2)
        · have hm2 : k ∈ ks := by rw [ek]; exact S.mem.mp hm
          rw [if_pos (by simpa using hm2)] at e0
          subst e0
          rw [z1 hm]
          exact ⟨L, M, upd_same, pm, rl, kl, dl⟩
        · have hm2 : ¬ k ∈ ks := by rw [ek]; exact fun z => hm (S.mem.mpr z)
          rw [if_neg (by simpa using hm2)] at e0
          subst e0
          refine ⟨L', M ++ [(b, k)], upd_same, (z2 hm).trans ((pm.cons _).trans (List.perm_append_singleton _ _).symm), ?_, ?_, ?_⟩
          · rw [List.map_append]; exact rl.append (.cons rd .nil)
          · rw [List.map_append]; exact keyNs_app kl h2
          · rw [List.map_append]
            intro k' hk'
            rcases List.mem_append.mp hk' with z | z
            · exact dl k' z
            · rw [List.mem_singleton.mp z]; exact hd
theorem tSn_in {T : Tg} {own : List Nat} {src : En → Oc (List D)} {el : En → Oc D} {σ : L2.St} {H : Hp} {Q : VK} (ho : ∀ i ∈ T.slots, i ∈ own) (q : tF X.K X.mg X.w W (scD T own src el) σ H Q) :
    Cb.tSn X (tI X.K X.mg X.w W src) (gT X.K T) (tE X.K X.mg X.w E0W el) own σ H Q := by
  obtain ⟨G, ρ, R, p⟩ := q
  refine ⟨G, ρ, R, ?_⟩
  revert p
  unfold scD
  cases src ρ with
  | st => exact id
  | ex c => exact id
  | ok ds =>
    intro p J G1 H1 x1 Y D hD
    simp only [bd_ok] at p
    have g1 : G1 D = none := x1.gh.free hD
    cases hall : scL T own el ρ [] ds with
    | st => rw [hall] at p; exact p.elim
    | ex c => exact absurd hall scL_noex
    | ok zs =>
      rw [hall] at p
      simp only [bd_ok] at p
      have x0 := Ext.newH (o := SetNO X.w D []) x1.gh hD
      refine ⟨fun i m H => m = ds.length - i ∧ i ≤ ds.length ∧ ∃ G acc, Ext G1 H1 G H ∧ G D = none ∧ OwAt X.K X.mg X.w G H D (.set acc) ∧ scL T own el ρ acc (ds.drop i) = .ok zs,
        ⟨ds.length, rfl, Nat.zero_le _, G1, [], x0, g1, ⟨[], [], upd_same, .nil, .nil, rfl, fun k hk => absurd hk List.not_mem_nil⟩, hall⟩, ?_⟩
      rintro i m H ⟨rfl, hi, G, acc, x, gD, ow, hw⟩
      have RR : Rel X.K X.mg X.w G H ρ σ := (R.ext x1).ext x
      by_cases hlt : i < ds.length
      case neg =>
        have e : i = ds.length := by omega
        subst e
        rw [List.drop_length] at hw
        cases hw
        exact .inl ⟨Y.stop G H x.gg x.gh, p D G H (x1.trans x) (x1.hh.free hD) gD ow⟩
      refine .inr ⟨Y.go i G H hlt x.gg x.gh, fun v H' y => ?_⟩
      have hd : ds[i]? = some ds[i] := List.getElem?_eq_getElem hlt
      rw [show ds.drop i = ds[i] :: ds.drop (i + 1) from List.drop_eq_getElem_cons hlt] at hw
      generalize ds[i] = d at hd hw
      obtain ⟨G2, x2, r2⟩ := Y.yld i d v G H H' hd x.gg x.gh y
      obtain ⟨ρ1, yd, z, h1, h2, h3, h4⟩ := scL_cons hw
      have R2 : Rel X.K X.mg X.w G2 H' (wipeE ρ own) (L2.wipe σ own) := (RR.ext x2).wipe own
      refine gT_rel R2 r2 h1 fun us R3 => ⟨setT_wipe ho, G2, ρ1, R3, ?_⟩
      rw [h2]
      intro yv G3 H3 x3 ry
      have x23 : Ext G H G3 H3 := x2.trans x3
      have x13 : Ext G1 H1 G3 H3 := x.trans x23
      obtain ⟨u, hu⟩ := ow.ex
      have gD3 : G3 D = none := x23.nc D u hu gD
      have ow3 : OwAt X.K X.mg X.w G3 H3 D (.set acc) := ow.same x23.gg fun o q n m => x23.hh.ob _ _ q n m
      obtain ⟨b, k, L, e1, e2, e3, e4, e5, e6⟩ := addS_of x3.gh ow3 ry h3
      refine ⟨b, k, L, e1, e2, e3, e4, e5, fun L' z1 z2 => ⟨ds.length - (i + 1), by omega, rfl, hlt, G3, z, ?_, gD3, e6 L' z1 z2, h4⟩⟩
      exact ⟨x13.hh.upd hD ow3.notFn, x13.gg, fun c u e => (x13.gh _ _ e).upd (ne_of_none e gD3), x13.nc⟩
theorem sf_sc {scope : Scope} {own : List (Str × Nat)} {T : Tg} {src : En → Oc (List D)} {el : En → Oc D} (C : Ctx X W) (hi : SI X W tg it src) (ok : BlkOk X.N X.env.scope scope own)
    (hg : ∀ (s : Shared) (H : Hp) (C : Addr) (cl : List (Str × Addr)) (fp : List Addr), ST (X.blk s H scope (compEnvC scope cl C X.env) fp) tg T)
    (he : ∀ (s : Shared) (H : Hp) (C : Addr) (cl : List (Str × Addr)) (fp : List Addr), SE (X.blk s H scope (compEnvC scope cl C X.env) fp) E0W elt el) (ho : ∀ i ∈ T.slots, i ∈ own.map (·.2)) (hs : ∀ x, foldedSetIterable it X.env x = pure x := by intro _; rfl) :
    SF X W (.SetComp elt [⟨tg, it, [], 0⟩] scope pos) (scD T (own.map (·.2)) src el) := PE.weak (Cb.pe_sn C.calm C.units C.nd hi ok hg he hs) fun σ H Q q => tSn_in ho q
end
end Fx

set_option Elab.async false
set_option linter.all false
set_option maxRecDepth 100000
/-! Fx44: any(d.values()), all(d.values()), d a dict whose keys are nested tuples. -/
namespace Fx
open PySem PySem.Spec PyProof.Rows L2 Sx
variable {K : PySem.W.Frag} {mg : Str → Option Value} {ww : World} {me : Addr}
def ValsO (p d : Addr) : HO := .ext fun h => h.IsValuesView p d
section
variable {X : Cx} {W : WX} {o : Expr} {f : En → Oc D} {apos cpos pos p : Pos} {to : TE} {pins : List (Addr × Obj)} {σ : L2.St} {H : Hp} {s : Shared}
theorem dctRaw {a : Addr} {xs : List Ent} (I : Inv X pins σ H s) (ha : H a = some (DctNO X.w a xs)) : ∃ (ys : List EntW) (es : Array DictEntry) (ep : Nat), Paired RelEnt xs ys ∧ s.heap.DictRaw a es ep ∧ es.toList = ys.map (entW X.w) ∧ (a == sysModules) = false := by
  obtain ⟨⟨ys, r, o, es, ep, h1, h2, h3, h4⟩, _, _, ns⟩ := (show DctN0 X.w s.heap a xs from (I.hok a _ ha).1)
  exact ⟨ys, es, ep, r, ⟨o, h1, h2, h3⟩, h4, ns⟩
def tVals (w : World) (to : TE) : TE := fun σ H Q => to σ H fun x H1 => ∃ (a : Addr) (xs : List Ent), x = .ref a ∧ H1 a = some (DctNO w a xs) ∧ ∀ p, H1 p = none → Q (.ref p) (L2.upd H1 p (ValsO p a))
theorem pe_vals (ho : PE X o to) (hbase : attributeBase o "values" X.env (eval o X.env) = eval o X.env) (hline : (apos.endLine == cpos.line) = true) : PE X (.Call (.Attribute o "values" apos) [] [] cpos) (tVals X.w to) := by
  constructor
  intro pins s σ H Q I h
  refine wpAny_Call_method0_late hbase hline (thn (ho.run pins s σ H _ I h) ?_)
  rintro v s1 ⟨x, H1, I1, rx, a, xs, rfl, ha, q⟩
  cases rx
  obtain ⟨ys, es, ep, r, raw, he, ns⟩ := dctRaw I1 ha
  obtain ⟨ob, e1, e2, e3⟩ := id raw
  refine ⟨"dict", _, PySem.F.plainAttrs_dict, PySem.F.slot_dict_values, PySem.F.type_dict_values, ⟨ob, e1, e2.1⟩, fun b e => by cases e; exact ⟨ob, e1, e2.2.1⟩, Calls.callWith_builtin rfl (PySem.evalArgs_none ?_)⟩
  refine call_meetsIn PySem.F.slot_dict_values raw.typeIs PySem.F.entry_dict_values (PySem.F.args_dict_values_1 _) (meets_dict_values_raw a ns) ⟨⟨es, ep, raw⟩, ?_⟩
  refine ⟨.ref s1.heap.objs.size, L2.upd H1 s1.heap.objs.size (ValsO s1.heap.objs.size a), ?_, rfl, q _ (I1.hok.fresh (Nat.le_refl _))⟩
  have nw : (s1.heap.push { cls := .type "dict_values", data := .fields #[.ref a] }).get? s1.heap.objs.size = some { cls := .type "dict_values", data := .fields #[.ref a] } := Heap.get?_push_size _ rfl
  exact I1.laid (t' := s1.toks) (fun b u e => Heap.get?_push_of_some _ e) (Nat.le_refl _) ⟨⟨_, nw, rfl, rfl⟩, ⟨_, nw⟩, fun h1 h2 z k => by
    obtain ⟨ob, z1, z2⟩ := z
    exact ⟨ob, k ob z1, z2⟩⟩
def rBools (w : World) (c : List Bool → Bool) : List V → Hp → VK → Prop := fun us H Q => ∃ (p a : Addr) (xs : List Ent) (bs : List Bool), us = [.ref p] ∧ H p = some (ValsO p a) ∧ H a = some (DctNO w a xs) ∧ (xs.map (·.2.2)) = bs.map V.bl ∧ Q (.bl (c bs)) H
theorem bools_at : ∀ {xs : List Ent} {ys : List EntW} {bs : List Bool}, Paired RelEnt xs ys → (xs.map (·.2.2)) = bs.map V.bl → ys.map (·.2.2) = bs.map Value.bool
  | _, _, [], .nil, _ => rfl
  | _, _, b :: bs, .nil, h => by cases h
  | _, _, [], .cons _ _, h => by cases h
  | _, _, b :: bs, .cons (b := y) r t, h => by
    rw [List.map_cons, List.map_cons, List.cons.injEq] at h
    have k := r.2.2
    rw [h.1] at k
    have k : y.2.2 = Value.bool b := k
    rw [List.map_cons, List.map_cons, k, bools_at t h.2]
theorem walkV {a q : Addr} {xs : List Ent} {bs : List Bool} {A : Around} {E : Value → Shared → Prop} {R : Value → Shared → Prop} (hh : A.handled = none) (I : Inv X pins σ H s) (hp : H q = some (ValsO q a)) (ha : H a = some (DctNO X.w a xs)) (hb : (xs.map (·.2.2)) = bs.map V.bl) (z : Bool)
    (k : ∀ s', Inv X pins σ H s' → R (.bool z) s') (c : (Nat → Bool) → Nat → Bool) (hc : c (fun i => bs.getD i false) bs.length = z) :
    wpAny (model X.prog X.w) A (pyIter (.ref q)) (fun it s2 => ∃ I fp wr n P St tr, it = .ref I ∧ Walks X.prog X.w A I fp wr n P St ∧ St 0 s2.heap ∧ TruthOf X.prog X.w A P tr ∧ ∀ h' tk, (∀ b o, b ∉ wr → s2.heap.get? b = some o → h'.get? b = some o) → R (.bool (c tr n)) { s2 with heap := h', toks := tk }) E s := by
  obtain ⟨ys, es, ep, r, raw, he, ns⟩ := dctRaw I ha
  have view : s.heap.IsValuesView q a := (I.hok q _ hp).1
  have la : a < s.heap.objs.size := let ⟨_, e, _⟩ := raw; Heap.lt_size e
  have vals := bools_at r hb
  have size : es.size = bs.length := by
    have e1 : ys.length = bs.length := by have := congrArg List.length vals; simpa using this
    rw [← Array.length_toList, he, List.length_map, e1]
  refine wpAny_pyIter_values_raw view raw ⟨s.heap.objs.size, [s.heap.objs.size, a], [s.heap.objs.size], es.size, _, _, fun i => bs.getD i false, rfl, Walks.rawValues hh s.heap.objs.size a (Nat.ne_of_lt la) es ep, ⟨⟨_, Heap.get?_push_size _ rfl, rfl, rfl⟩, raw.at fun o e => Heap.get?_push_of_some _ e⟩, ?_, ?_⟩
  · rintro i v s' Q E' ⟨hi, rfl⟩ q
    have hi' : i < bs.length := by rw [← size]; exact hi
    have e1 : es[i] = (ys.map (entW X.w))[i]'(by rw [← he, Array.length_toList]; exact hi) := by
      rw [← Array.getElem_toList]; simp only [he]
    have e2 : es[i].val = Value.bool (bs.getD i false) := by
      rw [e1, List.getElem_map]
      have hy : i < ys.length := by have := congrArg List.length vals; simp at this; omega
      have := congrArg (fun l => l[i]?) vals
      simp only [List.getElem?_map, List.getElem?_eq_getElem hy, List.getElem?_eq_getElem hi', Option.map_some, Option.some.injEq] at this
      rw [List.getD_eq_getElem?_getD, List.getElem?_eq_getElem hi', Option.getD_some]
      exact this
    rw [e2]
    exact wpAny_truthy_bool q
  · intro h' tk keep
    rw [size, hc]
    refine k _ (I.kept (t' := tk) fun b u e => keep b u ?_ (Heap.get?_push_of_some _ e))
    rw [List.mem_singleton]
    exact Nat.ne_of_lt (Heap.lt_size e)
theorem cr_anyV (hc : X.calm = true) : CallR X (.builtin "any") (rBools X.w fun bs => bs.any id) := by
  rintro pins s σ H us ws Q I r ⟨q, a, xs, bs, rfl, hp, ha, hb, k⟩
  rw [Vals.ref1 r]
  exact call_any_walk (walkV (A := X.A.in1) (I.ok.hd hc) I hp ha hb (bs.any id) (fun s' I' => ⟨.bl (bs.any id), H, I', rfl, k⟩) (fun tr n => (List.range n).any tr) (PySem.W.range_any id false bs))
theorem cr_allV (hc : X.calm = true) : CallR X (.builtin "all") (rBools X.w fun bs => bs.all id) := by
  rintro pins s σ H us ws Q I r ⟨q, a, xs, bs, rfl, hp, ha, hb, k⟩
  rw [Vals.ref1 r]
  exact call_all_walk (walkV (A := X.A.in1) (I.ok.hd hc) I hp ha hb (bs.all id) (fun s' I' => ⟨.bl (bs.all id), H, I', rfl, k⟩) (fun tr n => (List.range n).all tr) (PySem.W.range_all id false bs))
def valsB (c : List Bool → Bool) : D → Oc D
  | .dct _ vs => match allBl vs with
    | some bs => .ok (.bl (c bs))
    | none => .st
  | _ => .st
theorem vals_in {c : List Bool → Bool} {e : Expr} (h : PE X e (tUn (fun x H Q => rBools X.w c [x] H Q) (tVals X.w (tQ X.K X.mg X.w W f)))) : SE X W e (un (valsB c) f) := PE.weak h fun σ H Q ⟨G, ρ, R, p⟩ => by
  refine ⟨G, ρ, R, ?_⟩
  revert p
  unfold un
  cases f ρ with
  | st => exact _root_.id
  | ex c => exact _root_.id
  | ok d =>
    intro p v G1 H1 x1 r1
    simp only [bd_ok] at p
    unfold valsB at p
    split at p
    · rename_i ks vs
      split at p
      · rename_i bs hb
        obtain ⟨a, xs, rfl, S⟩ := RepQ.dct x1.gh r1
        refine ⟨a, xs, rfl, S.at_, fun q hq => ?_⟩
        have ne : a ≠ q := ne_of_none S.at_ hq
        refine ⟨q, a, xs, bs, rfl, upd_same, (upd_ne ne).trans S.at_, allBl_rep S.val hb, ?_⟩
        exact p (.bl (c bs)) G1 _ (x1.trans (Ext.newH x1.gh hq)) (.bl _)
      · exact p.elim
    · exact p.elim
theorem se_anyV (C : Ctx X W) (hg : Gl X "any") (hm : X.mg "any" = none) (ho : SQ X W o f) (hbase : attributeBase o "values" X.env (eval o X.env) = eval o X.env := by rfl) (hline : (apos.endLine == cpos.line) = true := by rfl)
    (he : starEach [.Call (.Attribute o "values" apos) [] [] cpos] X.env = (false, eval (.Call (.Attribute o "values" apos) [] [] cpos) X.env) :: starEach [] X.env := by rfl) : SE X W (.Call (.Name "any" p) [.Call (.Attribute o "values" apos) [] [] cpos] [] pos) (un (valsB fun bs => bs.any id) f) :=
  vals_in (pe_B1 (cr_anyV C.calm) hg hm (by decide +kernel) (pe_vals ho hbase hline) (by decide) (by decide) he)
theorem se_allV (C : Ctx X W) (hg : Gl X "all") (hm : X.mg "all" = none) (ho : SQ X W o f) (hbase : attributeBase o "values" X.env (eval o X.env) = eval o X.env := by rfl) (hline : (apos.endLine == cpos.line) = true := by rfl)
    (he : starEach [.Call (.Attribute o "values" apos) [] [] cpos] X.env = (false, eval (.Call (.Attribute o "values" apos) [] [] cpos) X.env) :: starEach [] X.env := by rfl) : SE X W (.Call (.Name "all" p) [.Call (.Attribute o "values" apos) [] [] cpos] [] pos) (un (valsB fun bs => bs.all id) f) :=
  vals_in (pe_B1 (cr_allV C.calm) hg hm (by decide +kernel) (pe_vals ho hbase hline) (by decide) (by decide) he)
end
end Fx

set_option Elab.async false
set_option linter.all false
set_option maxRecDepth 100000
/-! Fx45: {k: v for target in iter}, the keys nested tuples. -/
namespace Fx
open PySem PySem.Spec PyProof.Rows L2 Sx
def dc1 (T : Tg) (own : List Nat) (src : En → Oc (List D)) (fk fv : En → Oc D) : En → Oc D := fun ρ => bd (src ρ) fun ds => noex (dc2I T own fk fv ρ ds (.dct [] []))
section
variable {X : Cx} {W : WX} {it tg kx vx : Expr} {pos : Pos}
theorem tDn_in {T : Tg} {own : List Nat} {src : En → Oc (List D)} {fk fv : En → Oc D} {σ : L2.St} {H : Hp} {Q : VK} (ho : ∀ i ∈ T.slots, i ∈ own) (q : tF X.K X.mg X.w W (dc1 T own src fk fv) σ H Q) :
    Cb.tDn X (tI X.K X.mg X.w W src) (gT X.K T) (tE X.K X.mg X.w E0W fk) (tE X.K X.mg X.w E0W fv) own σ H Q := by
  obtain ⟨G, ρ, R, p⟩ := q
  refine ⟨G, ρ, R, ?_⟩
  revert p
  unfold dc1
  cases src ρ with
  | st => exact id
  | ex c => exact id
  | ok ds =>
    intro p J G1 H1 x1 Y D hD
    simp only [bd_ok] at p
    have g1 : G1 D = none := x1.gh.free hD
    cases hall : dc2I T own fk fv ρ ds (.dct [] []) with
    | st => rw [hall] at p; exact p.elim
    | ex c => rw [hall] at p; exact p.elim
    | ok zz =>
      rw [hall] at p
      have p : PostF X.K X.mg X.w (fun c d H' => W c d σ H') G H Q (.ok zz) := p
      refine ⟨fun i m H => m = ds.length - i ∧ i ≤ ds.length ∧ ∃ G ks vs, Ext G1 H1 G H ∧ G D = none ∧ OwAt X.K X.mg X.w G H D (.dct ks vs) ∧ dc2I T own fk fv ρ (ds.drop i) (.dct ks vs) = .ok zz,
        ⟨ds.length, rfl, Nat.zero_le _, G1, [], [], Ext.newH x1.gh hD, g1, ⟨[], upd_same, .nil, rfl, fun k hk => absurd hk List.not_mem_nil, .nil⟩, hall⟩, ?_⟩
      rintro i m H ⟨rfl, hi, G, ks, vs, x, gD, ow, hw⟩
      have RR : Rel X.K X.mg X.w G H ρ σ := (R.ext x1).ext x
      by_cases hlt : i < ds.length
      case neg =>
        have e : i = ds.length := by omega
        subst e
        rw [List.drop_length] at hw
        cases hw
        exact .inl ⟨Y.stop G H x.gg x.gh, p D G H (x1.trans x) (x1.hh.free hD) gD ow⟩
      refine .inr ⟨Y.go i G H hlt x.gg x.gh, fun v H' y => ?_⟩
      have hd : ds[i]? = some ds[i] := List.getElem?_eq_getElem hlt
      rw [show ds.drop i = ds[i] :: ds.drop (i + 1) from List.drop_eq_getElem_cons hlt] at hw
      generalize ds[i] = d at hd hw
      obtain ⟨G2, x2, r2⟩ := Y.yld i d v G H H' hd x.gg x.gh y
      unfold dc2I at hw
      obtain ⟨ρ1, h1, hw⟩ := noex_ok_of hw
      obtain ⟨kd, h2, hw⟩ := noex_ok_of hw
      obtain ⟨vd, h3, hw⟩ := noex_ok_of hw
      obtain ⟨z, h4, hw⟩ := noex_ok_of hw
      have R2 : Rel X.K X.mg X.w G2 H' (wipeE ρ own) (L2.wipe σ own) := (RR.ext x2).wipe own
      refine gT_rel R2 r2 h1 fun us R3 => ⟨setT_wipe ho, G2, ρ1, R3, ?_⟩
      rw [h2]
      intro kv G3 H3 x3 rk
      refine ⟨G3, ρ1, R3.ext x3, ?_⟩
      rw [h3]
      intro vv G4 H4 x4 rv
      have x24 : Ext G H G4 H4 := (x2.trans x3).trans x4
      have x14 : Ext G1 H1 G4 H4 := x.trans x24
      obtain ⟨u, hu⟩ := ow.ex
      have gD4 : G4 D = none := x24.nc D u hu gD
      have ow4 : OwAt X.K X.mg X.w G4 H4 D (.dct ks vs) := ow.same x24.gg fun o q n m => x24.hh.ob _ _ q n m
      obtain ⟨⟨ks', vs', rfl⟩, b, kk, xs, e1, e2, e3, e4, e5, ow5⟩ := putX_of x4.gh ow4 (rk.same x4.gg) rv h4
      refine ⟨b, kk, xs, e1, e2, e3, e4, e5, ds.length - (i + 1), by omega, rfl, hlt, G4, ks', vs', ⟨x14.hh.upd hD ow4.notFn, x14.gg, fun c u e => (x14.gh _ _ e).upd (ne_of_none e gD4), x14.nc⟩, gD4, ow5, hw⟩
theorem sf_dc1 {scope : Scope} {own : List (Str × Nat)} {T : Tg} {src : En → Oc (List D)} {fk fv : En → Oc D} (C : Ctx X W) (hi : SI X W tg it src) (ok : BlkOk X.N X.env.scope scope own)
    (hg : ∀ (s : Shared) (H : Hp) (C : Addr) (cl : List (Str × Addr)) (fp : List Addr), ST (X.blk s H scope (compEnvC scope cl C X.env) fp) tg T)
    (hk : ∀ (s : Shared) (H : Hp) (C : Addr) (cl : List (Str × Addr)) (fp : List Addr), SE (X.blk s H scope (compEnvC scope cl C X.env) fp) E0W kx fk)
    (he : ∀ (s : Shared) (H : Hp) (C : Addr) (cl : List (Str × Addr)) (fp : List Addr), SE (X.blk s H scope (compEnvC scope cl C X.env) fp) E0W vx fv)
    (ho : ∀ i ∈ T.slots, i ∈ own.map (·.2)) (hs : ∀ x, foldedSetIterable it X.env x = pure x := by intro _; rfl) :
    SF X W (.DictComp kx vx [⟨tg, it, [], 0⟩] scope pos) (dc1 T (own.map (·.2)) src fk fv) := PE.weak (Cb.pe_d1 C.calm C.units C.nd hi ok hg hk he hs) fun σ H Q q => tDn_in ho q
theorem ss_setD1 {U : XK} {fre : Fr} {i : Nat} {y : Str} {py pos2 : Pos} {scope : Scope} {own : List (Str × Nat)} {T : Tg} {src : En → Oc (List D)} {fk fv : En → Oc D} (C : Ctx X (up U)) (hy : X.N[i]? = some y) (hl : X.env.scope.names.lookup y = some .local)
    (hsw : swapsWith (.DictComp kx vx [⟨tg, it, [], 0⟩] scope pos) (some (.Name y py)) pos2.line X.env = pure true) (hi : SI X (up U) tg it src) (ok : BlkOk X.N X.env.scope scope own)
    (hg : ∀ (s : Shared) (H : Hp) (C : Addr) (cl : List (Str × Addr)) (fp : List Addr), ST (X.blk s H scope (compEnvC scope cl C X.env) fp) tg T)
    (hk : ∀ (s : Shared) (H : Hp) (C : Addr) (cl : List (Str × Addr)) (fp : List Addr), SE (X.blk s H scope (compEnvC scope cl C X.env) fp) E0W kx fk)
    (he : ∀ (s : Shared) (H : Hp) (C : Addr) (cl : List (Str × Addr)) (fp : List Addr), SE (X.blk s H scope (compEnvC scope cl C X.env) fp) E0W vx fv)
    (ho : ∀ i ∈ T.slots, i ∈ own.map (·.2)) (hs : ∀ x, foldedSetIterable it X.env x = pure x := by intro _; rfl) :
    SS X U fre (.Assign [.Name y py] (.DictComp kx vx [⟨tg, it, [], 0⟩] scope pos) pos2) (asg i (dc1 T (own.map (·.2)) src fk fv)) :=
  PS.weak (Cb.ps_setD1 C.calm C.units C.nd hy hl hsw hi ok hg hk he hs) fun D σ H ⟨G, ρ, me, G0, H0, B, p⟩ => tDn_in ho (tF_of_tE (asg_post B p))
end
end Fx

set_option Elab.async false
set_option linter.all false
set_option maxRecDepth 100000
/-! Fx46: the truth of a list or a tuple. -/
namespace Fx
open PySem PySem.Spec PyProof.Rows L2
def truD : D → Oc Bool
  | .bl b => .ok b
  | .non => .ok false
  | .int i => .ok (i != 0)
  | d => match items d with
    | some ds => .ok (!ds.isEmpty)
    | none => .st
def tru (f : En → Oc D) : En → Oc Bool := fun ρ => bd (f ρ) truD
section
variable {X : Cx} {W : WX} {a : Expr} {f : En → Oc D}
theorem st_tru (ha : SQ X W a f) (he : ∀ whole, isTrue a X.env whole = (do let v ← whole; standAt a.pos; holding [v] (truthy v)) := by intro _; rfl) : STT X W a (tru f) := PT.weak (pt_truth ha he) fun σ H Q ⟨G, ρ, R, p⟩ => by
  refine ⟨G, ρ, R, ?_⟩
  revert p
  unfold tru
  cases f ρ with
  | st => exact id
  | ex c => exact id
  | ok d =>
    intro p v G1 H1 x1 r
    simp only [bd_ok] at p
    unfold truD at p
    split at p
    · obtain rfl := RepQ.bl r
      exact ⟨_, rfl, p G1 H1 x1⟩
    · obtain rfl := RepQ.non r
      exact ⟨_, rfl, p G1 H1 x1⟩
    · obtain rfl := RepQ.int r
      exact ⟨_, rfl, p G1 H1 x1⟩
    · split at p
      · rename_i ds hds
        obtain ⟨q, xs, e, hq, rr⟩ := RepQ.seq x1.gh r hds
        subst e
        have el : (!xs.isEmpty) = !ds.isEmpty := by
          have := rr.length
          cases xs <;> cases ds <;> first | rfl | (simp at this)
        rcases hq with hq | hq
        · exact ⟨_, .inl ⟨xs, hq, rfl⟩, by rw [el]; exact p G1 H1 x1⟩
        · exact ⟨_, .inr (.inl ⟨xs, hq, rfl⟩), by rw [el]; exact p G1 H1 x1⟩
      · exact p.elim
end
@[simp] theorem tru_ap (f : En → Oc D) (ρ : En) : tru f ρ = bd (f ρ) truD := id rfl
@[simp] theorem truD_lst (ds : List D) : truD (.lst ds) = .ok (!ds.isEmpty) := id rfl
@[simp] theorem truD_bl (b : Bool) : truD (.bl b) = .ok b := id rfl
end Fx

set_option Elab.async false
set_option linter.all false
set_option maxRecDepth 100000
/-! Fx47: x is True, x is not False. -/
namespace Fx
open PySem PySem.Spec PyProof.Rows L2
def isB (d e : D) : Oc D := match d, e with
  | .bl a, .bl b => .ok (.bl (decide (a = b)))
  | _, _ => .st
def nisB (d e : D) : Oc D := match d, e with
  | .bl a, .bl b => .ok (.bl (!decide (a = b)))
  | _, _ => .st
section
variable {X : Cx} {W : WX} {a b : Expr} {f g : En → Oc D} {pos : Pos}
theorem st_isB (ha : SQ X W a f) (hb : SQ X W b g) : STT X W (.Compare a [.Is] [b] pos) (tst (bi isB f g)) := st_op2 (fun ha hb => pt_cmpR op_is_bl ha hb (nomark _)) (fun {G H x y d1 d2 Q U} s r1 r2 p => by
  unfold isB at p
  split at p
  · exact ⟨_, _, RepQ.bl r1, RepQ.bl r2, p.here s (.bl _)⟩
  · exact p.elim) ha hb
theorem st_nisB (ha : SQ X W a f) (hb : SQ X W b g) : STT X W (.Compare a [.IsNot] [b] pos) (tst (bi nisB f g)) := st_op2 (fun ha hb => pt_cmpR op_isnot_bl ha hb (nomark _)) (fun {G H x y d1 d2 Q U} s r1 r2 p => by
  unfold nisB at p
  split at p
  · exact ⟨_, _, RepQ.bl r1, RepQ.bl r2, p.here s (.bl _)⟩
  · exact p.elim) ha hb
end
@[simp] theorem isB_bl (a b : Bool) : isB (.bl a) (.bl b) = .ok (.bl (decide (a = b))) := id rfl
@[simp] theorem nisB_bl (a b : Bool) : nisB (.bl a) (.bl b) = .ok (.bl (!decide (a = b))) := id rfl
end Fx

set_option Elab.async false
set_option linter.all false
set_option maxRecDepth 100000
/-! Fx48: a, b = x, y with plain local names. -/
namespace Fx
open PySem PySem.Spec PyProof.Rows L2
def parT (i j : Nat) (fs : En → Oc (List D)) : En → Oc Res := fun ρ => bd (fs ρ) fun ds => match ds with
  | [d, e] => .ok (.nx ((ρ.set i (.sh d)).set j (.sh e)))
  | _ => .st
section
variable {X : Cx} {U : XK} {fre : Fr} {fs : En → Oc (List D)} {i j : Nat} {x y : Str} {a b : Expr} {px py pt pt2 pos : Pos} {kt k2 : Nat}
theorem ss_par (C : Ctx X (up U)) (hi : X.N[i]? = some x) (hj : X.N[j]? = some y) (hij : i ≠ j) (hx : X.env.scope.names.lookup x = some .local) (hy : X.env.scope.names.lookup y = some .local) (ha : SA X (up U) [a, b] fs)
    (hw : swappedStores [.Tuple [.Name x px, .Name y py] kt pt] (.Tuple [a, b] k2 pt2) X.env = pure (some [x, y]) := by rfl)
    (hs : swapsWithSole [.Tuple [.Name x px, .Name y py] kt pt] (.Tuple [a, b] k2 pt2) pos.line X.env = pure false := by rfl) :
    SS X U fre (.Assign [.Tuple [.Name x px, .Name y py] kt pt] (.Tuple [a, b] k2 pt2) pos) (parT i j fs) := PS.weak (ps_par C.calm C.nd hi hj hij hx hy ha hw hs) fun D σ H ⟨G, ρ, me, G0, H0, B, p⟩ => by
  refine ⟨G, ρ, B.rel, ?_⟩
  revert p
  unfold parT
  cases fs ρ with
  | st => exact id
  | ex c => exact fun p C1 G' H' x mc => p C1 G' H' (B.ext.trans x) mc
  | ok ds =>
    intro p vs G1 H1 x1 r
    simp only [bd_ok] at p
    split at p
    · cases r with
      | cons r1 t =>
        cases t with
        | cons r2 t2 =>
          cases t2
          exact ⟨_, _, rfl, p _ _ _ (((B.step x1).set i r1).set j r2)⟩
    · exact p.elim
end
@[simp] theorem parT_ap (i j : Nat) (fs : En → Oc (List D)) (ρ : En) : parT i j fs ρ = bd (fs ρ) fun ds => match ds with | [d, e] => .ok (.nx ((ρ.set i (.sh d)).set j (.sh e))) | _ => .st := id rfl
end Fx

set_option Elab.async false
set_option linter.all false
set_option maxRecDepth 100000
set_option maxHeartbeats 4000000
namespace Lw
open PySem PySem.Spec PyProof.Rows L2 Fx NdefX
abbrev N_Rule___init__ : List Str := ["self", "accepting", "moves", "row"]
theorem sc_Rule___init__ : FnScope N_Rule___init__ ["self", "accepting", "moves"] (defScope s_Rule___init__) := ⟨rfl, rfl, rfl, by decide +kernel, rfl, by decide +kernel, by decide +kernel⟩
abbrev N_state_after : List Str := ["rule", "names", "trace", "state", "activity"]
theorem sc_state_after : FnScope N_state_after ["rule", "names", "trace"] (defScope s_state_after) := ⟨rfl, rfl, rfl, by decide +kernel, rfl, by decide +kernel, by decide +kernel⟩
abbrev N_accepts : List Str := ["rule", "names", "trace"]
theorem sc_accepts : FnScope N_accepts ["rule", "names", "trace"] (defScope s_accepts) := ⟨rfl, rfl, rfl, by decide +kernel, rfl, by decide +kernel, by decide +kernel⟩
abbrev N_states_from : List Str := ["rule", "state", "found", "at", "following"]
theorem sc_states_from : FnScope N_states_from ["rule", "state"] (defScope s_states_from) := ⟨rfl, rfl, rfl, by decide +kernel, rfl, by decide +kernel, by decide +kernel⟩
abbrev N_verdict : List Str := ["rule", "names", "trace", "state", "values", "reached"]
theorem sc_verdict : FnScope N_verdict ["rule", "names", "trace"] (defScope s_verdict) := ⟨rfl, rfl, rfl, by decide +kernel, rfl, by decide +kernel, by decide +kernel⟩
abbrev N__law_cell : List Str := ["_law_script", "_law_k"]
theorem sc__law_cell : FnScope N__law_cell ["_law_script", "_law_k"] (defScope s__law_cell) := ⟨rfl, rfl, rfl, by decide +kernel, rfl, by decide +kernel, by decide +kernel⟩
abbrev N__law_row : List Str := ["_law_cell_here", "_law_count", "_law_row_here", "_law_rest", "_law_seed", "_law_k"]
theorem sc__law_row : FnScope N__law_row ["_law_cell_here", "_law_count"] (defScope s__law_row) := ⟨rfl, rfl, rfl, by decide +kernel, rfl, by decide +kernel, by decide +kernel⟩
abbrev N__law_word : List Str := ["_law_number", "_law_letters", "_law_word_here"]
theorem sc__law_word : FnScope N__law_word ["_law_number"] (defScope s__law_word) := ⟨rfl, rfl, rfl, by decide +kernel, rfl, by decide +kernel, by decide +kernel⟩
abbrev N__law_names : List Str := ["_law_cell_here", "_law_row_here", "_law_names_here", "_law_k", "_law_word_here"]
theorem sc__law_names : FnScope N__law_names ["_law_cell_here"] (defScope s__law_names) := ⟨rfl, rfl, rfl, by decide +kernel, rfl, by decide +kernel, by decide +kernel⟩
abbrev N__law_rule : List Str := ["_law_row_here", "_law_count", "_law_size", "_law_accepting", "_law_moves", "_law_k", "_law_at"]
theorem sc__law_rule : FnScope N__law_rule ["_law_row_here", "_law_count"] (defScope s__law_rule) := ⟨rfl, rfl, rfl, by decide +kernel, rfl, by decide +kernel, by decide +kernel⟩
abbrev N__law_rules : List Str := ["_law_cell_here", "_law_count", "_law_row_here", "_law_k"]
theorem sc__law_rules : FnScope N__law_rules ["_law_cell_here", "_law_count"] (defScope s__law_rules) := ⟨rfl, rfl, rfl, by decide +kernel, rfl, by decide +kernel, by decide +kernel⟩
abbrev N__law_trace : List Str := ["_law_names_here", "_law_cell_here", "_law_size", "_law_number"]
theorem sc__law_trace : FnScope N__law_trace ["_law_names_here", "_law_cell_here", "_law_size"] (defScope s__law_trace) := ⟨rfl, rfl, rfl, by decide +kernel, rfl, by decide +kernel, by decide +kernel⟩
abbrev N__law_all : List Str := ["_law_names_here", "_law_size", "_law_rows", "_law_found", "_law_k", "_law_longer", "_law_row_here", "_law_name"]
theorem sc__law_all : FnScope N__law_all ["_law_names_here", "_law_size"] (defScope s__law_all) := ⟨rfl, rfl, rfl, by decide +kernel, rfl, by decide +kernel, by decide +kernel⟩
abbrev N__law_holds : List Str := ["_law_made", "_law_names_here", "_law_trace_here", "_law_told", "_law_more", "_law_said"]
theorem sc__law_holds : FnScope N__law_holds ["_law_made", "_law_names_here", "_law_trace_here", "_law_told", "_law_more"] (defScope s__law_holds) := ⟨rfl, rfl, rfl, by decide +kernel, rfl, by decide +kernel, by decide +kernel⟩
abbrev N__law_differs : List Str := ["_law_made", "_law_names_here", "_law_trace_here", "_law_told", "_law_values", "_law_more"]
theorem sc__law_differs : FnScope N__law_differs ["_law_made", "_law_names_here", "_law_trace_here", "_law_told"] (defScope s__law_differs) := ⟨rfl, rfl, rfl, by decide +kernel, rfl, by decide +kernel, by decide +kernel⟩
abbrev N_law : List Str := ["_law_script", "_law_names_here", "_law_trace_here", "_law_rule_here", "_law_made", "_law_other", "_law_told", "_law_cell_here", "_law_moves"]
theorem sc_law : FnScope N_law ["_law_script"] (defScope s_law) := ⟨rfl, rfl, rfl, by decide +kernel, rfl, by decide +kernel, by decide +kernel⟩
structure Facts (K : PySem.W.Frag) (mg : Str → Option Value) : Prop where
  m_all : mg "all" = none
  m_any : mg "any" = none
  m_int : mg "int" = none
  m_len : mg "len" = none
  m_list : mg "list" = none
  m_range : mg "range" = none
  m_tuple : mg "tuple" = none
  a_accepting : ∀ c ∈ [("Rule" : Str)], ClsA K mg "accepting" c
  a_moves : ∀ c ∈ [("Rule" : Str)], ClsA K mg "moves" c
  s_Rule_accepting : ∀ c ∈ [("Rule" : Str)], ClsA K mg "accepting" c
  s_Rule_moves : ∀ c ∈ [("Rule" : Str)], ClsA K mg "moves" c
  f_Rule___init__ : ∃ C f fd, Mk K C f ∧ FunD K "__init__" "Rule.__init__" (defArgs s_Rule___init__) (defBody s_Rule___init__) (defScope s_Rule___init__) [] [] f fd ∧ mg "Rule" = some (.ref C)
  f_state_after : ∃ f fd, FunD K "state_after" "state_after" (defArgs s_state_after) (defBody s_state_after) (defScope s_state_after) [] [] f fd ∧ mg "state_after" = some (.ref f)
  f_accepts : ∃ f fd, FunD K "accepts" "accepts" (defArgs s_accepts) (defBody s_accepts) (defScope s_accepts) [] [] f fd ∧ mg "accepts" = some (.ref f)
  f_states_from : ∃ f fd, FunD K "states_from" "states_from" (defArgs s_states_from) (defBody s_states_from) (defScope s_states_from) [] [] f fd ∧ mg "states_from" = some (.ref f)
  f_verdict : ∃ f fd, FunD K "verdict" "verdict" (defArgs s_verdict) (defBody s_verdict) (defScope s_verdict) [] [] f fd ∧ mg "verdict" = some (.ref f)
  f__law_cell : ∃ f fd, FunD K "_law_cell" "_law_cell" (defArgs s__law_cell) (defBody s__law_cell) (defScope s__law_cell) [] [] f fd ∧ mg "_law_cell" = some (.ref f)
  f__law_row : ∃ f fd, FunD K "_law_row" "_law_row" (defArgs s__law_row) (defBody s__law_row) (defScope s__law_row) [] [] f fd ∧ mg "_law_row" = some (.ref f)
  f__law_word : ∃ f fd, FunD K "_law_word" "_law_word" (defArgs s__law_word) (defBody s__law_word) (defScope s__law_word) [] [] f fd ∧ mg "_law_word" = some (.ref f)
  f__law_names : ∃ f fd, FunD K "_law_names" "_law_names" (defArgs s__law_names) (defBody s__law_names) (defScope s__law_names) [] [] f fd ∧ mg "_law_names" = some (.ref f)
  f__law_rule : ∃ f fd, FunD K "_law_rule" "_law_rule" (defArgs s__law_rule) (defBody s__law_rule) (defScope s__law_rule) [] [] f fd ∧ mg "_law_rule" = some (.ref f)
  f__law_rules : ∃ f fd, FunD K "_law_rules" "_law_rules" (defArgs s__law_rules) (defBody s__law_rules) (defScope s__law_rules) [] [] f fd ∧ mg "_law_rules" = some (.ref f)
  f__law_trace : ∃ f fd, FunD K "_law_trace" "_law_trace" (defArgs s__law_trace) (defBody s__law_trace) (defScope s__law_trace) [] [] f fd ∧ mg "_law_trace" = some (.ref f)
  f__law_all : ∃ f fd, FunD K "_law_all" "_law_all" (defArgs s__law_all) (defBody s__law_all) (defScope s__law_all) [] [] f fd ∧ mg "_law_all" = some (.ref f)
  f__law_holds : ∃ f fd, FunD K "_law_holds" "_law_holds" (defArgs s__law_holds) (defBody s__law_holds) (defScope s__law_holds) [] [] f fd ∧ mg "_law_holds" = some (.ref f)
  f__law_differs : ∃ f fd, FunD K "_law_differs" "_law_differs" (defArgs s__law_differs) (defBody s__law_differs) (defScope s__law_differs) [] [] f fd ∧ mg "_law_differs" = some (.ref f)
section
variable {P : Program} {w : World} {K : PySem.W.Frag} {mg : Str → Option Value} {base : Heap}
noncomputable def g_Rule___init__ : En → Oc Res :=
  (sq (setF 0 [("Rule" : Str)] "accepting" (un tupleD (vo 1)))
  (setF 0 [("Rule" : Str)] "moves" (un tupleD (lc (.one 3) [3] (itm (vr 2)) yes (un tupleD (vo 3))))))
noncomputable def F_Rule___init__ : List D → Oc D := fnI "Rule" 3 2 g_Rule___init__
theorem K_Rule___init__ (T : Facts K mg) (TB : Tbs K mg base) : KnC P w K mg base 1 "Rule" 2 [] F_Rule___init__ := by
  obtain ⟨Cl, f, fd, mk, F, gm⟩ := T.f_Rule___init__
  refine ⟨Cl, f, fd, ["self", "accepting", "moves"], [], [], mk, initD_ok (N := N_Rule___init__) (k := 0) F sc_Rule___init__ rfl (fun cdv A outer s H E hc hr C => ?_), gm, (F.bindsN fun _ _ _ _ _ _ us hl => match us, hl with | [_, _, _], _ => rfl), .nil, fun _ => .nil⟩
  have hp := po_def (P := P) (w := w) (K := K) (mg := mg) (base := base) (N := N_Rule___init__) (qual := "Rule.__init__") (sc := defScope s_Rule___init__) (f := f) (cdv := cdv) (A := A) (outer := outer) (s := s) (H := H) (E := E)
  exact (ss_cons (ss_setF (cs := [("Rule" : Str)]) (T.s_Rule_accepting) (pv 0) (se_tuple (by rfl) T.m_tuple (sq_var (pv 1))))
  (ss_one (ss_setF (cs := [("Rule" : Str)]) (T.s_Rule_moves) (pv 0) (se_tuple (by rfl) T.m_tuple (SE.toQ (SF.toE (sf_lc C (si_seq (se_var (pv 2))) (blkOk_by (own := [("row", 3)]) (N := N_Rule___init__) (sc := defScope s_Rule___init__) (by decide +kernel)) (fun _ _ _ _ _ => (st_one (Ctx.blk C _ _ _ _ _).nd rfl (by first | exact Or.inl rfl | exact Or.inr rfl))) (fun _ _ _ _ _ => sts_nil) (fun _ _ _ _ _ => (se_tuple (by rfl) T.m_tuple (sq_var (pv 3)))) (by decide))))))))
noncomputable def g_state_after : En → Oc Res :=
  (sq (asg 3 (cst (.int 0)))
  (sq (fr (.one 4) (itm (vr 2)) (asg 3 (bi ixD (bi ixD (un (fldD [("Rule" : Str)] "moves") (vo 0)) (vo 3)) (mtD isLst indexM (un listD (vo 1)) (aC (vr 4) aN)))))
  (ret (vr 3))))
noncomputable def F_state_after : List D → Oc D := fnB 5 3 g_state_after
theorem K_state_after (T : Facts K mg) (TB : Tbs K mg base) : Kn P w K mg base 1 "state_after" 3 [] F_state_after := by
  obtain ⟨f, fd, F, gm⟩ := T.f_state_after
  refine ⟨f, fd, ["rule", "names", "trace"], [], [], fnD_ok (N := N_state_after) (k := 0) F sc_state_after (fun cdv A outer s H E hc hr C => ?_), gm, F.kp, (F.bindsN fun _ _ _ _ _ _ us hl => match us, hl with | [_, _, _], _ => rfl), .nil, fun _ => .nil⟩
  have hp := po_def (P := P) (w := w) (K := K) (mg := mg) (base := base) (N := N_state_after) (qual := "state_after") (sc := defScope s_state_after) (f := f) (cdv := cdv) (A := A) (outer := outer) (s := s) (H := H) (E := E)
  exact (ss_cons (ss_set (i := 3) C rfl (by first | exact Or.inl rfl | exact Or.inr rfl) se_int)
  (ss_cons (ss_for C hp (si_seq (se_var (pv 2))) (st_one C.nd rfl (by first | exact Or.inl rfl | exact Or.inr rfl)) (ss_one (ss_set (i := 3) C rfl (by first | exact Or.inl rfl | exact Or.inr rfl) (se_ix (SE.toQ (se_ix (SE.toQ (se_fld (cs := [("Rule" : Str)]) (T.a_moves) (sq_var (pv 0)))) (sq_var (pv 3)) (fun _ _ => rfl))) (SE.toQ (se_index C.units (SE.toQ (SF.toE (sf_list (by rfl) T.m_list (sq_var (pv 1))))) (sa_cons (se_var (pv 4)) sa_nil))) (fun _ _ => rfl)))))
  (ss_one (ss_ret (se_var (pv 3))))))
noncomputable def g_accepts : En → Oc Res :=
  (ret (bi ixD (un (fldD [("Rule" : Str)] "accepting") (vo 0)) (cal F_state_after 3 [] (aC (vr 0) (aC (vr 1) (aC (vr 2) aN))))))
noncomputable def F_accepts : List D → Oc D := fnB 3 3 g_accepts
theorem K_accepts (T : Facts K mg) (TB : Tbs K mg base) : Kn P w K mg base 2 "accepts" 3 [] F_accepts := by
  obtain ⟨f, fd, F, gm⟩ := T.f_accepts
  have K_state_after := K_state_after (P := P) (w := w) (base := base) T TB
  refine ⟨f, fd, ["rule", "names", "trace"], [], [], fnD_ok (N := N_accepts) (k := 1) F sc_accepts (fun cdv A outer s H E hc hr C => ?_), gm, F.kp, (F.bindsN fun _ _ _ _ _ _ us hl => match us, hl with | [_, _, _], _ => rfl), .nil, fun _ => .nil⟩
  have hp := po_def (P := P) (w := w) (K := K) (mg := mg) (base := base) (N := N_accepts) (qual := "accepts") (sc := defScope s_accepts) (f := f) (cdv := cdv) (A := A) (outer := outer) (s := s) (H := H) (E := E)
  exact (ss_one (ss_ret (se_ix (SE.toQ (se_fld (cs := [("Rule" : Str)]) (T.a_accepting) (sq_var (pv 0)))) (SE.toQ (se_call K_state_after C (hr.mono (by decide)) (by rfl) (sa_cons (se_var (pv 0)) (sa_cons (se_var (pv 1)) (sa_cons (se_var (pv 2)) sa_nil))))) (fun _ _ => rfl))))
noncomputable def g_states_from : En → Oc Res :=
  (sq (asgO 2 (lsd (aC (vr 1) aN)))
  (sq (asg 3 (cst (.int 0)))
  (sq (wh (tst (bi (cmpD fun i j => decide (i < j)) (vo 3) (un lenD (vo 2)))) (sq (fr (.one 4) (itm (bi ixD (un (fldD [("Rule" : Str)] "moves") (vo 0)) (bi ixD (vo 2) (vo 3)))) (iff (tst (bi ninD (vo 4) (vo 2))) (app 2 (vr 4)) sNx))
  (augA 3 (cst (.int 1)))))
  (retO 2))))
noncomputable def F_states_from : List D → Oc D := fnF 5 2 g_states_from
theorem KF_states_from (T : Facts K mg) (TB : Tbs K mg base) : KnF P w K mg base 1 "states_from" 2 [] F_states_from := by
  obtain ⟨f, fd, F, gm⟩ := T.f_states_from
  refine ⟨f, fd, ["rule", "state"], [], [], fnF_ok (N := N_states_from) (k := 0) F sc_states_from (fun cdv A outer s H E hc hr C => ?_), gm, F.kp, (F.bindsN fun _ _ _ _ _ _ us hl => match us, hl with | [_, _], _ => rfl), .nil, fun _ => .nil⟩
  have hp := po_def (P := P) (w := w) (K := K) (mg := mg) (base := base) (N := N_states_from) (qual := "states_from") (sc := defScope s_states_from) (f := f) (cdv := cdv) (A := A) (outer := outer) (s := s) (H := H) (E := E)
  exact (ss_cons (ss_setO (i := 2) C rfl (by first | exact Or.inl rfl | exact Or.inr rfl) (sf_lst (sa_cons (se_var (pv 1)) sa_nil)))
  (ss_cons (ss_set (i := 3) C rfl (by first | exact Or.inl rfl | exact Or.inr rfl) se_int)
  (ss_cons (ss_while C hp (st_lt (sq_var (pv 3)) (SE.toQ (se_len (by rfl) T.m_len (sq_var (pv 2))))) (ss_cons (ss_for C hp (si_seq (se_ix (SE.toQ (se_fld (cs := [("Rule" : Str)]) (T.a_moves) (sq_var (pv 0)))) (SE.toQ (se_ix (sq_var (pv 2)) (sq_var (pv 3)) (fun _ _ => rfl))) (fun _ _ => rfl))) (st_one C.nd rfl (by first | exact Or.inl rfl | exact Or.inr rfl)) (ss_one (ss_if (st_nin (sq_var (pv 4)) (sq_var (pv 2)) C.units) (ss_one (ss_app (pv 2) (se_var (pv 4)))) ss_nil)))
  (ss_one (ss_augA (i := 3) C rfl (by first | exact Or.inl rfl | exact Or.inr rfl) se_int))))
  (ss_one (ss_retO (pv 2))))))
theorem K_states_from (T : Facts K mg) (TB : Tbs K mg base) : Kn P w K mg base 1 "states_from" 2 [] F_states_from := (KF_states_from T TB).kn
noncomputable def g_verdict : En → Oc Res :=
  (sq (asg 3 (cal F_state_after 3 [] (aC (vr 0) (aC (vr 1) (aC (vr 2) aN)))))
  (sq (asg 4 (lc (.one 5) [5] (itm (cal F_states_from 2 [] (aC (vr 0) (aC (vr 3) aN)))) yes (bi ixD (un (fldD [("Rule" : Str)] "accepting") (vo 0)) (vo 5))))
  (sq (iff (tst (un allD (vo 4))) (ret (cst (.str "always"))) sNx)
  (sq (iff (nt (tst (un anyD (vo 4)))) (ret (cst (.str "never"))) sNx)
  (sq (iff (tst (bi ixD (un (fldD [("Rule" : Str)] "accepting") (vo 0)) (vo 3))) (ret (cst (.str "yes"))) sNx)
  (ret (cst (.str "no"))))))))
noncomputable def F_verdict : List D → Oc D := fnB 6 3 g_verdict
theorem K_verdict (T : Facts K mg) (TB : Tbs K mg base) : Kn P w K mg base 2 "verdict" 3 [] F_verdict := by
  obtain ⟨f, fd, F, gm⟩ := T.f_verdict
  have K_state_after := K_state_after (P := P) (w := w) (base := base) T TB
  have K_states_from := K_states_from (P := P) (w := w) (base := base) T TB
  have KF_states_from := KF_states_from (P := P) (w := w) (base := base) T TB
  refine ⟨f, fd, ["rule", "names", "trace"], [], [], fnD_ok (N := N_verdict) (k := 1) F sc_verdict (fun cdv A outer s H E hc hr C => ?_), gm, F.kp, (F.bindsN fun _ _ _ _ _ _ us hl => match us, hl with | [_, _, _], _ => rfl), .nil, fun _ => .nil⟩
  have hp := po_def (P := P) (w := w) (K := K) (mg := mg) (base := base) (N := N_verdict) (qual := "verdict") (sc := defScope s_verdict) (f := f) (cdv := cdv) (A := A) (outer := outer) (s := s) (H := H) (E := E)
  exact (ss_cons (ss_set (i := 3) C rfl (by first | exact Or.inl rfl | exact Or.inr rfl) (se_call K_state_after C (hr.mono (by decide)) (by rfl) (sa_cons (se_var (pv 0)) (sa_cons (se_var (pv 1)) (sa_cons (se_var (pv 2)) sa_nil)))))
  (ss_cons (ss_setLc (i := 4) C rfl rfl (sw_true rfl rfl rfl (by decide +kernel)) (si_seq (se_call K_states_from C (hr.mono (by decide)) (by rfl) (sa_cons (se_var (pv 0)) (sa_cons (se_var (pv 3)) sa_nil)))) (blkOk_by (own := [("reached", 5)]) (N := N_verdict) (sc := defScope s_verdict) (by decide +kernel)) (fun _ _ _ _ _ => (st_one (Ctx.blk C _ _ _ _ _).nd rfl (by first | exact Or.inl rfl | exact Or.inr rfl))) (fun _ _ _ _ _ => sts_nil) (fun _ _ _ _ _ => (se_ix (SE.toQ (se_fld (cs := [("Rule" : Str)]) (T.a_accepting) (sq_var (pv 0)))) (sq_var (pv 5)) (fun _ _ => rfl))) (by decide))
  (ss_cons (ss_if (st_val (se_all C.calm (by rfl) T.m_all (sq_var (pv 4)))) (ss_one (ss_ret se_str)) ss_nil)
  (ss_cons (ss_if (st_not (st_val (se_any C.calm (by rfl) T.m_any (sq_var (pv 4))))) (ss_one (ss_ret se_str)) ss_nil)
  (ss_cons (ss_if (st_val (se_ix (SE.toQ (se_fld (cs := [("Rule" : Str)]) (T.a_accepting) (sq_var (pv 0)))) (sq_var (pv 3)) (fun _ _ => rfl))) (ss_one (ss_ret se_str)) ss_nil)
  (ss_one (ss_ret se_str)))))))
noncomputable def g__law_cell : En → Oc Res :=
  (sq (iff (tst (bi (cmpD fun i j => decide (i < j)) (vo 1) (un lenD (vo 0)))) (ret (bi ixD (vo 0) (vo 1))) sNx)
  (ret (cst (.int 0))))
noncomputable def F__law_cell : List D → Oc D := fnB 2 2 g__law_cell
theorem K__law_cell (T : Facts K mg) (TB : Tbs K mg base) : Kn P w K mg base 1 "_law_cell" 2 [] F__law_cell := by
  obtain ⟨f, fd, F, gm⟩ := T.f__law_cell
  refine ⟨f, fd, ["_law_script", "_law_k"], [], [], fnD_ok (N := N__law_cell) (k := 0) F sc__law_cell (fun cdv A outer s H E hc hr C => ?_), gm, F.kp, (F.bindsN fun _ _ _ _ _ _ us hl => match us, hl with | [_, _], _ => rfl), .nil, fun _ => .nil⟩
  have hp := po_def (P := P) (w := w) (K := K) (mg := mg) (base := base) (N := N__law_cell) (qual := "_law_cell") (sc := defScope s__law_cell) (f := f) (cdv := cdv) (A := A) (outer := outer) (s := s) (H := H) (E := E)
  exact (ss_cons (ss_if (st_lt (sq_var (pv 1)) (SE.toQ (se_len (by rfl) T.m_len (sq_var (pv 0))))) (ss_one (ss_ret (se_ix (sq_var (pv 0)) (sq_var (pv 1)) (fun _ _ => rfl)))) ss_nil)
  (ss_one (ss_ret se_int)))
noncomputable def g__law_row : En → Oc Res :=
  (sq (asgO 2 (lsd aN))
  (sq (asg 3 (vr 0))
  (sq (asg 4 (bi addD (bi modD (un intD (vo 0)) (cst (.int 2147483629))) (cst (.int 1))))
  (sq (fr (.one 5) (rng1 (aC (vr 1) aN)) (iff (tst (bi (cmpD fun i j => decide (j ≤ i)) (vo 0) (bi powD (cst (.int 10)) (cst (.int 18))))) (sq (app 2 (bi modD (un intD (vo 3)) (cst (.int 840))))
  (asg 3 (bi fdivD (vo 3) (cst (.int 840))))) (sq (asg 4 (bi modD (un intD (bi addD (bi mulD (vo 4) (cst (.int 48271))) (vo 5))) (cst (.int 2147483647))))
  (app 2 (bi modD (bi fdivD (bi modD (un intD (bi mulD (vo 4) (cst (.int 69621)))) (cst (.int 2147483629))) (cst (.int 7))) (cst (.int 840)))))))
  (retO 2)))))
noncomputable def F__law_row : List D → Oc D := fnF 6 2 g__law_row
theorem KF__law_row (T : Facts K mg) (TB : Tbs K mg base) : KnF P w K mg base 1 "_law_row" 2 [] F__law_row := by
  obtain ⟨f, fd, F, gm⟩ := T.f__law_row
  refine ⟨f, fd, ["_law_cell_here", "_law_count"], [], [], fnF_ok (N := N__law_row) (k := 0) F sc__law_row (fun cdv A outer s H E hc hr C => ?_), gm, F.kp, (F.bindsN fun _ _ _ _ _ _ us hl => match us, hl with | [_, _], _ => rfl), .nil, fun _ => .nil⟩
  have hp := po_def (P := P) (w := w) (K := K) (mg := mg) (base := base) (N := N__law_row) (qual := "_law_row") (sc := defScope s__law_row) (f := f) (cdv := cdv) (A := A) (outer := outer) (s := s) (H := H) (E := E)
  exact (ss_cons (ss_setO (i := 2) C rfl (by first | exact Or.inl rfl | exact Or.inr rfl) (sf_lst sa_nil))
  (ss_cons (ss_set (i := 3) C rfl (by first | exact Or.inl rfl | exact Or.inr rfl) (se_var (pv 0)))
  (ss_cons (ss_set (i := 4) C rfl (by first | exact Or.inl rfl | exact Or.inr rfl) (se_add (SE.toQ (se_mod (SE.toQ (se_int1 (by rfl) T.m_int (sq_var (pv 0)))) (SE.toQ se_int))) (SE.toQ se_int)))
  (ss_cons (ss_for C hp (si_rng1 (by rfl) T.m_range (sa_cons (se_var (pv 1)) sa_nil)) (st_one C.nd rfl (by first | exact Or.inl rfl | exact Or.inr rfl)) (ss_one (ss_if (st_ge (sq_var (pv 0)) (SE.toQ (se_pow (SE.toQ se_int) (SE.toQ se_int)))) (ss_cons (ss_app (pv 2) (se_mod (SE.toQ (se_int1 (by rfl) T.m_int (sq_var (pv 3)))) (SE.toQ se_int)))
  (ss_one (ss_set (i := 3) C rfl (by first | exact Or.inl rfl | exact Or.inr rfl) (se_fdiv (sq_var (pv 3)) (SE.toQ se_int))))) (ss_cons (ss_set (i := 4) C rfl (by first | exact Or.inl rfl | exact Or.inr rfl) (se_mod (SE.toQ (se_int1 (by rfl) T.m_int (SE.toQ (se_add (SE.toQ (se_mul (sq_var (pv 4)) (SE.toQ se_int))) (sq_var (pv 5)))))) (SE.toQ se_int)))
  (ss_one (ss_app (pv 2) (se_mod (SE.toQ (se_fdiv (SE.toQ (se_mod (SE.toQ (se_int1 (by rfl) T.m_int (SE.toQ (se_mul (sq_var (pv 4)) (SE.toQ se_int))))) (SE.toQ se_int))) (SE.toQ se_int))) (SE.toQ se_int))))))))
  (ss_one (ss_retO (pv 2)))))))
theorem K__law_row (T : Facts K mg) (TB : Tbs K mg base) : Kn P w K mg base 1 "_law_row" 2 [] F__law_row := (KF__law_row T TB).kn
noncomputable def g__law_word : En → Oc Res :=
  (sq (asg 1 (cst (.str "abcdefghijklmnopqrstuvwxyz")))
  (sq (asg 2 (bi ixD (vo 1) (bi modD (vo 0) (cst (.int 26)))))
  (sq (iff (tst (bi (cmpD fun i j => decide (j < i)) (bi modD (bi fdivD (vo 0) (cst (.int 26))) (cst (.int 3))) (cst (.int 0)))) (asg 2 (bi addD (vo 2) (bi ixD (vo 1) (bi modD (bi fdivD (vo 0) (cst (.int 3))) (cst (.int 26)))))) sNx)
  (sq (iff (tst (bi eqD (bi modD (bi fdivD (vo 0) (cst (.int 26))) (cst (.int 3))) (cst (.int 2)))) (asg 2 (bi addD (bi addD (bi addD (vo 2) (bi ixD (vo 1) (bi modD (bi fdivD (vo 0) (cst (.int 5))) (cst (.int 26))))) (bi ixD (vo 1) (bi modD (bi fdivD (vo 0) (cst (.int 11))) (cst (.int 26))))) (bi ixD (vo 1) (bi modD (bi fdivD (vo 0) (cst (.int 2))) (cst (.int 26)))))) sNx)
  (ret (vr 2))))))
noncomputable def F__law_word : List D → Oc D := fnB 3 1 g__law_word
theorem K__law_word (T : Facts K mg) (TB : Tbs K mg base) : Kn P w K mg base 1 "_law_word" 1 [] F__law_word := by
  obtain ⟨f, fd, F, gm⟩ := T.f__law_word
  refine ⟨f, fd, ["_law_number"], [], [], fnD_ok (N := N__law_word) (k := 0) F sc__law_word (fun cdv A outer s H E hc hr C => ?_), gm, F.kp, (F.bindsN fun _ _ _ _ _ _ us hl => match us, hl with | [_], _ => rfl), .nil, fun _ => .nil⟩
  have hp := po_def (P := P) (w := w) (K := K) (mg := mg) (base := base) (N := N__law_word) (qual := "_law_word") (sc := defScope s__law_word) (f := f) (cdv := cdv) (A := A) (outer := outer) (s := s) (H := H) (E := E)
  exact (ss_cons (ss_set (i := 1) C rfl (by first | exact Or.inl rfl | exact Or.inr rfl) se_str)
  (ss_cons (ss_set (i := 2) C rfl (by first | exact Or.inl rfl | exact Or.inr rfl) (se_ix (sq_var (pv 1)) (SE.toQ (se_mod (sq_var (pv 0)) (SE.toQ se_int))) (fun _ _ => rfl)))
  (ss_cons (ss_if (st_gt (SE.toQ (se_mod (SE.toQ (se_fdiv (sq_var (pv 0)) (SE.toQ se_int))) (SE.toQ se_int))) (SE.toQ se_int)) (ss_one (ss_set (i := 2) C rfl (by first | exact Or.inl rfl | exact Or.inr rfl) (se_add (sq_var (pv 2)) (SE.toQ (se_ix (sq_var (pv 1)) (SE.toQ (se_mod (SE.toQ (se_fdiv (sq_var (pv 0)) (SE.toQ se_int))) (SE.toQ se_int))) (fun _ _ => rfl)))))) ss_nil)
  (ss_cons (ss_if (st_eq (SE.toQ (se_mod (SE.toQ (se_fdiv (sq_var (pv 0)) (SE.toQ se_int))) (SE.toQ se_int))) (SE.toQ se_int) C.units) (ss_one (ss_set (i := 2) C rfl (by first | exact Or.inl rfl | exact Or.inr rfl) (se_add (SE.toQ (se_add (SE.toQ (se_add (sq_var (pv 2)) (SE.toQ (se_ix (sq_var (pv 1)) (SE.toQ (se_mod (SE.toQ (se_fdiv (sq_var (pv 0)) (SE.toQ se_int))) (SE.toQ se_int))) (fun _ _ => rfl))))) (SE.toQ (se_ix (sq_var (pv 1)) (SE.toQ (se_mod (SE.toQ (se_fdiv (sq_var (pv 0)) (SE.toQ se_int))) (SE.toQ se_int))) (fun _ _ => rfl))))) (SE.toQ (se_ix (sq_var (pv 1)) (SE.toQ (se_mod (SE.toQ (se_fdiv (sq_var (pv 0)) (SE.toQ se_int))) (SE.toQ se_int))) (fun _ _ => rfl)))))) ss_nil)
  (ss_one (ss_ret (se_var (pv 2))))))))
noncomputable def g__law_names : En → Oc Res :=
  (sq (asg 1 (cal F__law_row 2 [] (aC (vr 0) (aC (cst (.int 6)) aN))))
  (sq (asgO 2 (lsd aN))
  (sq (fr (.one 3) (rng1 (aC (bi ixD (lsd (aC (cst (.int 1)) (aC (cst (.int 2)) (aC (cst (.int 2)) (aC (cst (.int 3)) (aC (cst (.int 3)) (aC (cst (.int 4)) (aC (cst (.int 2)) (aC (cst (.int 3)) (aC (cst (.int 5)) aN)))))))))) (bi modD (bi ixD (vo 1) (cst (.int 5))) (cst (.int 9)))) aN)) (sq (asg 4 (cal F__law_word 1 [] (aC (bi ixD (vo 1) (vo 3)) aN)))
  (sq (iff (tst (bi eqD (bi modD (bi fdivD (bi ixD (vo 1) (vo 3)) (cst (.int 50))) (cst (.int 6))) (cst (.int 5)))) (asg 4 (slc (bi addD (vo 4) (cst (.str "abcdefgh"))) none (some (bi addD (cst (.int 7)) (bi modD (bi ixD (vo 1) (vo 3)) (cst (.int 2))))))) sNx)
  (sq (iff (tst (bi inD (vo 4) (vo 2))) (asg 4 (slc (bi addD (vo 4) (cst (.str "q"))) (some (un negD (cst (.int 8)))) none)) sNx)
  (iff (tst (bi ninD (vo 4) (vo 2))) (app 2 (vr 4)) sNx)))))
  (retO 2))))
noncomputable def F__law_names : List D → Oc D := fnF 5 1 g__law_names
theorem KF__law_names (T : Facts K mg) (TB : Tbs K mg base) : KnF P w K mg base 2 "_law_names" 1 [] F__law_names := by
  obtain ⟨f, fd, F, gm⟩ := T.f__law_names
  have K__law_row := K__law_row (P := P) (w := w) (base := base) T TB
  have KF__law_row := KF__law_row (P := P) (w := w) (base := base) T TB
  have K__law_word := K__law_word (P := P) (w := w) (base := base) T TB
  refine ⟨f, fd, ["_law_cell_here"], [], [], fnF_ok (N := N__law_names) (k := 1) F sc__law_names (fun cdv A outer s H E hc hr C => ?_), gm, F.kp, (F.bindsN fun _ _ _ _ _ _ us hl => match us, hl with | [_], _ => rfl), .nil, fun _ => .nil⟩
  have hp := po_def (P := P) (w := w) (K := K) (mg := mg) (base := base) (N := N__law_names) (qual := "_law_names") (sc := defScope s__law_names) (f := f) (cdv := cdv) (A := A) (outer := outer) (s := s) (H := H) (E := E)
  exact (ss_cons (ss_set (i := 1) C rfl (by first | exact Or.inl rfl | exact Or.inr rfl) (se_call K__law_row C (hr.mono (by decide)) (by rfl) (sa_cons (se_var (pv 0)) (sa_cons se_int sa_nil))))
  (ss_cons (ss_setO (i := 2) C rfl (by first | exact Or.inl rfl | exact Or.inr rfl) (sf_lst sa_nil))
  (ss_cons (ss_for C hp (si_rng1 (by rfl) T.m_range (sa_cons (se_ix (SE.toQ (SF.toE (sf_lst (sa_cons se_int (sa_cons se_int (sa_cons se_int (sa_cons se_int (sa_cons se_int (sa_cons se_int (sa_cons se_int (sa_cons se_int (sa_cons se_int sa_nil)))))))))))) (SE.toQ (se_mod (SE.toQ (se_ix (sq_var (pv 1)) (SE.toQ se_int) (fun _ _ => rfl))) (SE.toQ se_int))) (fun _ _ => rfl)) sa_nil)) (st_one C.nd rfl (by first | exact Or.inl rfl | exact Or.inr rfl)) (ss_cons (ss_set (i := 4) C rfl (by first | exact Or.inl rfl | exact Or.inr rfl) (se_call K__law_word C (hr.mono (by decide)) (by rfl) (sa_cons (se_ix (sq_var (pv 1)) (sq_var (pv 3)) (fun _ _ => rfl)) sa_nil)))
  (ss_cons (ss_if (st_eq (SE.toQ (se_mod (SE.toQ (se_fdiv (SE.toQ (se_ix (sq_var (pv 1)) (sq_var (pv 3)) (fun _ _ => rfl))) (SE.toQ se_int))) (SE.toQ se_int))) (SE.toQ se_int) C.units) (ss_one (ss_set (i := 4) C rfl (by first | exact Or.inl rfl | exact Or.inr rfl) (se_sl (SE.toQ (se_add (sq_var (pv 4)) (SE.toQ se_str))) so_none (so_some (se_add (SE.toQ se_int) (SE.toQ (se_mod (SE.toQ (se_ix (sq_var (pv 1)) (sq_var (pv 3)) (fun _ _ => rfl))) (SE.toQ se_int)))))))) ss_nil)
  (ss_cons (ss_if (st_in (sq_var (pv 4)) (sq_var (pv 2)) C.units) (ss_one (ss_set (i := 4) C rfl (by first | exact Or.inl rfl | exact Or.inr rfl) (se_sl (SE.toQ (se_add (sq_var (pv 4)) (SE.toQ se_str))) (so_some (se_neg (SE.toQ se_int))) so_none))) ss_nil)
  (ss_one (ss_if (st_nin (sq_var (pv 4)) (sq_var (pv 2)) C.units) (ss_one (ss_app (pv 2) (se_var (pv 4)))) ss_nil))))))
  (ss_one (ss_retO (pv 2))))))
theorem K__law_names (T : Facts K mg) (TB : Tbs K mg base) : Kn P w K mg base 2 "_law_names" 1 [] F__law_names := (KF__law_names T TB).kn
noncomputable def g__law_rule : En → Oc Res :=
  (sq (asg 2 (bi addD (cst (.int 1)) (bi modD (bi ixD (vo 0) (cst (.int 0))) (cst (.int 4)))))
  (sq (asg 3 (lc (.one 5) [5] (rng1 (aC (vr 2) aN)) yes (bi eqD (bi modD (bi fdivD (bi fdivD (bi ixD (vo 0) (cst (.int 1))) (bi powD (cst (.int 2)) (cst (.int 3)))) (bi addD (cst (.int 1)) (bi mulD (cst (.int 2)) (vo 5)))) (cst (.int 2))) (cst (.int 0)))))
  (sq (asgO 4 (lsd aN))
  (sq (fr (.one 5) (rng1 (aC (vr 2) aN)) (app 4 (un tupleD (lc (.one 6) [6] (rng1 (aC (vr 1) aN)) yes (bi modD (bi fdivD (bi ixD (vo 0) (bi addD (cst (.int 2)) (bi modD (bi addD (bi mulD (vo 1) (vo 5)) (vo 6)) (cst (.int 12))))) (bi addD (cst (.int 1)) (vo 5))) (vo 2))))))
  (frz 4 (ret (lsd (aC (un tupleD (vo 3)) (aC (un tupleD (vo 4)) aN)))))))))
noncomputable def F__law_rule : List D → Oc D := fnF 7 2 g__law_rule
theorem KF__law_rule (T : Facts K mg) (TB : Tbs K mg base) : KnF P w K mg base 1 "_law_rule" 2 [] F__law_rule := by
  obtain ⟨f, fd, F, gm⟩ := T.f__law_rule
  refine ⟨f, fd, ["_law_row_here", "_law_count"], [], [], fnF_ok (N := N__law_rule) (k := 0) F sc__law_rule (fun cdv A outer s H E hc hr C => ?_), gm, F.kp, (F.bindsN fun _ _ _ _ _ _ us hl => match us, hl with | [_, _], _ => rfl), .nil, fun _ => .nil⟩
  have hp := po_def (P := P) (w := w) (K := K) (mg := mg) (base := base) (N := N__law_rule) (qual := "_law_rule") (sc := defScope s__law_rule) (f := f) (cdv := cdv) (A := A) (outer := outer) (s := s) (H := H) (E := E)
  exact (ss_cons (ss_set (i := 2) C rfl (by first | exact Or.inl rfl | exact Or.inr rfl) (se_add (SE.toQ se_int) (SE.toQ (se_mod (SE.toQ (se_ix (sq_var (pv 0)) (SE.toQ se_int) (fun _ _ => rfl))) (SE.toQ se_int)))))
  (ss_cons (ss_setLc (i := 3) C rfl rfl (sw_true rfl rfl rfl (by decide +kernel)) (si_rng1 (by rfl) T.m_range (sa_cons (se_var (pv 2)) sa_nil)) (blkOk_by (own := [("_law_k", 5)]) (N := N__law_rule) (sc := defScope s__law_rule) (by decide +kernel)) (fun _ _ _ _ _ => (st_one (Ctx.blk C _ _ _ _ _).nd rfl (by first | exact Or.inl rfl | exact Or.inr rfl))) (fun _ _ _ _ _ => sts_nil) (fun _ _ _ _ _ => (se_eq (SE.toQ (se_mod (SE.toQ (se_fdiv (SE.toQ (se_fdiv (SE.toQ (se_ix (sq_var (pv 0)) (SE.toQ se_int) (fun _ _ => rfl))) (SE.toQ (se_pow (SE.toQ se_int) (SE.toQ se_int))))) (SE.toQ (se_add (SE.toQ se_int) (SE.toQ (se_mul (SE.toQ se_int) (sq_var (pv 5)))))))) (SE.toQ se_int))) (SE.toQ se_int) (Ctx.blk C _ _ _ _ _).units)) (by decide))
  (ss_cons (ss_setO (i := 4) C rfl (by first | exact Or.inl rfl | exact Or.inr rfl) (sf_lst sa_nil))
  (ss_cons (ss_for C hp (si_rng1 (by rfl) T.m_range (sa_cons (se_var (pv 2)) sa_nil)) (st_one C.nd rfl (by first | exact Or.inl rfl | exact Or.inr rfl)) (ss_one (ss_app (pv 4) (se_tuple (by rfl) T.m_tuple (SE.toQ (SF.toE (sf_lc C (si_rng1 (by rfl) T.m_range (sa_cons (se_var (pv 1)) sa_nil)) (blkOk_by (own := [("_law_at", 6)]) (N := N__law_rule) (sc := defScope s__law_rule) (by decide +kernel)) (fun _ _ _ _ _ => (st_one (Ctx.blk C _ _ _ _ _).nd rfl (by first | exact Or.inl rfl | exact Or.inr rfl))) (fun _ _ _ _ _ => sts_nil) (fun _ _ _ _ _ => (se_mod (SE.toQ (se_fdiv (SE.toQ (se_ix (sq_var (pv 0)) (SE.toQ (se_add (SE.toQ se_int) (SE.toQ (se_mod (SE.toQ (se_add (SE.toQ (se_mul (sq_var (pv 1)) (sq_var (pv 5)))) (sq_var (pv 6)))) (SE.toQ se_int))))) (fun _ _ => rfl))) (SE.toQ (se_add (SE.toQ se_int) (sq_var (pv 5)))))) (sq_var (pv 2)))) (by decide))))))))
  (ss_one (ss_frz 4 (ss_retF (sf_lst (sa_cons (se_tuple (by rfl) T.m_tuple (sq_var (pv 3))) (sa_cons (se_tuple (by rfl) T.m_tuple (sq_var (pv 4))) sa_nil))))))))))
theorem K__law_rule (T : Facts K mg) (TB : Tbs K mg base) : Kn P w K mg base 1 "_law_rule" 2 [] F__law_rule := (KF__law_rule T TB).kn
noncomputable def g__law_rules : En → Oc Res :=
  (sq (asg 2 (cal F__law_row 2 [] (aC (vr 0) (aC (cst (.int 43)) aN))))
  (ret (lc (.one 3) [3] (rng1 (aC (bi ixD (lsd (aC (cst (.int 0)) (aC (cst (.int 1)) (aC (cst (.int 1)) (aC (cst (.int 2)) (aC (cst (.int 2)) (aC (cst (.int 3)) aN))))))) (bi modD (bi ixD (vo 2) (cst (.int 0))) (cst (.int 6)))) aN)) yes (cal F__law_rule 2 [] (aC (slc (vo 2) (some (bi addD (cst (.int 1)) (bi mulD (cst (.int 14)) (vo 3)))) (some (bi addD (cst (.int 15)) (bi mulD (cst (.int 14)) (vo 3))))) (aC (vr 1) aN))))))
noncomputable def F__law_rules : List D → Oc D := fnF 4 2 g__law_rules
theorem KF__law_rules (T : Facts K mg) (TB : Tbs K mg base) : KnF P w K mg base 2 "_law_rules" 2 [] F__law_rules := by
  obtain ⟨f, fd, F, gm⟩ := T.f__law_rules
  have K__law_row := K__law_row (P := P) (w := w) (base := base) T TB
  have KF__law_row := KF__law_row (P := P) (w := w) (base := base) T TB
  have K__law_rule := K__law_rule (P := P) (w := w) (base := base) T TB
  have KF__law_rule := KF__law_rule (P := P) (w := w) (base := base) T TB
  refine ⟨f, fd, ["_law_cell_here", "_law_count"], [], [], fnF_ok (N := N__law_rules) (k := 1) F sc__law_rules (fun cdv A outer s H E hc hr C => ?_), gm, F.kp, (F.bindsN fun _ _ _ _ _ _ us hl => match us, hl with | [_, _], _ => rfl), .nil, fun _ => .nil⟩
  have hp := po_def (P := P) (w := w) (K := K) (mg := mg) (base := base) (N := N__law_rules) (qual := "_law_rules") (sc := defScope s__law_rules) (f := f) (cdv := cdv) (A := A) (outer := outer) (s := s) (H := H) (E := E)
  exact (ss_cons (ss_set (i := 2) C rfl (by first | exact Or.inl rfl | exact Or.inr rfl) (se_call K__law_row C (hr.mono (by decide)) (by rfl) (sa_cons (se_var (pv 0)) (sa_cons se_int sa_nil))))
  (ss_one (ss_retF (sf_lc C (si_rng1 (by rfl) T.m_range (sa_cons (se_ix (SE.toQ (SF.toE (sf_lst (sa_cons se_int (sa_cons se_int (sa_cons se_int (sa_cons se_int (sa_cons se_int (sa_cons se_int sa_nil))))))))) (SE.toQ (se_mod (SE.toQ (se_ix (sq_var (pv 2)) (SE.toQ se_int) (fun _ _ => rfl))) (SE.toQ se_int))) (fun _ _ => rfl)) sa_nil)) (blkOk_by (own := [("_law_k", 3)]) (N := N__law_rules) (sc := defScope s__law_rules) (by decide +kernel)) (fun _ _ _ _ _ => (st_one (Ctx.blk C _ _ _ _ _).nd rfl (by first | exact Or.inl rfl | exact Or.inr rfl))) (fun _ _ _ _ _ => sts_nil) (fun _ _ _ _ _ => (se_call K__law_rule (Ctx.blk C _ _ _ _ _) (hr.mono (by decide)) (by rfl) (sa_cons (se_sl (sq_var (pv 2)) (so_some (se_add (SE.toQ se_int) (SE.toQ (se_mul (SE.toQ se_int) (sq_var (pv 3)))))) (so_some (se_add (SE.toQ se_int) (SE.toQ (se_mul (SE.toQ se_int) (sq_var (pv 3))))))) (sa_cons (se_var (pv 1)) sa_nil)))) (by decide)))))
theorem K__law_rules (T : Facts K mg) (TB : Tbs K mg base) : Kn P w K mg base 2 "_law_rules" 2 [] F__law_rules := (KF__law_rules T TB).kn
noncomputable def g__law_trace : En → Oc Res :=
  (ret (lc (.one 3) [3] (itm (cal F__law_row 2 [] (aC (vr 1) (aC (vr 2) aN)))) yes (bi ixD (vo 0) (bi modD (vo 3) (un lenD (vo 0))))))
noncomputable def F__law_trace : List D → Oc D := fnF 4 3 g__law_trace
theorem KF__law_trace (T : Facts K mg) (TB : Tbs K mg base) : KnF P w K mg base 2 "_law_trace" 3 [] F__law_trace := by
  obtain ⟨f, fd, F, gm⟩ := T.f__law_trace
  have K__law_row := K__law_row (P := P) (w := w) (base := base) T TB
  have KF__law_row := KF__law_row (P := P) (w := w) (base := base) T TB
  refine ⟨f, fd, ["_law_names_here", "_law_cell_here", "_law_size"], [], [], fnF_ok (N := N__law_trace) (k := 1) F sc__law_trace (fun cdv A outer s H E hc hr C => ?_), gm, F.kp, (F.bindsN fun _ _ _ _ _ _ us hl => match us, hl with | [_, _, _], _ => rfl), .nil, fun _ => .nil⟩
  have hp := po_def (P := P) (w := w) (K := K) (mg := mg) (base := base) (N := N__law_trace) (qual := "_law_trace") (sc := defScope s__law_trace) (f := f) (cdv := cdv) (A := A) (outer := outer) (s := s) (H := H) (E := E)
  exact (ss_one (ss_retF (sf_lc C (si_seq (se_call K__law_row C (hr.mono (by decide)) (by rfl) (sa_cons (se_var (pv 1)) (sa_cons (se_var (pv 2)) sa_nil)))) (blkOk_by (own := [("_law_number", 3)]) (N := N__law_trace) (sc := defScope s__law_trace) (by decide +kernel)) (fun _ _ _ _ _ => (st_one (Ctx.blk C _ _ _ _ _).nd rfl (by first | exact Or.inl rfl | exact Or.inr rfl))) (fun _ _ _ _ _ => sts_nil) (fun _ _ _ _ _ => (se_ix (sq_var (pv 0)) (SE.toQ (se_mod (sq_var (pv 3)) (SE.toQ (se_len (by rfl) T.m_len (sq_var (pv 0)))))) (fun _ _ => rfl))) (by decide))))
theorem K__law_trace (T : Facts K mg) (TB : Tbs K mg base) : Kn P w K mg base 2 "_law_trace" 3 [] F__law_trace := (KF__law_trace T TB).kn
noncomputable def g__law_all : En → Oc Res :=
  (sq (asg 2 (lsd (aC (lsd aN) aN)))
  (sq (asg 3 (lsd (aC (lsd aN) aN)))
  (sq (fr (.one 4) (rng1 (aC (vr 1) aN)) (sq (asg 5 (lsd aN))
  (sq (fr (.one 6) (itm (vr 2)) (asg 5 (bi addD (vo 5) (lc (.one 7) [7] (itm (vr 0)) yes (bi addD (vo 6) (lsd (aC (vr 7) aN)))))))
  (sq (asg 2 (vr 5))
  (asg 3 (bi addD (vo 3) (vo 2)))))))
  (ret (vr 3)))))
noncomputable def F__law_all : List D → Oc D := fnB 8 2 g__law_all
theorem K__law_all (T : Facts K mg) (TB : Tbs K mg base) : Kn P w K mg base 1 "_law_all" 2 [] F__law_all := by
  obtain ⟨f, fd, F, gm⟩ := T.f__law_all
  refine ⟨f, fd, ["_law_names_here", "_law_size"], [], [], fnD_ok (N := N__law_all) (k := 0) F sc__law_all (fun cdv A outer s H E hc hr C => ?_), gm, F.kp, (F.bindsN fun _ _ _ _ _ _ us hl => match us, hl with | [_, _], _ => rfl), .nil, fun _ => .nil⟩
  have hp := po_def (P := P) (w := w) (K := K) (mg := mg) (base := base) (N := N__law_all) (qual := "_law_all") (sc := defScope s__law_all) (f := f) (cdv := cdv) (A := A) (outer := outer) (s := s) (H := H) (E := E)
  exact (ss_cons (ss_set (i := 2) C rfl (by first | exact Or.inl rfl | exact Or.inr rfl) (SF.toE (sf_lst (sa_cons (SF.toE (sf_lst sa_nil)) sa_nil))))
  (ss_cons (ss_set (i := 3) C rfl (by first | exact Or.inl rfl | exact Or.inr rfl) (SF.toE (sf_lst (sa_cons (SF.toE (sf_lst sa_nil)) sa_nil))))
  (ss_cons (ss_for C hp (si_rng1 (by rfl) T.m_range (sa_cons (se_var (pv 1)) sa_nil)) (st_one C.nd rfl (by first | exact Or.inl rfl | exact Or.inr rfl)) (ss_cons (ss_set (i := 5) C rfl (by first | exact Or.inl rfl | exact Or.inr rfl) (SF.toE (sf_lst sa_nil)))
  (ss_cons (ss_for C hp (si_seq (se_var (pv 2))) (st_one C.nd rfl (by first | exact Or.inl rfl | exact Or.inr rfl)) (ss_one (ss_set (i := 5) C rfl (by first | exact Or.inl rfl | exact Or.inr rfl) (se_add (sq_var (pv 5)) (SE.toQ (SF.toE (sf_lc C (si_seq (se_var (pv 0))) (blkOk_by (own := [("_law_name", 7)]) (N := N__law_all) (sc := defScope s__law_all) (by decide +kernel)) (fun _ _ _ _ _ => (st_one (Ctx.blk C _ _ _ _ _).nd rfl (by first | exact Or.inl rfl | exact Or.inr rfl))) (fun _ _ _ _ _ => sts_nil) (fun _ _ _ _ _ => (se_add (sq_var (pv 6)) (SE.toQ (SF.toE (sf_lst (sa_cons (se_var (pv 7)) sa_nil)))))) (by decide))))))))
  (ss_cons (ss_set (i := 2) C rfl (by first | exact Or.inl rfl | exact Or.inr rfl) (se_var (pv 5)))
  (ss_one (ss_set (i := 3) C rfl (by first | exact Or.inl rfl | exact Or.inr rfl) (se_add (sq_var (pv 3)) (sq_var (pv 2)))))))))
  (ss_one (ss_ret (se_var (pv 3)))))))
noncomputable def g__law_holds : En → Oc Res :=
  (sq (asg 5 (cal F_accepts 3 [] (aC (vr 0) (aC (vr 1) (aC (bi addD (vo 2) (vo 4)) aN)))))
  (ret (anV (orV (bi neD (vo 3) (cst (.str "always"))) (vr 5)) (orV (bi neD (vo 3) (cst (.str "never"))) (ntV (vr 5))))))
noncomputable def F__law_holds : List D → Oc D := fnB 6 5 g__law_holds
theorem K__law_holds (T : Facts K mg) (TB : Tbs K mg base) : Kn P w K mg base 3 "_law_holds" 5 [] F__law_holds := by
  obtain ⟨f, fd, F, gm⟩ := T.f__law_holds
  have K_accepts := K_accepts (P := P) (w := w) (base := base) T TB
  refine ⟨f, fd, ["_law_made", "_law_names_here", "_law_trace_here", "_law_told", "_law_more"], [], [], fnD_ok (N := N__law_holds) (k := 2) F sc__law_holds (fun cdv A outer s H E hc hr C => ?_), gm, F.kp, (F.bindsN fun _ _ _ _ _ _ us hl => match us, hl with | [_, _, _, _, _], _ => rfl), .nil, fun _ => .nil⟩
  have hp := po_def (P := P) (w := w) (K := K) (mg := mg) (base := base) (N := N__law_holds) (qual := "_law_holds") (sc := defScope s__law_holds) (f := f) (cdv := cdv) (A := A) (outer := outer) (s := s) (H := H) (E := E)
  exact (ss_cons (ss_set (i := 5) C rfl (by first | exact Or.inl rfl | exact Or.inr rfl) (se_call K_accepts C (hr.mono (by decide)) (by rfl) (sa_cons (se_var (pv 0)) (sa_cons (se_var (pv 1)) (sa_cons (se_add (sq_var (pv 2)) (sq_var (pv 4))) sa_nil)))))
  (ss_one (ss_ret (se_and (se_or (se_ne (sq_var (pv 3)) (SE.toQ se_str) C.units) (se_one (se_var (pv 5)))) (se_one (se_or (se_ne (sq_var (pv 3)) (SE.toQ se_str) C.units) (se_one (se_not (se_var (pv 5))))))))))
noncomputable def g__law_differs : En → Oc Res :=
  (sq (asg 4 (lc (.one 5) [5] (itm (cal F__law_all 2 [] (aC (vr 1) (aC (cst (.int 3)) aN)))) yes (cal F_accepts 3 [] (aC (vr 0) (aC (vr 1) (aC (bi addD (vo 2) (vo 5)) aN))))))
  (sq (iff (orr (tst (bi eqD (vo 3) (cst (.str "always")))) (tst (bi eqD (vo 3) (cst (.str "never"))))) (ret (bi eqD (bi ixD (vo 4) (cst (.int 0))) (bi eqD (vo 3) (cst (.str "always"))))) sNx)
  (ret (anV (bi eqD (bi ixD (vo 4) (cst (.int 0))) (bi eqD (vo 3) (cst (.str "yes")))) (anV (bi inD (cst (.bl true)) (vo 4)) (bi inD (cst (.bl false)) (vo 4)))))))
noncomputable def F__law_differs : List D → Oc D := fnB 6 4 g__law_differs
theorem K__law_differs (T : Facts K mg) (TB : Tbs K mg base) : Kn P w K mg base 3 "_law_differs" 4 [] F__law_differs := by
  obtain ⟨f, fd, F, gm⟩ := T.f__law_differs
  have K__law_all := K__law_all (P := P) (w := w) (base := base) T TB
  have K_accepts := K_accepts (P := P) (w := w) (base := base) T TB
  refine ⟨f, fd, ["_law_made", "_law_names_here", "_law_trace_here", "_law_told"], [], [], fnD_ok (N := N__law_differs) (k := 2) F sc__law_differs (fun cdv A outer s H E hc hr C => ?_), gm, F.kp, (F.bindsN fun _ _ _ _ _ _ us hl => match us, hl with | [_, _, _, _], _ => rfl), .nil, fun _ => .nil⟩
  have hp := po_def (P := P) (w := w) (K := K) (mg := mg) (base := base) (N := N__law_differs) (qual := "_law_differs") (sc := defScope s__law_differs) (f := f) (cdv := cdv) (A := A) (outer := outer) (s := s) (H := H) (E := E)
  exact (ss_cons (ss_setLc (i := 4) C rfl rfl (sw_true rfl rfl rfl (by decide +kernel)) (si_seq (se_call K__law_all C (hr.mono (by decide)) (by rfl) (sa_cons (se_var (pv 1)) (sa_cons se_int sa_nil)))) (blkOk_by (own := [("_law_more", 5)]) (N := N__law_differs) (sc := defScope s__law_differs) (by decide +kernel)) (fun _ _ _ _ _ => (st_one (Ctx.blk C _ _ _ _ _).nd rfl (by first | exact Or.inl rfl | exact Or.inr rfl))) (fun _ _ _ _ _ => sts_nil) (fun _ _ _ _ _ => (se_call K_accepts (Ctx.blk C _ _ _ _ _) (hr.mono (by decide)) (by rfl) (sa_cons (se_var (pv 0)) (sa_cons (se_var (pv 1)) (sa_cons (se_add (sq_var (pv 2)) (sq_var (pv 5))) sa_nil))))) (by decide))
  (ss_cons (ss_if (st_of (sw_or (st_eq (sq_var (pv 3)) (SE.toQ se_str) C.units) (sw_or1 (st_eq (sq_var (pv 3)) (SE.toQ se_str) C.units)))) (ss_one (ss_ret (se_eq (SE.toQ (se_ix (sq_var (pv 4)) (SE.toQ se_int) (fun _ _ => rfl))) (SE.toQ (se_eq (sq_var (pv 3)) (SE.toQ se_str) C.units)) C.units))) ss_nil)
  (ss_one (ss_ret (se_and (se_eq (SE.toQ (se_ix (sq_var (pv 4)) (SE.toQ se_int) (fun _ _ => rfl))) (SE.toQ (se_eq (sq_var (pv 3)) (SE.toQ se_str) C.units)) C.units) (se_and (se_in (SE.toQ se_bl) (sq_var (pv 4)) C.units) (se_one (se_in (SE.toQ se_bl) (sq_var (pv 4)) C.units))))))))
noncomputable def g_law : En → Oc Res :=
  (sq (asg 1 (cal F__law_names 1 [] (aC (cal F__law_cell 2 [] (aC (vr 0) (aC (cst (.int 0)) aN))) aN)))
  (sq (asg 2 (cal F__law_trace 3 [] (aC (vr 1) (aC (cal F__law_cell 2 [] (aC (vr 0) (aC (cst (.int 2)) aN))) (aC (bi modD (cal F__law_cell 2 [] (aC (vr 0) (aC (cst (.int 3)) aN))) (cst (.int 30))) aN)))))
  (sq (fr (.one 3) (itm (cal F__law_rules 2 [] (aC (cal F__law_cell 2 [] (aC (vr 0) (aC (cst (.int 1)) aN))) (aC (un lenD (vo 1)) aN)))) (sq (asg 4 (cal F_Rule___init__ 2 [] (aC (un listD (bi ixD (vo 3) (cst (.int 0)))) (aC (lc (.one 8) [8] (itm (bi ixD (vo 3) (cst (.int 1)))) yes (un listD (vo 8))) aN))))
  (sq (asg 5 (un revD (vo 2)))
  (sq (asg 6 (cal F_verdict 3 [] (aC (vr 4) (aC (vr 1) (aC (vr 5) aN)))))
  (sq (iff (orr (tst (bi ninD (vo 6) (lsd (aC (cst (.str "always")) (aC (cst (.str "never")) (aC (cst (.str "yes")) (aC (cst (.str "no")) aN))))))) (nt (tst (cal F__law_differs 4 [] (aC (vr 4) (aC (vr 1) (aC (vr 5) (aC (vr 6) aN)))))))) (ret (cst (.bl false))) sNx)
  (sq (asg 6 (cal F_verdict 3 [] (aC (vr 4) (aC (vr 1) (aC (vr 2) aN)))))
  (sq (iff (orr (tst (bi ninD (vo 6) (lsd (aC (cst (.str "always")) (aC (cst (.str "never")) (aC (cst (.str "yes")) (aC (cst (.str "no")) aN))))))) (nt (tst (cal F__law_differs 4 [] (aC (vr 4) (aC (vr 1) (aC (vr 2) (aC (vr 6) aN)))))))) (ret (cst (.bl false))) sNx)
  (fr (.one 7) (itm (bi addD (lsd (aC (cal F__law_cell 2 [] (aC (vr 0) (aC (cst (.int 4)) aN))) (aC (cal F__law_cell 2 [] (aC (vr 0) (aC (cst (.int 5)) aN))) aN))) (slc (vo 0) (some (cst (.int 6))) (some (cst (.int 20)))))) (iff (nt (tst (cal F__law_holds 5 [] (aC (vr 4) (aC (vr 1) (aC (vr 2) (aC (vr 6) (aC (cal F__law_trace 3 [] (aC (vr 1) (aC (vr 7) (aC (bi modD (vo 7) (cst (.int 30))) aN)))) aN)))))))) (ret (cst (.bl false))) sNx)))))))))
  (ret (cst (.bl true))))))
noncomputable def F_law : List D → Oc D := fnB 9 1 g_law
theorem law_fn (T : Facts K mg) (TB : Tbs K mg base) {f : Addr} {fd : FuncData} (F : FunD K "law" "law" (defArgs s_law) (defBody s_law) (defScope s_law) [] [] f fd) : FnOk P w K mg base (L2.CX P w) 4 f fd ["_law_script"] (spF K mg w 1 F_law) := by
  have K__law_cell := K__law_cell (P := P) (w := w) (base := base) T TB
  have K__law_differs := K__law_differs (P := P) (w := w) (base := base) T TB
  have K__law_holds := K__law_holds (P := P) (w := w) (base := base) T TB
  have K__law_names := K__law_names (P := P) (w := w) (base := base) T TB
  have KF__law_names := KF__law_names (P := P) (w := w) (base := base) T TB
  have K__law_rules := K__law_rules (P := P) (w := w) (base := base) T TB
  have KF__law_rules := KF__law_rules (P := P) (w := w) (base := base) T TB
  have K__law_trace := K__law_trace (P := P) (w := w) (base := base) T TB
  have KF__law_trace := KF__law_trace (P := P) (w := w) (base := base) T TB
  have K_Rule___init__ := K_Rule___init__ (P := P) (w := w) (base := base) T TB
  have K_verdict := K_verdict (P := P) (w := w) (base := base) T TB
  refine fnD_ok (N := N_law) (k := 3) F sc_law (fun cdv A outer s H E hc hr C => ?_)
  have hp := po_def (P := P) (w := w) (K := K) (mg := mg) (base := base) (N := N_law) (qual := "law") (sc := defScope s_law) (f := f) (cdv := cdv) (A := A) (outer := outer) (s := s) (H := H) (E := E)
  exact (ss_cons (ss_set (i := 1) C rfl (by first | exact Or.inl rfl | exact Or.inr rfl) (se_call K__law_names C (hr.mono (by decide)) (by rfl) (sa_cons (se_call K__law_cell C (hr.mono (by decide)) (by rfl) (sa_cons (se_var (pv 0)) (sa_cons se_int sa_nil))) sa_nil)))
  (ss_cons (ss_set (i := 2) C rfl (by first | exact Or.inl rfl | exact Or.inr rfl) (se_call K__law_trace C (hr.mono (by decide)) (by rfl) (sa_cons (se_var (pv 1)) (sa_cons (se_call K__law_cell C (hr.mono (by decide)) (by rfl) (sa_cons (se_var (pv 0)) (sa_cons se_int sa_nil))) (sa_cons (se_mod (SE.toQ (se_call K__law_cell C (hr.mono (by decide)) (by rfl) (sa_cons (se_var (pv 0)) (sa_cons se_int sa_nil)))) (SE.toQ se_int)) sa_nil)))))
  (ss_cons (ss_for C hp (si_seq (se_call K__law_rules C (hr.mono (by decide)) (by rfl) (sa_cons (se_call K__law_cell C (hr.mono (by decide)) (by rfl) (sa_cons (se_var (pv 0)) (sa_cons se_int sa_nil))) (sa_cons (se_len (by rfl) T.m_len (sq_var (pv 1))) sa_nil)))) (st_one C.nd rfl (by first | exact Or.inl rfl | exact Or.inr rfl)) (ss_cons (ss_set (i := 4) C rfl (by first | exact Or.inl rfl | exact Or.inr rfl) (SF.toE (sf_make K_Rule___init__ C (hr.mono (by decide)) (by rfl) (sa_cons (SF.toE (sf_list (by rfl) T.m_list (SE.toQ (se_ix (sq_var (pv 3)) (SE.toQ se_int) (fun _ _ => rfl))))) (sa_cons (SF.toE (sf_lc C (si_seq (se_ix (sq_var (pv 3)) (SE.toQ se_int) (fun _ _ => rfl))) (blkOk_by (own := [("_law_moves", 8)]) (N := N_law) (sc := defScope s_law) (by decide +kernel)) (fun _ _ _ _ _ => (st_one (Ctx.blk C _ _ _ _ _).nd rfl (by first | exact Or.inl rfl | exact Or.inr rfl))) (fun _ _ _ _ _ => sts_nil) (fun _ _ _ _ _ => (SF.toE (sf_list (by rfl) T.m_list (sq_var (pv 8))))) (by decide))) sa_nil)))))
  (ss_cons (ss_set (i := 5) C rfl (by first | exact Or.inl rfl | exact Or.inr rfl) (se_rev (sq_var (pv 2))))
  (ss_cons (ss_set (i := 6) C rfl (by first | exact Or.inl rfl | exact Or.inr rfl) (se_call K_verdict C (hr.mono (by decide)) (by rfl) (sa_cons (se_var (pv 4)) (sa_cons (se_var (pv 1)) (sa_cons (se_var (pv 5)) sa_nil)))))
  (ss_cons (ss_if (st_of (sw_or (st_nin (sq_var (pv 6)) (SE.toQ (SF.toE (sf_lst (sa_cons se_str (sa_cons se_str (sa_cons se_str (sa_cons se_str sa_nil))))))) C.units) (sw_or1 (st_not (st_val (se_call K__law_differs C (hr.mono (by decide)) (by rfl) (sa_cons (se_var (pv 4)) (sa_cons (se_var (pv 1)) (sa_cons (se_var (pv 5)) (sa_cons (se_var (pv 6)) sa_nil)))))))))) (ss_one (ss_ret se_bl)) ss_nil)
  (ss_cons (ss_set (i := 6) C rfl (by first | exact Or.inl rfl | exact Or.inr rfl) (se_call K_verdict C (hr.mono (by decide)) (by rfl) (sa_cons (se_var (pv 4)) (sa_cons (se_var (pv 1)) (sa_cons (se_var (pv 2)) sa_nil)))))
  (ss_cons (ss_if (st_of (sw_or (st_nin (sq_var (pv 6)) (SE.toQ (SF.toE (sf_lst (sa_cons se_str (sa_cons se_str (sa_cons se_str (sa_cons se_str sa_nil))))))) C.units) (sw_or1 (st_not (st_val (se_call K__law_differs C (hr.mono (by decide)) (by rfl) (sa_cons (se_var (pv 4)) (sa_cons (se_var (pv 1)) (sa_cons (se_var (pv 2)) (sa_cons (se_var (pv 6)) sa_nil)))))))))) (ss_one (ss_ret se_bl)) ss_nil)
  (ss_one (ss_for C hp (si_seq (se_add (SE.toQ (SF.toE (sf_lst (sa_cons (se_call K__law_cell C (hr.mono (by decide)) (by rfl) (sa_cons (se_var (pv 0)) (sa_cons se_int sa_nil))) (sa_cons (se_call K__law_cell C (hr.mono (by decide)) (by rfl) (sa_cons (se_var (pv 0)) (sa_cons se_int sa_nil))) sa_nil))))) (SE.toQ (se_sl (sq_var (pv 0)) (so_some se_int) (so_some se_int))))) (st_one C.nd rfl (by first | exact Or.inl rfl | exact Or.inr rfl)) (ss_one (ss_if (st_not (st_val (se_call K__law_holds C (hr.mono (by decide)) (by rfl) (sa_cons (se_var (pv 4)) (sa_cons (se_var (pv 1)) (sa_cons (se_var (pv 2)) (sa_cons (se_var (pv 6)) (sa_cons (se_call K__law_trace C (hr.mono (by decide)) (by rfl) (sa_cons (se_var (pv 1)) (sa_cons (se_var (pv 7)) (sa_cons (se_mod (sq_var (pv 7)) (SE.toQ se_int)) sa_nil)))) sa_nil)))))))) (ss_one (ss_ret se_bl)) ss_nil)))))))))))
  (ss_one (ss_ret se_bl)))))
end
end Lw

set_option Elab.async false
set_option linter.all false
set_option maxRecDepth 100000
set_option maxHeartbeats 4000000
namespace Lw
open Fx
theorem V_cell (ns : List Int) (k : Nat) : F__law_cell [.fz (ns.map .int), .int k] = .ok (.int (ns.getD k 0)) := by
  unfold F__law_cell g__law_cell
  by_cases h : k < ns.length
  · simp [h, ixL_nat (i := k) (d := .int ns[k]) (ds := ns.map D.int) (by simp [h])]
  · simp [h, List.getElem?_eq_none (Nat.le_of_not_lt h)]
def rowStep (big : Bool) (st : Int × Int) (k : Int) : Int × (Int × Int) :=
  if big then (st.1 % 840, (st.1 / 840, st.2)) else
    let s := (st.2 * 48271 + k) % 2147483647
    ((s * 69621) % 2147483629 / 7 % 840, (st.1, s))
def rowL (big : Bool) : List Int → Int × Int → List Int
  | [], _ => []
  | k :: ks, st => (rowStep big st k).1 :: rowL big ks (rowStep big st k).2
def row (c : Int) (n : Nat) : List Int := rowL (decide (10 ^ 18 ≤ c)) ((List.range n).map fun (i : Nat) => (i : Int)) (c, c % 2147483629 + 1)
theorem rowL_length (big : Bool) : ∀ (ks : List Int) (st : Int × Int), (rowL big ks st).length = ks.length
  | [], _ => rfl
  | k :: ks, st => by simp [rowL, rowL_length big ks]
theorem row_length (c : Int) (n : Nat) : (row c n).length = n := by simp [row, rowL_length]
theorem rowL_range (big : Bool) : ∀ (ks : List Int) (st : Int × Int), ∀ x ∈ rowL big ks st, 0 ≤ x ∧ x < 840
  | [], _, x, h => by simp [rowL] at h
  | k :: ks, st, x, h => by
    unfold rowL at h
    rcases List.mem_cons.mp h with e | h
    · subst e
      unfold rowStep
      split <;> simp only <;> omega
    · exact rowL_range big ks _ x h
theorem row_range (c : Int) (n : Nat) : ∀ x ∈ row c n, 0 ≤ x ∧ x < 840 := rowL_range _ _ _
theorem rngL_zero (n : Nat) : rngL 0 n = ((List.range n).map fun (i : Nat) => (i : Int)).map D.int := by simp [rngL]
theorem loop_row (c n : Int) : ∀ (ks : List Int) (acc : List Int) (st : Int × Int) (o : Sl), acc.length + ks.length ≤ 1000 → ∃ x y z, forL (Tg.one 5)
          (iff (tst (bi (cmpD fun i j => decide (j ≤ i)) (vo 0) (bi powD (cst (D.int 10)) (cst (D.int 18)))))
            (sq (app 2 (bi modD (un intD (vo 3)) (cst (D.int 840)))) (asg 3 (bi fdivD (vo 3) (cst (D.int 840)))))
            (sq
              (asg 4 (bi modD (un intD (bi addD (bi mulD (vo 4) (cst (D.int 48271))) (vo 5))) (cst (D.int 2147483647))))
              (app 2
                (bi modD
                  (bi fdivD (bi modD (un intD (bi mulD (vo 4) (cst (D.int 69621)))) (cst (D.int 2147483629)))
                    (cst (D.int 7)))
                  (cst (D.int 840))))))
          (ks.map D.int)
          [.sh (.int c), .sh (.int n), .ow (.lst (acc.map .int)), .sh (.int st.1), .sh (.int st.2), o] = .ok (.nx [.sh (.int c), .sh (.int n), .ow (.lst ((acc ++ rowL (decide (10 ^ 18 ≤ c)) ks st).map .int)), x, y, z])
  | [], acc, st, o, _ => ⟨_, _, _, by simp [forL_nil, rowL]; exact ⟨rfl, rfl, rfl⟩⟩
  | k :: ks, acc, st, o, h => by
    rw [List.map_cons, forL_step (bindT_one _ _ _)]
    simp only [List.length_cons] at h
    have hl : (acc.map D.int).length ≤ 1000000 := by simp; omega
    by_cases hb : 10 ^ 18 ≤ c
    · have hb2 : (1000000000000000000 : Int) ≤ c := by simpa using hb
      obtain ⟨x, y, z, ih⟩ := loop_row c n ks (acc ++ [st.1 % 840]) (st.1 / 840, st.2) (.sh (.int k)) (by simp; omega)
      refine ⟨x, y, z, ?_⟩
      simp [chk, hb2, appR_ok hl]
      simp [hb2] at ih
      rw [ih]
      simp [rowL, rowStep]
    · have hb2 : ¬ (1000000000000000000 : Int) ≤ c := by simpa using hb
      obtain ⟨x, y, z, ih⟩ := loop_row c n ks (acc ++ [((st.2 * 48271 + k) % 2147483647 * 69621) % 2147483629 / 7 % 840]) (st.1, (st.2 * 48271 + k) % 2147483647) (.sh (.int k)) (by simp; omega)
      refine ⟨x, y, z, ?_⟩
      simp [chk, hb2, appR_ok hl]
      simp [hb2] at ih
      rw [ih]
      simp [rowL, rowStep]
theorem V_row (c : Int) (n : Nat) (hn : n ≤ 1000) : F__law_row [.int c, .int n] = .ok (.lst ((row c n).map .int)) := by
  unfold F__law_row g__law_row
  simp [rng1R_nat (show n ≤ 1000000 by omega), chk]
  rw [rngL_zero]
  obtain ⟨x, y, z, h⟩ := loop_row c n ((List.range n).map fun (i : Nat) => (i : Int)) [] (c, c % 2147483629 + 1) .no (by simp; omega)
  simp only [List.map_nil] at h
  rw [h]
  simp [row]
end Lw

set_option Elab.async false
set_option linter.all false
set_option maxRecDepth 100000
set_option maxHeartbeats 4000000
namespace Lw
open Fx
open PySem (Str)
open PySem.PyData (strOk)
structure RD where
  acc : List Bool
  mv : List (List Nat)
def encB (a : List Bool) : List D := a.map .bl
@[simp] theorem encB_len (f : List Bool) : (encB f).length = f.length := by simp [encB]
def encS (a : List Str) : List D := a.map .str
@[simp] theorem encS_len (f : List Str) : (encS f).length = f.length := by simp [encS]
theorem encS_cons (x : Str) (xs : List Str) : encS (x :: xs) = .str x :: encS xs := rfl
theorem encS_app (x y : List Str) : encS (x ++ y) = encS x ++ encS y := by simp [encS]
theorem encB_ix {f : List Bool} {i : Nat} {x : Bool} (h : f[i]? = some x) : ixL (encB f) (i : Int) = .ok (.bl x) := ixL_map (f := D.bl) h
theorem encS_ix {f : List Str} {i : Nat} {x : Str} (h : f[i]? = some x) : ixL (encS f) (i : Int) = .ok (.str x) := ixL_map (f := D.str) h
@[simp] theorem allD_encB (bs : List Bool) : allD (.lst (encB bs)) = .ok (.bl (bs.all id)) := allD_lst bs
@[simp] theorem anyD_encB (bs : List Bool) : anyD (.lst (encB bs)) = .ok (.bl (bs.any id)) := anyD_lst bs
def encA (a : List Bool) : D := .tup (encB a)
def encI (f : List Nat) : List D := f.map fun (e : Nat) => D.int (e : Int)
@[simp] theorem encI_len (f : List Nat) : (encI f).length = f.length := by simp [encI]
theorem encI_cons (x : Nat) (xs : List Nat) : encI (x :: xs) = .int (x : Int) :: encI xs := rfl
theorem encI_app (x y : List Nat) : encI (x ++ y) = encI x ++ encI y := by simp [encI]
theorem encI_ix {f : List Nat} {i x : Nat} (h : f[i]? = some x) : ixL (encI f) (i : Int) = .ok (.int (x : Int)) := ixL_map (f := fun (e : Nat) => D.int (e : Int)) h
def encRow (r : List Nat) : D := .tup (encI r)
def encM (m : List (List Nat)) : D := .tup (m.map encRow)
def encR (r : RD) : D := .obj "Rule" [("accepting", encA r.acc), ("moves", encM r.mv)]
def encL (r : RD) : D := .lst [encA r.acc, encM r.mv]
def RD.a (r : RD) (x : Nat) : Bool := r.acc.getD x false
structure RD.Ok (r : RD) (n k : Nat) : Prop where
  acc : r.acc.length = n
  mv : r.mv.length = n
  row : ∀ x ∈ r.mv, x.length = k ∧ ∀ e ∈ x, e < n
  one : 1 ≤ n
  six : n ≤ 6
def RD.nexts (r : RD) (s : Nat) : List Nat := r.mv.getD s []
def RD.step (r : RD) (ns : List Str) (s : Nat) (a : Str) : Nat := (r.nexts s).getD (ns.idxOf a) 0
def RD.run (r : RD) (ns : List Str) (s : Nat) (ts : List Str) : Nat := ts.foldl (r.step ns) s
section
variable {r : RD} {n k : Nat} {ns : List Str}
theorem RD.Ok.at_ (h : r.Ok n k) {s : Nat} (hs : s < n) : r.mv[s]? = some (r.nexts s) ∧ r.nexts s ∈ r.mv := by
  have hl : s < r.mv.length := by rw [h.mv]; exact hs
  have e : r.nexts s = r.mv[s] := by simp [RD.nexts, hl]
  rw [e]
  exact ⟨List.getElem?_eq_getElem hl, List.getElem_mem hl⟩
theorem RD.Ok.stepAt (h : r.Ok n k) (hk : ns.length = k) {s : Nat} (hs : s < n) {a : Str} (ha : a ∈ ns) : (r.nexts s)[ns.idxOf a]? = some (r.step ns s a) ∧ r.step ns s a < n := by
  have hl : ns.idxOf a < (r.nexts s).length := by
    rw [(h.row _ (h.at_ hs).2).1, ← hk]
    exact List.idxOf_lt_length_of_mem ha
  have e : r.step ns s a = (r.nexts s)[ns.idxOf a] := by simp [RD.step, hl]
  rw [e]
  exact ⟨List.getElem?_eq_getElem hl, (h.row _ (h.at_ hs).2).2 _ (List.getElem_mem hl)⟩
theorem RD.Ok.run_lt (h : r.Ok n k) (hk : ns.length = k) : ∀ {ts : List Str} {s : Nat}, s < n → (∀ a ∈ ts, a ∈ ns) → r.run ns s ts < n
  | [], s, hs, _ => hs
  | a :: ts, s, hs, ha => h.run_lt hk (s := r.step ns s a) (h.stepAt hk hs (ha a List.mem_cons_self)).2 fun b hb => ha b (List.mem_cons_of_mem _ hb)
structure Nm (ns : List Str) : Prop where
  ne : ns ≠ []
  five : ns.length ≤ 5
  ok : ∀ x ∈ ns, strOk x = true
theorem loop_after (h : r.Ok n k) (hk : ns.length = k) (g : Nm ns) {dn dt : D} (hn : listD dn = .ok (.lst (encS ns))) : ∀ (ts : List Str) (s : Nat) (o : Sl), s < n → (∀ a ∈ ts, a ∈ ns) → ∃ o', forL (.one 4) (asg 3 (bi ixD (bi ixD (un (fldD [("Rule" : Str)] "moves") (vo 0)) (vo 3)) (mtD isLst indexM (un listD (vo 1)) (aC (vr 4) aN)))) (encS ts)
    [.sh (encR r), .sh dn, .sh dt, .sh (.int (s : Nat)), o] = .ok (.nx [.sh (encR r), .sh dn, .sh dt, .sh (.int (r.run ns s ts : Nat)), o'])
  | [], s, o, _, _ => ⟨o, rfl⟩
  | a :: ts, s, o, hs, ha => by
    have ha1 := ha a List.mem_cons_self
    obtain ⟨h1, h2⟩ := h.stepAt hk hs ha1
    obtain ⟨o', ih⟩ := loop_after h hk g (dt := dt) hn ts (r.step ns s a) (.sh (.str a)) h2 fun b hb => ha b (List.mem_cons_of_mem _ hb)
    refine ⟨o', ?_⟩
    rw [encS_cons, forL_step (bindT_one _ _ _)]
    have e1 : fldD [("Rule" : Str)] "moves" (encR r) = .ok (encM r.mv) := by rfl
    have e2 : ixL (r.mv.map encRow) (s : Int) = .ok (encRow (r.nexts s)) := ixL_map (h.at_ hs).1
    have e3 : indexD (.lst (encS ns)) (.str a) = .ok (.int (ns.idxOf a : Nat)) := indexD_strs (g.ok a ha1) g.ok ha1
    have e4 : ixL (encI (r.nexts s)) (ns.idxOf a : Nat) = .ok (.int (r.step ns s a : Nat)) := encI_ix h1
    simp [e1, hn, e3, encM, e2, encRow, e4]
    rw [ih]
    rfl
theorem V_after (h : r.Ok n k) (hk : ns.length = k) (g : Nm ns) {dn dt : D} {ts : List Str} (hn : listD dn = .ok (.lst (encS ns))) (ht : items dt = some (encS ts)) (ha : ∀ a ∈ ts, a ∈ ns) : F_state_after [encR r, dn, dt] = .ok (.int (r.run ns 0 ts : Nat)) := by
  unfold F_state_after g_state_after
  obtain ⟨o, e⟩ := loop_after h hk g (dt := dt) hn ts 0 .no (Nat.lt_of_lt_of_le Nat.zero_lt_one h.one) ha
  simp [ht]
  have e' : (0 : Int) = ((0 : Nat) : Int) := rfl
  rw [e', e]
  simp
theorem RD.Ok.accAt (h : r.Ok n k) {s : Nat} (hs : s < n) : r.acc[s]? = some (r.a s) := by
  have hl : s < r.acc.length := by rw [h.acc]; exact hs
  simp [RD.a, hl]
theorem V_accepts (h : r.Ok n k) (hk : ns.length = k) (g : Nm ns) {dn dt : D} {ts : List Str} (hn : listD dn = .ok (.lst (encS ns))) (ht : items dt = some (encS ts)) (ha : ∀ a ∈ ts, a ∈ ns) : F_accepts [encR r, dn, dt] = .ok (.bl (r.a (r.run ns 0 ts))) := by
  unfold F_accepts g_accepts
  have e1 : fldD [("Rule" : Str)] "accepting" (encR r) = .ok (encA r.acc) := by rfl
  have e2 : ixL (encB r.acc) (r.run ns 0 ts : Nat) = .ok (.bl (r.a (r.run ns 0 ts))) := encB_ix (h.accAt (h.run_lt hk (Nat.lt_of_lt_of_le Nat.zero_lt_one h.one) ha))
  simp [e1, V_after h hk g hn ht ha, encA, e2]
end
end Lw

set_option Elab.async false
set_option linter.all false
set_option maxRecDepth 100000
set_option maxHeartbeats 4000000
namespace Lw
open Fx
open PySem (Str)
open PySem.PyData (strOk)
def RD.Reach (r : RD) (s x : Nat) : Prop := ∀ P : Nat → Prop, P s → (∀ y z, P y → z ∈ r.nexts y → P z) → P x
structure Fd (r : RD) (n s : Nat) (f : List Nat) (j : Nat) : Prop where
  nd : f.Nodup
  lt : ∀ x ∈ f, x < n
  st : s ∈ f
  re : ∀ x ∈ f, r.Reach s x
  dn : ∀ (i : Nat) x, i < j → f[i]? = some x → ∀ y ∈ r.nexts x, y ∈ f
theorem nd_sub {α : Type} [DecidableEq α] : ∀ (l D : List α), l.Nodup → (∀ x ∈ l, x ∈ D) → l.length ≤ D.length
  | [], _, _, _ => Nat.zero_le _
  | x :: l, D, hn, hs => by
    obtain ⟨h1, h2⟩ := List.nodup_cons.mp hn
    have hx : x ∈ D := hs x List.mem_cons_self
    have ih := nd_sub l (D.erase x) h2 fun y hy => by
      have hne : y ≠ x := fun e => h1 (e ▸ hy)
      exact (List.mem_erase_of_ne hne).2 (hs y (List.mem_cons_of_mem _ hy))
    have e := List.length_erase_of_mem hx
    have hp : 0 < D.length := List.length_pos_of_mem hx
    rw [List.length_cons]
    omega
theorem nd_len {f : List Nat} {n : Nat} (nd : f.Nodup) (lt : ∀ x ∈ f, x < n) : f.length ≤ n := by
  have h := nd_sub f (List.range n) nd fun x hx => List.mem_range.mpr (lt x hx)
  simpa using h
theorem Fd.all {r : RD} {n s : Nat} {f : List Nat} {j : Nat} (F : Fd r n s f j) (h : f.length ≤ j) (x : Nat) : x ∈ f ↔ r.Reach s x := by
  refine ⟨F.re x, fun h2 => h2 (· ∈ f) F.st fun y z hy hz => ?_⟩
  obtain ⟨i, hi, e⟩ := List.getElem_of_mem hy
  exact F.dn i y (Nat.lt_of_lt_of_le hi h) (by rw [List.getElem?_eq_getElem hi, e]) z hz
theorem RD.Reach.next {r : RD} {s x y : Nat} (h : r.Reach s x) (hy : y ∈ r.nexts x) : r.Reach s y := fun P h0 hs => hs x y (h P h0 hs) hy
theorem Fd.more {r : RD} {n k s : Nat} {f g : List Nat} {j x : Nat} (ok : r.Ok n k) (F : Fd r n s f j) (hx : f[j]? = some x) (nd : (f ++ g).Nodup) (hg : ∀ y ∈ g, y ∈ r.nexts x) (hc : ∀ y ∈ r.nexts x, y ∈ f ++ g) : Fd r n s (f ++ g) (j + 1) := by
  have xm : x ∈ f := List.mem_of_getElem? hx
  have xl := F.lt x xm
  refine ⟨nd, fun y hy => ?_, List.mem_append_left _ F.st, fun y hy => ?_, fun i y hi hy z hz => ?_⟩
  · rcases List.mem_append.mp hy with h | h
    · exact F.lt y h
    · exact (ok.row _ (ok.at_ xl).2).2 y (hg y h)
  · rcases List.mem_append.mp hy with h | h
    · exact F.re y h
    · exact (F.re x xm).next (hg y h)
  · have hj : j < f.length := (List.getElem?_eq_some_iff.mp hx).1
    rw [List.getElem?_append_left (by omega)] at hy
    by_cases e : i = j
    · subst e
      rw [hx] at hy
      cases hy
      exact hc z hz
    · exact List.mem_append_left _ (F.dn i y (by omega) hy z hz)
def grow (f : List Nat) : List Nat → List Nat
  | [] => f
  | x :: xs => if x ∈ f then grow f xs else grow (f ++ [x]) xs
theorem grow_spec : ∀ (xs f : List Nat), f.Nodup → ∃ g, grow f xs = f ++ g ∧ (f ++ g).Nodup ∧ (∀ y ∈ g, y ∈ xs) ∧ ∀ y ∈ xs, y ∈ f ++ g
  | [], f, h => ⟨[], by simp [grow], by simpa using h, by simp, by simp⟩
  | x :: xs, f, h => by
    unfold grow
    by_cases hx : x ∈ f
    · rw [if_pos hx]
      obtain ⟨g, h1, h2, h3, h4⟩ := grow_spec xs f h
      refine ⟨g, h1, h2, fun y hy => List.mem_cons_of_mem _ (h3 y hy), fun y hy => ?_⟩
      rcases List.mem_cons.mp hy with e | hy
      · rw [e]; exact List.mem_append_left _ hx
      · exact h4 y hy
    · rw [if_neg hx]
      have hn : (f ++ [x]).Nodup := by
        rw [List.nodup_append]
        refine ⟨h, by simp, fun a ha b hb e => ?_⟩
        rw [List.mem_singleton] at hb
        rw [e, hb] at ha
        exact hx ha
      obtain ⟨g, h1, h2, h3, h4⟩ := grow_spec xs (f ++ [x]) hn
      refine ⟨x :: g, by rw [h1]; simp, by simpa using h2, fun y hy => ?_, fun y hy => ?_⟩
      · rcases List.mem_cons.mp hy with e | hy
        · rw [e]; exact List.mem_cons_self
        · exact List.mem_cons_of_mem _ (h3 y hy)
      · rcases List.mem_cons.mp hy with e | hy
        · rw [e]; simp
        · simpa using h4 y hy
theorem inB_nats (i : Nat) (f : List Nat) : inB (.int i) (.lst (encI f)) = some (decide (i ∈ f)) := by
  have e : encI f = (f.map fun (e : Nat) => (e : Int)).map D.int := by simp [encI]
  rw [e, inB_ints]
  congr 1
  simp only [List.mem_map, decide_eq_decide]
  exact ⟨fun ⟨a, h, e⟩ => by have : a = i := by omega
                             rw [← this]; exact h, fun h => ⟨i, h, rfl⟩⟩
theorem loop_grow (r s at_ : D) : ∀ (xs f : List Nat) (o : Sl), f.length + xs.length ≤ 1000 → ∃ o', forL (.one 4) (iff (tst (bi ninD (vo 4) (vo 2))) (app 2 (vr 4)) sNx) (encI xs) [.sh r, .sh s, .ow (.lst (encI f)), .sh at_, o] = .ok (.nx [.sh r, .sh s, .ow (.lst (encI (grow f xs))), .sh at_, o'])
  | [], f, o, _ => ⟨o, rfl⟩
  | x :: xs, f, o, h => by
    simp only [List.length_cons] at h
    by_cases hx : x ∈ f
    · obtain ⟨o', ih⟩ := loop_grow r s at_ xs f (.sh (.int (x : Nat))) (by omega)
      refine ⟨o', ?_⟩
      rw [encI_cons, forL_step (bindT_one _ _ _)]
      simp [ninD_of (inB_nats x f), hx]
      rw [ih]
      simp [grow, hx]
    · obtain ⟨o', ih⟩ := loop_grow r s at_ xs (f ++ [x]) (.sh (.int (x : Nat))) (by simp; omega)
      refine ⟨o', ?_⟩
      rw [encI_cons, forL_step (bindT_one _ _ _)]
      have hl : (encI f).length ≤ 1000000 := by simp; omega
      simp [ninD_of (inB_nats x f), hx, appR_ok hl]
      have e : encI f ++ [.int (x : Nat)] = encI (f ++ [x]) := by simp [encI]
      rw [e, ih]
      simp [grow, hx]
theorem V_from {r : RD} {n k s : Nat} (ok : r.Ok n k) (hs : s < n) (hk : k ≤ 100) : ∃ f, F_states_from [encR r, .int (s : Nat)] = .ok (.lst (encI f)) ∧ (∀ x, x ∈ f ↔ r.Reach s x) ∧ (∀ x ∈ f, x < n) ∧ f.length ≤ n := by
  have key := wh_inv (t := tst (bi (cmpD fun i j => decide (i < j)) (vo 3) (un lenD (vo 2)))) (b := sq (fr (.one 4) (itm (bi ixD (un (fldD [("Rule" : Str)] "moves") (vo 0)) (bi ixD (vo 2) (vo 3)))) (iff (tst (bi ninD (vo 4) (vo 2))) (app 2 (vr 4)) sNx))
    (augA 3 (cst (.int 1)))) (fun m ρ => ∃ f j o, ρ = [.sh (encR r), .sh (.int (s : Nat)), .ow (.lst (encI f)), .sh (.int (j : Nat)), o] ∧ Fd r n s f j ∧ m = n - j) (fun m ρ hI => by
      obtain ⟨f, j, o, rfl, F, rfl⟩ := hI
      by_cases hj : j < f.length
      · right
        have hn := nd_len F.nd F.lt
        have hx : f[j]? = some f[j] := List.getElem?_eq_getElem hj
        have xl : f[j] < n := F.lt _ (List.getElem_mem hj)
        obtain ⟨g, h1, h2, h3, h4⟩ := grow_spec (r.nexts f[j]) f F.nd
        have e1 : fldD [("Rule" : Str)] "moves" (encR r) = .ok (encM r.mv) := by rfl
        have e2 : ixL (encI f) (j : Nat) = .ok (.int (f[j] : Nat)) := encI_ix hx
        have e3 : ixL (r.mv.map encRow) (f[j] : Nat) = .ok (encRow (r.nexts f[j])) := ixL_map (ok.at_ xl).1
        obtain ⟨o', e4⟩ := loop_grow (encR r) (.int (s : Nat)) (.int (j : Nat)) (r.nexts f[j]) f o (by
          rw [(ok.row _ (ok.at_ xl).2).1]
          have := ok.six
          omega)
        refine ⟨by simp [hj], [.sh (encR r), .sh (.int (s : Nat)), .ow (.lst (encI (f ++ g))), .sh (.int ((j + 1 : Nat) : Int)), o'], n - (j + 1), by omega, .inl ?_, f ++ g, j + 1, o', rfl, F.more ok hx h2 h3 h4, rfl⟩
        simp [e1, e2, encM, e3, encRow]
        rw [e4, h1]
        simp only [contS_nx]
        rw [augA_ok (m := (j : Int)) (n := 1) (by first | rfl | simp) (by first | rfl | simp)]
        simp
      · left
        simp [hj]) (m := n - 0) (ρ := [.sh (encR r), .sh (.int (s : Nat)), .ow (.lst (encI [s])), .sh (.int ((0 : Nat) : Int)), .no])
      ⟨[s], 0, .no, rfl, ⟨by simp, by simp [hs], by simp, fun x hx => by simp at hx; subst hx; exact fun P h _ => h, fun i x hi => by omega⟩, rfl⟩
  obtain ⟨ρ', m', h1, ⟨f, j, o, rfl, F, rfl⟩, h3⟩ := key
  have hj : f.length ≤ j := by
    simp at h3
    exact h3
  refine ⟨f, ?_, F.all hj, F.lt, nd_len F.nd F.lt⟩
  unfold F_states_from g_states_from
  simp [chk, sizeLine_val]
  have e0 : encI [s] = [D.int (s : Nat)] := rfl
  rw [e0] at h1
  have e1 : ((0 : Nat) : Int) = 0 := rfl
  rw [e1] at h1
  rw [h1]
  simp
end Lw

set_option Elab.async false
set_option linter.all false
set_option maxRecDepth 100000
set_option maxHeartbeats 4000000
namespace Lw
open Fx
open PySem (Str)
open PySem.PyData (strOk)
def dd {α : Type} [DecidableEq α] (pre : List α) : List α → List α
  | [] => []
  | x :: xs => if x ∈ pre then dd (pre ++ [x]) xs else x :: dd (pre ++ [x]) xs
theorem dd_spec {α : Type} [DecidableEq α] : ∀ (suf pre : List α), (dd pre suf).Nodup ∧ (∀ y ∈ dd pre suf, y ∉ pre ∧ y ∈ suf) ∧ ∀ y ∈ suf, y ∈ pre ∨ y ∈ dd pre suf
  | [], pre => ⟨by simp [dd], by simp [dd], by simp⟩
  | x :: xs, pre => by
    obtain ⟨h1, h2, h3⟩ := dd_spec xs (pre ++ [x])
    unfold dd
    by_cases hx : x ∈ pre
    · rw [if_pos hx]
      refine ⟨h1, fun y hy => ?_, fun y hy => ?_⟩
      · obtain ⟨a, b⟩ := h2 y hy
        exact ⟨fun z => a (List.mem_append_left _ z), List.mem_cons_of_mem _ b⟩
      · rcases List.mem_cons.mp hy with e | hy
        · exact .inl (e ▸ hx)
        · rcases h3 y hy with z | z
          · rcases List.mem_append.mp z with z | z
            · exact .inl z
            · rw [List.mem_singleton] at z; exact .inl (z ▸ hx)
          · exact .inr z
    · rw [if_neg hx]
      refine ⟨List.nodup_cons.mpr ⟨fun z => (h2 x z).1 (by simp), h1⟩, fun y hy => ?_, fun y hy => ?_⟩
      · rcases List.mem_cons.mp hy with e | hy
        · rw [e]; exact ⟨hx, List.mem_cons_self⟩
        · obtain ⟨a, b⟩ := h2 y hy
          exact ⟨fun z => a (List.mem_append_left _ z), List.mem_cons_of_mem _ b⟩
      · rcases List.mem_cons.mp hy with e | hy
        · rw [e]; exact .inr List.mem_cons_self
        · rcases h3 y hy with z | z
          · rcases List.mem_append.mp z with z | z
            · exact .inl z
            · rw [List.mem_singleton] at z; rw [z]; exact .inr List.mem_cons_self
          · exact .inr (List.mem_cons_of_mem _ z)
theorem dd_append {α : Type} [DecidableEq α] (g : List α) : ∀ (f pre : List α), (pre ++ f).Nodup → dd pre (f ++ g) = f ++ dd (pre ++ f) g
  | [], pre, _ => by simp
  | x :: f, pre, h => by
    have hx : x ∉ pre := fun z => by
      rw [List.nodup_append] at h
      exact h.2.2 x z x List.mem_cons_self rfl
    rw [List.cons_append]
    show (if x ∈ pre then dd (pre ++ [x]) (f ++ g) else x :: dd (pre ++ [x]) (f ++ g)) = _
    rw [if_neg hx, dd_append g f (pre ++ [x]) (by simpa using h)]
    simp
theorem dd_filter {α : Type} [DecidableEq α] (d : α) : ∀ (suf pre : List α), ((List.range suf.length).filter (fun i => decide (suf.getD i d ∉ pre ++ suf.take i))).map (fun i => suf.getD i d) = dd pre suf
  | [], pre => by simp [dd]
  | x :: xs, pre => by
    have ih := dd_filter d xs (pre ++ [x])
    rw [List.length_cons, List.range_succ_eq_map, List.filter_cons]
    unfold dd
    have e : ((List.map Nat.succ (List.range xs.length)).filter (fun i => decide ((x :: xs).getD i d ∉ pre ++ (x :: xs).take i))).map (fun i => (x :: xs).getD i d) = dd (pre ++ [x]) xs := by
      rw [List.filter_map, List.map_map, ← ih]
      congr 1
      congr 1
      funext i
      simp
    by_cases hx : x ∈ pre
    · simp only [List.getD_cons_zero, List.take_zero, List.append_nil, hx, not_true_eq_false, decide_false, Bool.false_eq_true, if_false, if_true]
      exact e
    · simp only [List.getD_cons_zero, List.take_zero, List.append_nil, hx, not_false_eq_true, decide_true, if_true, if_false, List.map_cons]
      rw [e]
theorem cutD_take (ds : List D) (k : Nat) (h : k ≤ ds.length) : cutD ds none (some (k : Int)) = ds.take k := by
  unfold cutD
  rw [show HT.sIx ds.length 0 none = 0 from rfl, show HT.sIx ds.length ds.length (some (k : Int)) = min k ds.length from HT.sIx_nat _ _ _]
  simp [Nat.min_eq_left h]
theorem cutD_drop (ds : List D) (k : Nat) (h : k ≤ ds.length) : cutD ds (some (k : Int)) none = ds.drop k := by
  unfold cutD
  rw [show HT.sIx ds.length ds.length none = ds.length from rfl, show HT.sIx ds.length 0 (some (k : Int)) = min k ds.length from HT.sIx_nat _ _ _]
  simp only [Nat.min_eq_left h]
  exact List.take_of_length_le (by simp)
theorem rngL_nat (n : Nat) : rngL 0 n = (List.range n).map fun (i : Nat) => D.int (i : Int) := by simp [rngL]

end Lw

set_option Elab.async false
set_option linter.all false
set_option maxRecDepth 100000
set_option maxHeartbeats 4000000
namespace Lw
open Fx
open PySem (Str)
open PySem.PyData (strOk)
theorem Fd.skip {r : RD} {n s j : Nat} {f : List Nat} (F : Fd r n s f j) (h : f.length ≤ j) : Fd r n s f (j + 1) :=
  ⟨F.nd, F.lt, F.st, F.re, fun i x _ hx => F.dn i x (Nat.lt_of_lt_of_le (List.getElem?_eq_some_iff.mp hx).1 h) hx⟩
noncomputable def vd (r : RD) (s : Nat) : Str :=
  open Classical in
  if ∀ x, r.Reach s x → r.a x = true then "always" else if ∀ x, r.Reach s x → r.a x = false then "never" else if r.a s then "yes" else "no"
theorem all_iff {r : RD} {f : List Nat} {s : Nat} (hf : ∀ x, x ∈ f ↔ r.Reach s x) : (f.all fun x => r.a x) = true ↔ ∀ x, r.Reach s x → r.a x = true := by
  rw [List.all_eq_true]
  exact ⟨fun h x hx => h x ((hf x).mpr hx), fun h x hx => h x ((hf x).mp hx)⟩
theorem any_iff {r : RD} {f : List Nat} {s : Nat} (hf : ∀ x, x ∈ f ↔ r.Reach s x) : (f.any fun x => r.a x) = false ↔ ∀ x, r.Reach s x → r.a x = false := by
  rw [List.any_eq_false]
  exact ⟨fun h x hx => by simpa using h x ((hf x).mpr hx), fun h x hx => by simpa using h x ((hf x).mp hx)⟩
theorem V_verdict {r : RD} {n k : Nat} {ns : List Str} (h : r.Ok n k) (hk : ns.length = k) (g : Nm ns) {dn dt : D} {ts : List Str} (hn : listD dn = .ok (.lst (encS ns))) (ht : items dt = some (encS ts)) (ha : ∀ a ∈ ts, a ∈ ns) : F_verdict [encR r, dn, dt] = .ok (.str (vd r (r.run ns 0 ts))) := by
  have hs := h.run_lt hk (s := 0) (Nat.lt_of_lt_of_le Nat.zero_lt_one h.one) ha
  have g5 := g.five
  obtain ⟨f, e1, hf, hl, fn⟩ := V_from h hs (by omega)
  have n6 := h.six
  have fl : f.length ≤ 1000000 := by omega
  have e2 : ∀ (o4 o5 : Sl), lcL (.one 5) [5] yes (bi ixD (un (fldD [("Rule" : Str)] "accepting") (vo 0)) (vo 5)) [.sh (encR r), .sh dn, .sh dt, .sh (.int (r.run ns 0 ts : Nat)), o4, o5] (encI f) = .ok (encB (f.map fun x => r.a x)) := fun o4 o5 => by
    rw [encB, List.map_map]
    refine lcL_map (f := fun (e : Nat) => D.int (e : Int)) fun x hx => ⟨_, rfl, ?_⟩
    have e4 : fldD [("Rule" : Str)] "accepting" (encR r) = .ok (encA r.acc) := rfl
    have e5 : ixL (encB r.acc) (x : Nat) = .ok (.bl (r.a x)) := encB_ix (h.accAt (hl x hx))
    simp only [bi_ap, un_ap, vo_ap, wipeE_cons, wipeE_nil, List.set_cons_succ, List.set_cons_zero, List.getElem?_cons_zero, List.getElem?_cons_succ, voR_sh, bd_ok, e4, encA, ixD_tup, e5, Function.comp]
  have e4 : fldD [("Rule" : Str)] "accepting" (encR r) = .ok (encA r.acc) := rfl
  have e5 : ixL (encB r.acc) (r.run ns 0 ts : Nat) = .ok (.bl (r.a (r.run ns 0 ts))) := encB_ix (h.accAt hs)
  have z : decide (f.length ≤ PySem.sizeLine) = true := decide_eq_true (by rw [sizeLine_val]; omega)
  unfold F_verdict g_verdict
  simp [V_after h hk g hn ht ha, e1, z, e2]
  unfold vd
  have a1 := all_iff hf
  have a2 := any_iff hf
  by_cases c1 : ∀ x, r.Reach (r.run ns 0 ts) x → r.a x = true
  · rw [a1.mpr c1, if_pos c1]
    simp
  · have b1 : (f.all fun x => r.a x) = false := by
      rw [← Bool.not_eq_true]; exact fun z => c1 (a1.mp z)
    rw [b1, if_neg c1]
    by_cases c2 : ∀ x, r.Reach (r.run ns 0 ts) x → r.a x = false
    · rw [if_pos c2]
      simp [a2.mpr c2]
    · have b2 : (f.any fun x => r.a x) = true := by
        rw [← Bool.not_eq_false]; exact fun z => c2 (a2.mp z)
      rw [if_neg c2]
      simp [b2, e4, encA, e5]
      cases r.a (r.run ns 0 ts) <;> simp

end Lw

set_option Elab.async false
set_option linter.all false
set_option maxRecDepth 100000
set_option maxHeartbeats 4000000
namespace Lw
open Fx
open PySem (Str)
open PySem.PyData (strOk)
theorem first_ix {ns : List Str} {a : Str} (ha : a ∈ ns) : ((List.range ns.length).filter fun i => ns.getD i "" == a)[0]? = some (ns.idxOf a) := by
  have hl := List.idxOf_lt_length_of_mem ha
  rw [← List.head?_eq_getElem?, List.head?_filter, List.find?_range_eq_some]
  refine ⟨by simp [hl], List.mem_range.mpr hl, fun j hj => ?_⟩
  have h1 := List.not_of_lt_findIdx (p := fun x => x == a) (xs := ns) (i := j) (by simpa [List.idxOf] using hj)
  have hj2 : j < ns.length := by omega
  simp [hj2] at h1 ⊢
  exact h1
theorem loop_state {r : RD} {n k : Nat} {ns : List Str} (h : r.Ok n k) (hk : ns.length = k) (g : Nm ns) {dt : D} : ∀ (ts : List Str) (s : Nat) (o : Sl), s < n → (∀ a ∈ ts, a ∈ ns) → ∃ o', forL (.one 4) (asg 3 (bi ixD (bi ixD (bi ixD (vo 0) (cst (.int 1))) (vo 3)) (bi ixD (lc (.one 5) [5] (rng1 (aC (un lenD (vo 1)) aN)) (tst (bi eqD (bi ixD (vo 1) (vo 5)) (vo 4))) (vr 5)) (cst (.int 0))))) (encS ts)
    [.sh (encL r), .sh (.lst (encS ns)), .sh dt, .sh (.int (s : Nat)), o, .no] = .ok (.nx [.sh (encL r), .sh (.lst (encS ns)), .sh dt, .sh (.int (r.run ns s ts : Nat)), o', .no])
  | [], s, o, _, _ => ⟨o, rfl⟩
  | a :: ts, s, o, hs, ha => by
    have ha1 := ha a List.mem_cons_self
    obtain ⟨h1, h2⟩ := h.stepAt hk hs ha1
    obtain ⟨o', ih⟩ := loop_state h hk g (dt := dt) ts (r.step ns s a) (.sh (.str a)) h2 fun b hb => ha b (List.mem_cons_of_mem _ hb)
    refine ⟨o', ?_⟩
    have g5 := g.five
    rw [encS_cons, forL_step (bindT_one _ _ _)]
    have e1 : ixD (encL r) (.int 1) = .ok (encM r.mv) := by rfl
    have e2 : ixD (encM r.mv) (.int (s : Nat)) = .ok (encRow (r.nexts s)) := by
      show ixL (r.mv.map encRow) (s : Int) = _
      exact ixL_map (h.at_ hs).1
    have e4 : ixD (encRow (r.nexts s)) (.int (ns.idxOf a : Nat)) = .ok (.int (r.step ns s a : Nat)) := encI_ix h1
    have e5 : rng1R [.int (ns.length : Nat)] = .ok (encI (List.range ns.length)) := by
      rw [rng1R_nat (by omega), rngL_nat]; rfl
    have e6 : lcL (.one 5) [5] (tst (bi eqD (bi ixD (vo 1) (vo 5)) (vo 4))) (vr 5) [.sh (encL r), .sh (.lst (encS ns)), .sh dt, .sh (.int (s : Nat)), .sh (.str a), .no] (encI (List.range ns.length)) = .ok (encI ((List.range ns.length).filter fun i => ns.getD i "" == a)) := by
      refine lcL_filter (f := fun (e : Nat) => D.int (e : Int)) (h := fun (e : Nat) => D.int (e : Int)) (p := fun i => ns.getD i "" == a) fun i hi => ⟨_, rfl, ?_, fun _ => by simp⟩
      have hi := List.mem_range.mp hi
      have hg : ns[i]? = some (ns.getD i "") := by simp [hi]
      have e7 : ixL (encS ns) (i : Nat) = .ok (.str (ns.getD i "")) := encS_ix hg
      have e8 : eqD (.str (ns.getD i "")) (.str a) = .ok (.bl (ns.getD i "" == a)) := by
        rw [eqD_val (Pn.str 0 (g.ok _ (List.mem_of_getElem? hg))) (Pn.str 0 (g.ok a ha1)), eqv_str]
      simp only [tst_ap, bi_ap, vo_ap, wipeE_cons, wipeE_nil, List.set_cons_succ, List.set_cons_zero, List.getElem?_cons_zero, List.getElem?_cons_succ, voR_sh, bd_ok, ixD_lst, e7, e8, tstR_bl]
    have e7 : ixL (encI ((List.range ns.length).filter fun i => ns.getD i "" == a)) 0 = .ok (.int (ns.idxOf a : Nat)) := encI_ix (i := 0) (first_ix ha1)
    have z : (List.range ns.length).length ≤ 16777216 := by simp; omega
    simp only [asg_ap, bi_ap, vo_ap, un_ap, cst_ap, lc_ap, rng1_ap, aC_ap, aN_ap, lenD_lst, encS_len, encI_len, List.set_cons_succ, List.set_cons_zero, List.getElem?_cons_zero, List.getElem?_cons_succ, voR_sh, bd_ok, e1, e2, e5, sizeLine_val, z, decide_true, chk_true, e6, ixD_lst, e7, e4, asgR_ok, goOn_nx]
    rw [ih]
    rfl
theorem V_init {r : RD} {d1 d2 : D} {f : List Nat → D} (h1 : tupleD d1 = .ok (encA r.acc)) (h2 : items d2 = some (r.mv.map f)) (h3 : ∀ x ∈ r.mv, tupleD (f x) = .ok (encRow x)) (hl : r.mv.length ≤ 100) : F_Rule___init__ [d1, d2] = .ok (encR r) := by
  unfold F_Rule___init__ g_Rule___init__
  have e1 : ∀ ρ : En, (wipeE ρ [3]).length = 4 → True := fun _ _ => trivial
  have e6 : ∀ (s0 s1 s2 : Sl), lcL (.one 3) [3] yes (un tupleD (vo 3)) [s0, s1, s2, .no] (r.mv.map f) = .ok (r.mv.map encRow) := fun s0 s1 s2 => by
    refine lcL_map fun x hx => ⟨_, rfl, ?_⟩
    simp [h3 x hx]
  have z : r.mv.length ≤ 16777216 := by omega
  simp [h1, chk, sizeLine_val, h2, z, e6]
  rfl
end Lw

set_option Elab.async false
set_option linter.all false
set_option maxRecDepth 100000
set_option maxHeartbeats 4000000
namespace Lw
open Fx
open PySem (Str)
open PySem.PyData (strOk)
open L2 (cutS)
structure Gd (m : Nat) (w : Str) : Prop where
  ok : strOk w = true
  len : w.length ≤ m
theorem letters_ok : strOk ("abcdefghijklmnopqrstuvwxyz" : Str) = true := by decide +kernel
theorem letters_len : ("abcdefghijklmnopqrstuvwxyz" : Str).length = 26 := by decide +kernel
theorem letter (i : Int) : ∃ c, ixD (.str "abcdefghijklmnopqrstuvwxyz") (.int (i % 26)) = .ok (.str c) ∧ Gd 1 c := by
  obtain ⟨c, h1, h2⟩ := ixD_str (z := "abcdefghijklmnopqrstuvwxyz") (i := i % 26) (by rw [letters_len]; omega) (by omega) (by rw [letters_len]; omega)
  exact ⟨_, h1, h2 letters_ok, Nat.le_refl 1⟩
theorem Gd.add {m n : Nat} {a b : Str} (ha : Gd m a) (hb : Gd n b) (h : m + n ≤ 1000) : addD (.str a) (.str b) = .ok (.str (a ++ b)) ∧ Gd (m + n) (a ++ b) := by
  have h1 := ha.len
  have h2 := hb.len
  exact ⟨addD_strs (by omega), strOk_append ha.ok hb.ok, by rw [len_append]; omega⟩
theorem Gd.mono {m n : Nat} {a : Str} (ha : Gd m a) (h : m ≤ n) : Gd n a := ⟨ha.ok, Nat.le_trans ha.len h⟩
theorem Gd.cut {m : Nat} {a : Str} (ha : Gd m a) (lo hi : Option Int) (h : m ≤ 1000) : slD (.str a) lo hi = .ok (.str (cutS a lo hi)) ∧ Gd m (cutS a lo hi) := by
  have h1 := ha.len
  exact ⟨slD_strs (by omega), strOk_cut _ _ ha.ok, Nat.le_trans (len_cut a lo hi) h1⟩
theorem eqD_ints (i j : Int) : eqD (.int i) (.int j) = .ok (.bl (decide (i = j))) := by rw [eqD_val (Pn.int 0 i) (Pn.int 0 j), eqv_int, Bool.beq_eq_decide_eq]
theorem neD_ints (i j : Int) : neD (.int i) (.int j) = .ok (.bl (!decide (i = j))) := by rw [neD_val (Pn.int 0 i) (Pn.int 0 j), eqv_int, Bool.beq_eq_decide_eq]
theorem V_word (i : Int) : ∃ w, F__law_word [.int i] = .ok (.str w) ∧ Gd 5 w := by
  obtain ⟨a, ea, ga⟩ := letter i
  obtain ⟨b, eb, gb⟩ := letter (i / 3)
  obtain ⟨c, ec, gc⟩ := letter (i / 5)
  obtain ⟨d, ed, gd⟩ := letter (i / 11)
  obtain ⟨e, ee, ge⟩ := letter (i / 2)
  obtain ⟨w1, h1, k1⟩ : ∃ w1, iff (tst (bi (cmpD fun i j => decide (j < i)) (bi modD (bi fdivD (vo 0) (cst (.int 26))) (cst (.int 3))) (cst (.int 0)))) (asg 2 (bi addD (vo 2) (bi ixD (vo 1) (bi modD (bi fdivD (vo 0) (cst (.int 3))) (cst (.int 26)))))) sNx
      [.sh (.int i), .sh (.str "abcdefghijklmnopqrstuvwxyz"), .sh (.str a)] = .ok (.nx [.sh (.int i), .sh (.str "abcdefghijklmnopqrstuvwxyz"), .sh (.str w1)]) ∧ Gd 2 w1 := by
    by_cases hc : 0 < i / 26 % 3
    · obtain ⟨z1, z2⟩ := ga.add gb (by omega)
      exact ⟨_, by simp [chk, hc, eb, z1], z2⟩
    · exact ⟨a, by simp [chk, hc], ga.mono (by omega)⟩
  obtain ⟨w2, h2, k2⟩ : ∃ w2, iff (tst (bi eqD (bi modD (bi fdivD (vo 0) (cst (.int 26))) (cst (.int 3))) (cst (.int 2)))) (asg 2 (bi addD (bi addD (bi addD (vo 2) (bi ixD (vo 1) (bi modD (bi fdivD (vo 0) (cst (.int 5))) (cst (.int 26))))) (bi ixD (vo 1) (bi modD (bi fdivD (vo 0) (cst (.int 11))) (cst (.int 26))))) (bi ixD (vo 1) (bi modD (bi fdivD (vo 0) (cst (.int 2))) (cst (.int 26)))))) sNx
      [.sh (.int i), .sh (.str "abcdefghijklmnopqrstuvwxyz"), .sh (.str w1)] = .ok (.nx [.sh (.int i), .sh (.str "abcdefghijklmnopqrstuvwxyz"), .sh (.str w2)]) ∧ Gd 5 w2 := by
    by_cases hc : i / 26 % 3 = 2
    · obtain ⟨z1, z2⟩ := k1.add gc (by omega)
      obtain ⟨z3, z4⟩ := z2.add gd (by omega)
      obtain ⟨z5, z6⟩ := z4.add ge (by omega)
      exact ⟨_, by simp [chk, eqD_ints, hc, ec, ed, ee, z1, z3, z5], z6⟩
    · exact ⟨w1, by simp [chk, eqD_ints, hc], k1.mono (by omega)⟩
  refine ⟨w2, ?_, k2⟩
  unfold F__law_word g__law_word
  simp [chk, ea]
  simp at h1 h2
  rw [h1]
  simp
  rw [h2]
  simp

theorem counts (i : Int) : ∃ n : Nat, ixL [D.int 1, .int 2, .int 2, .int 3, .int 3, .int 4, .int 2, .int 3, .int 5] (i % 9) = .ok (.int (n : Nat)) ∧ 1 ≤ n ∧ n ≤ 5 := by
  have h : i % 9 = 0 ∨ i % 9 = 1 ∨ i % 9 = 2 ∨ i % 9 = 3 ∨ i % 9 = 4 ∨ i % 9 = 5 ∨ i % 9 = 6 ∨ i % 9 = 7 ∨ i % 9 = 8 := by omega
  rcases h with h | h | h | h | h | h | h | h | h <;> rw [h] <;> first
    | exact ⟨1, rfl, by omega, by omega⟩
    | exact ⟨2, rfl, by omega, by omega⟩
    | exact ⟨3, rfl, by omega, by omega⟩
    | exact ⟨4, rfl, by omega, by omega⟩
    | exact ⟨5, rfl, by omega, by omega⟩
structure NmB (m : Nat) (ns : List Str) : Prop where
  len : ns.length ≤ m
  nd : ns.Nodup
  ok : ∀ x ∈ ns, Gd 13 x
theorem lit8 : Gd 8 ("abcdefgh" : Str) := ⟨by decide +kernel, by decide +kernel⟩
theorem litq : Gd 1 ("q" : Str) := ⟨by decide +kernel, by decide +kernel⟩
noncomputable abbrev names_body : En → Oc Res := (sq (asg 4 (cal F__law_word 1 [] (aC (bi ixD (vo 1) (vo 3)) aN)))
  (sq (iff (tst (bi eqD (bi modD (bi fdivD (bi ixD (vo 1) (vo 3)) (cst (.int 50))) (cst (.int 6))) (cst (.int 5)))) (asg 4 (slc (bi addD (vo 4) (cst (.str "abcdefgh"))) none (some (bi addD (cst (.int 7)) (bi modD (bi ixD (vo 1) (vo 3)) (cst (.int 2))))))) sNx)
  (sq (iff (tst (bi inD (vo 4) (vo 2))) (asg 4 (slc (bi addD (vo 4) (cst (.str "q"))) (some (un negD (cst (.int 8)))) none)) sNx)
  (iff (tst (bi ninD (vo 4) (vo 2))) (app 2 (vr 4)) sNx))))
theorem names_turn {c : D} {row : List Int} {j : Nat} {x : Int} (hx : row[j]? = some x) {m : Nat} {ns : List Str} (N : NmB m ns) (hm : m ≤ 100) (o4 : Sl) : ∃ ns' o4', names_body [.sh c, .sh (.lst (row.map .int)), .ow (.lst (encS ns)), .sh (.int (j : Nat)), o4] = .ok (.nx [.sh c, .sh (.lst (row.map .int)), .ow (.lst (encS ns')), .sh (.int (j : Nat)), o4']) ∧ NmB (m + 1) ns' ∧ (ns = [] → ns' ≠ []) ∧ (ns ≠ [] → ns' ≠ []) := by
  have ex : ixL (row.map D.int) (j : Nat) = .ok (.int x) := ixL_map hx
  obtain ⟨w, ew, gw⟩ := V_word x
  obtain ⟨w1, h1, k1⟩ : ∃ w1, iff (tst (bi eqD (bi modD (bi fdivD (bi ixD (vo 1) (vo 3)) (cst (.int 50))) (cst (.int 6))) (cst (.int 5)))) (asg 4 (slc (bi addD (vo 4) (cst (.str "abcdefgh"))) none (some (bi addD (cst (.int 7)) (bi modD (bi ixD (vo 1) (vo 3)) (cst (.int 2))))))) sNx [.sh c, .sh (.lst (row.map .int)), .ow (.lst (encS ns)), .sh (.int (j : Nat)), .sh (.str w)] = .ok (.nx [.sh c, .sh (.lst (row.map .int)), .ow (.lst (encS ns)), .sh (.int (j : Nat)), .sh (.str w1)]) ∧ Gd 13 w1 := by
    by_cases hc : x / 50 % 6 = 5
    · obtain ⟨z1, z2⟩ := gw.add lit8 (by omega)
      obtain ⟨z3, z4⟩ := z2.cut none (some (7 + x % 2)) (by omega)
      exact ⟨_, by simp [chk, ex, eqD_ints, hc, z1, ← slD_str, z3], z4⟩
    · exact ⟨w, by simp [chk, ex, eqD_ints, hc], gw.mono (by omega)⟩
  have no : ∀ y ∈ ns, strOk y = true := fun y hy => (N.ok y hy).ok
  have i1 : inD (.str w1) (.lst (encS ns)) = .ok (.bl (decide (w1 ∈ ns))) := inD_of (inB_strs k1.ok no)
  obtain ⟨w2, h2, k2⟩ : ∃ w2, iff (tst (bi inD (vo 4) (vo 2))) (asg 4 (slc (bi addD (vo 4) (cst (.str "q"))) (some (un negD (cst (.int 8)))) none)) sNx [.sh c, .sh (.lst (row.map .int)), .ow (.lst (encS ns)), .sh (.int (j : Nat)), .sh (.str w1)] = .ok (.nx [.sh c, .sh (.lst (row.map .int)), .ow (.lst (encS ns)), .sh (.int (j : Nat)), .sh (.str w2)]) ∧ Gd 14 w2 ∧ Gd 13 w2 := by
    by_cases hc : w1 ∈ ns
    · obtain ⟨z1, z2⟩ := k1.add litq (by omega)
      obtain ⟨z3, z4⟩ := z2.cut (some (-8)) none (by omega)
      have z5 : Gd 13 (cutS (w1 ++ "q") (some (-8)) none) := ⟨z4.ok, by
        have hl := z2.len
        unfold L2.cutS
        show (List.toArray _).size ≤ 13
        simp only [List.size_toArray, List.length_take, List.length_drop, Array.length_toList]
        have e1 : HT.sIx (w1 ++ ("q" : Str)).length (w1 ++ ("q" : Str)).length none = (w1 ++ ("q" : Str)).length := rfl
        have e2 : (w1 ++ ("q" : Str)).length - HT.sIx (w1 ++ ("q" : Str)).length 0 (some (-8)) ≤ 13 := by
          unfold HT.sIx
          simp only
          split <;> omega
        rw [e1]
        omega⟩
      exact ⟨_, by simp [chk, i1, hc, z1, ← slD_str, z3], z4, z5⟩
    · exact ⟨w1, by simp [chk, i1, hc], k1.mono (by omega), k1⟩
  have i2 : ninD (.str w2) (.lst (encS ns)) = .ok (.bl (!decide (w2 ∈ ns))) := ninD_of (inB_strs k2.2.ok no)
  have nl : (encS ns).length ≤ 1000000 := by have := N.len; simp; omega
  have h0 : asg 4 (cal F__law_word 1 [] (aC (bi ixD (vo 1) (vo 3)) aN)) [.sh c, .sh (.lst (row.map .int)), .ow (.lst (encS ns)), .sh (.int (j : Nat)), o4] = .ok (.nx [.sh c, .sh (.lst (row.map .int)), .ow (.lst (encS ns)), .sh (.int (j : Nat)), .sh (.str w)]) := by simp [ex, ew]
  by_cases hc : w2 ∈ ns
  · refine ⟨ns, .sh (.str w2), ?_, ⟨Nat.le_succ_of_le N.len, N.nd, N.ok⟩, fun e => ?_, fun e => e⟩
    · rw [names_body, sq_ap, h0, contS_nx, sq_ap, h1, contS_nx, sq_ap, h2, contS_nx]
      simp [i2, hc]
    · subst e
      cases hc
  · refine ⟨ns ++ [w2], .sh (.str w2), ?_, ⟨by have := N.len; simp; omega, ?_, fun y hy => ?_⟩, fun _ => by simp, fun _ => by simp⟩
    · rw [names_body, sq_ap, h0, contS_nx, sq_ap, h1, contS_nx, sq_ap, h2, contS_nx]
      simp [i2, hc, appR_ok nl]
      simp [encS]
    · rw [List.nodup_append]
      refine ⟨N.nd, by simp, fun a ha b hb e => ?_⟩
      rw [List.mem_singleton] at hb
      rw [e, hb] at ha
      exact hc ha
    · rcases List.mem_append.mp hy with h | h
      · exact N.ok y h
      · rw [List.mem_singleton] at h
        rw [h]
        exact k2.2
theorem names_loop {c : D} {row : List Int} (hr : row.length = 6) : ∀ (m j : Nat) (ns : List Str) (o3 o4 : Sl), j + m ≤ 6 → NmB j ns → ∃ ns' o3' o4', forL (.one 3) names_body (encI (List.range' j m)) [.sh c, .sh (.lst (row.map .int)), .ow (.lst (encS ns)), o3, o4] = .ok (.nx [.sh c, .sh (.lst (row.map .int)), .ow (.lst (encS ns')), o3', o4']) ∧ NmB (j + m) ns' ∧ (ns ≠ [] → ns' ≠ []) ∧ (1 ≤ m → ns' ≠ [])
  | 0, j, ns, o3, o4, _, N => ⟨ns, o3, o4, rfl, N, fun h => h, fun h => by omega⟩
  | m + 1, j, ns, o3, o4, h, N => by
    obtain ⟨x, hx⟩ : ∃ x, row[j]? = some x := ⟨row[j]'(by omega), List.getElem?_eq_getElem (by omega)⟩
    obtain ⟨ns1, p4, e1, N1, n1, n2⟩ := names_turn (c := c) hx N (by omega) o4
    obtain ⟨ns2, p3, p5, e2, N2, n3, _⟩ := names_loop hr m (j + 1) ns1 (.sh (.int (j : Nat))) p4 (by omega) N1
    have ne1 : ns1 ≠ [] := by
      by_cases hn : ns = []
      · exact n1 hn
      · exact n2 hn
    refine ⟨ns2, p3, p5, ?_, by rw [show j + (m + 1) = j + 1 + m by omega]; exact N2, fun _ => n3 ne1, fun _ => n3 ne1⟩
    rw [List.range'_succ, encI_cons, forL_step (bindT_one _ _ _)]
    simp only [List.set_cons_succ, List.set_cons_zero]
    rw [e1, goOn_nx, e2]
theorem V_names (c : Int) : ∃ ns, F__law_names [.int c] = .ok (.lst (encS ns)) ∧ Nm ns ∧ ns.Nodup := by
  obtain ⟨x, hx⟩ : ∃ x, (row c 6)[5]? = some x := ⟨(row c 6)[5]'(by rw [row_length]; omega), List.getElem?_eq_getElem (by rw [row_length]; omega)⟩
  have ex : ixL ((row c 6).map D.int) 5 = .ok (.int x) := ixL_map (i := 5) hx
  obtain ⟨n, en, n1, n5⟩ := counts x
  obtain ⟨ns, o3, o4, e, N, _, ne⟩ := names_loop (c := .int c) (row := row c 6) (row_length c 6) n 0 [] .no .no (by omega) ⟨by simp, by simp, by simp⟩
  have er : rng1R [.int (n : Nat)] = .ok (encI (List.range' 0 n)) := by
    rw [rng1R_nat (by omega), rngL_nat, List.range_eq_range']; rfl
  refine ⟨ns, ?_, ⟨ne n1, by have := N.len; omega, fun y hy => (N.ok y hy).ok⟩, N.nd⟩
  have ev : F__law_row [.int c, .int 6] = .ok (.lst ((row c 6).map .int)) := V_row c 6 (by omega)
  unfold F__law_names g__law_names
  simp [ev, ex, chk, sizeLine_val, en, er]
  have e0 : encS [] = ([] : List D) := rfl
  rw [e0] at e
  rw [e]
  simp
end Lw

set_option Elab.async false
set_option linter.all false
set_option maxRecDepth 100000
set_option maxHeartbeats 4000000
namespace Lw
open Fx
open PySem (Str)
open PySem.PyData (strOk)
open L2 (cutS)
theorem encS_map {α : Type} (f : α → Str) (xs : List α) : encS (xs.map f) = xs.map fun x => D.str (f x) := by simp [encS, Function.comp_def]
theorem V_trace {ns : List Str} (g : Nm ns) (c : Int) (n : Nat) (hn : n ≤ 1000) : ∃ ts, F__law_trace [.lst (encS ns), .int c, .int (n : Nat)] = .ok (.lst (encS ts)) ∧ (∀ a ∈ ts, a ∈ ns) ∧ ts.length = n := by
  have gl : 0 < ns.length := List.length_pos_iff.mpr g.ne
  let f : Int → Str := fun x => ns.getD (x % ns.length).toNat ""
  have hf : ∀ x : Int, ixL (encS ns) (x % ns.length) = .ok (.str (f x)) ∧ f x ∈ ns := fun x => by
    have h1 : 0 ≤ x % (ns.length : Int) := Int.emod_nonneg _ (by omega)
    have h2 : x % (ns.length : Int) < ns.length := Int.emod_lt_of_pos _ (by omega)
    have h3 : (x % (ns.length : Int)).toNat < ns.length := by omega
    have hg : ns[(x % (ns.length : Int)).toNat]? = some (f x) := by simp [f, h3]
    refine ⟨?_, List.mem_of_getElem? hg⟩
    have := encS_ix hg
    rwa [Int.toNat_of_nonneg h1] at this
  refine ⟨(row c n).map f, ?_, fun a ha => ?_, by simp [row_length]⟩
  · have e1 : ∀ o : Sl, lcL (.one 3) [3] yes (bi ixD (vo 0) (bi modD (vo 3) (un lenD (vo 0)))) [.sh (.lst (encS ns)), .sh (.int c), .sh (.int (n : Nat)), o] ((row c n).map .int) = .ok (encS ((row c n).map f)) := fun o => by
      rw [encS_map]
      refine lcL_map fun x hx => ⟨_, rfl, ?_⟩
      simp [chk, gl, (hf x).1]
    have z : (row c n).length ≤ 16777216 := by rw [row_length]; omega
    unfold F__law_trace g__law_trace
    simp [V_row c n hn, sizeLine_val, z, e1]
  · obtain ⟨x, _, e⟩ := List.mem_map.mp ha
    rw [← e]
    exact (hf x).2
theorem rule_acc {row : List Int} {sz k : Nat} (h1 : row.length = 14) (hs : sz ≤ 6) (o1 o3 o4 o5 o6 : Sl) : ∃ acc : List Bool, acc.length = sz ∧
    lcL (.one 5) [5] yes (bi eqD (bi modD (bi fdivD (bi fdivD (bi ixD (vo 0) (cst (.int 1))) (bi powD (cst (.int 2)) (cst (.int 3)))) (bi addD (cst (.int 1)) (bi mulD (cst (.int 2)) (vo 5)))) (cst (.int 2))) (cst (.int 0)))
      [.sh (.lst (row.map .int)), o1, .sh (.int (sz : Nat)), o3, o4, o5, o6] (encI (List.range sz)) = .ok (encB acc) := by
  obtain ⟨x, hx⟩ : ∃ x, row[1]? = some x := ⟨row[1], List.getElem?_eq_getElem (by omega)⟩
  have ex : ixL (row.map D.int) 1 = .ok (.int x) := ixL_map (i := 1) hx
  refine ⟨(List.range sz).map fun (i : Nat) => decide (x / 8 / (1 + 2 * (i : Int)) % 2 = 0), by simp, ?_⟩
  rw [encB, List.map_map]
  refine lcL_map fun i hi => ⟨_, rfl, ?_⟩
  have hi := List.mem_range.mp hi
  have p1 : (0 : Int) < 1 + 2 * (i : Int) ∧ 1 + 2 * (i : Int) < 1073741824 := by omega
  simp [ex, chk, p1, eqD_ints]
theorem rule_row {row : List Int} {sz k j : Nat} (h1 : row.length = 14) (hs : sz ≤ 6) (h0 : 1 ≤ sz) (hj : j < sz) (hk : k ≤ 5) (o3 o4 o6 : Sl) : ∃ x : List Nat, x.length = k ∧ (∀ e ∈ x, e < sz) ∧
    lcL (.one 6) [6] yes (bi modD (bi fdivD (bi ixD (vo 0) (bi addD (cst (.int 2)) (bi modD (bi addD (bi mulD (vo 1) (vo 5)) (vo 6)) (cst (.int 12))))) (bi addD (cst (.int 1)) (vo 5))) (vo 2))
      [.sh (.lst (row.map .int)), .sh (.int (k : Nat)), .sh (.int (sz : Nat)), o3, o4, .sh (.int (j : Nat)), o6] (encI (List.range k)) = .ok (encI x) := by
  let f : Nat → Int := fun a => row.getD (2 + ((k : Int) * j + a) % 12).toNat 0
  have hf : ∀ a : Nat, ixL (row.map D.int) (2 + ((k : Int) * j + a) % 12) = .ok (.int (f a)) := fun a => by
    have z : (2 + ((k : Int) * j + a) % 12).toNat < row.length := by omega
    have hg : row[(2 + ((k : Int) * j + a) % 12).toNat]? = some (f a) := by simp [f, z]
    exact ixL_mapZ (by omega) hg
  refine ⟨(List.range k).map fun a => (f a / (1 + (j : Int)) % sz).toNat, by simp, fun e he => ?_, ?_⟩
  · obtain ⟨a, _, e2⟩ := List.mem_map.mp he
    have h1 : 0 ≤ f a / (1 + (j : Int)) % sz := Int.emod_nonneg _ (by omega)
    have h2 : f a / (1 + (j : Int)) % sz < sz := Int.emod_lt_of_pos _ (by omega)
    omega
  · rw [encI, encI, List.map_map]
    refine lcL_map fun a ha => ⟨_, rfl, ?_⟩
    have p1 : (0 : Int) < 1 + (j : Int) ∧ 1 + (j : Int) < 1073741824 := by omega
    have p2 : (-18446744073709551616 < (k : Int) ∧ (k : Int) < 18446744073709551616) := by omega
    have p3 : (0 : Int) < sz := by omega
    have p4 : ¬ sz = 0 := by omega
    have h1 : 0 ≤ f a / (1 + (j : Int)) % sz := Int.emod_nonneg _ (by omega)
    show _ = Oc.ok (D.int (((f a / (1 + (j : Int)) % sz).toNat : Nat) : Int))
    rw [Int.toNat_of_nonneg h1]
    simp [chk, p1, p2, p3, p4, hf a]
theorem rule_loop {row : List Int} {sz k : Nat} (h1 : row.length = 14) (hs : sz ≤ 6) (h0 : 1 ≤ sz) (hk : k ≤ 5) (o3 : Sl) : ∀ (m j : Nat) (mv : List (List Nat)) (o5 : Sl), j + m ≤ sz → mv.length ≤ j → (∀ x ∈ mv, x.length = k ∧ ∀ e ∈ x, e < sz) → ∃ (mv' : List (List Nat)) (o5' : Sl), mv'.length = mv.length + m ∧ (∀ x ∈ mv', x.length = k ∧ ∀ e ∈ x, e < sz) ∧
    forL (.one 5) (app 4 (un tupleD (lc (.one 6) [6] (rng1 (aC (vr 1) aN)) yes (bi modD (bi fdivD (bi ixD (vo 0) (bi addD (cst (.int 2)) (bi modD (bi addD (bi mulD (vo 1) (vo 5)) (vo 6)) (cst (.int 12))))) (bi addD (cst (.int 1)) (vo 5))) (vo 2)))))
      (encI (List.range' j m)) [.sh (.lst (row.map .int)), .sh (.int (k : Nat)), .sh (.int (sz : Nat)), o3, .ow (.lst (mv.map encRow)), o5, .no] = .ok (.nx [.sh (.lst (row.map .int)), .sh (.int (k : Nat)), .sh (.int (sz : Nat)), o3, .ow (.lst (mv'.map encRow)), o5', .no])
  | 0, j, mv, o5, _, _, hm => ⟨mv, o5, rfl, hm, rfl⟩
  | m + 1, j, mv, o5, hj, hl, hm => by
    obtain ⟨x, x1, x2, ex⟩ := rule_row (row := row) (k := k) h1 hs h0 (show j < sz by omega) hk o3 (.ow (.lst (mv.map encRow))) .no
    obtain ⟨mv', o5', l2, g2, e2⟩ := rule_loop h1 hs h0 hk o3 m (j + 1) (mv ++ [x]) (.sh (.int (j : Nat))) (by omega) (by simp; omega) (fun y hy => by
      rcases List.mem_append.mp hy with h | h
      · exact hm y h
      · rw [List.mem_singleton] at h; rw [h]; exact ⟨x1, x2⟩)
    refine ⟨mv', o5', by rw [l2]; simp; omega, g2, ?_⟩
    rw [List.range'_succ, encI_cons, forL_step (bindT_one _ _ _)]
    have er : rng1R [.int (k : Nat)] = .ok (encI (List.range k)) := by rw [rng1R_nat (by omega), rngL_nat]; rfl
    have nl : (mv.map encRow).length ≤ 1000000 := by simp; omega
    have z : k ≤ 16777216 := by omega
    simp [er, sizeLine_val, z, ex, appR_ok nl]
    have e9 : mv.map encRow ++ [D.tup (encI x)] = (mv ++ [x]).map encRow := by simp [encRow]
    rw [e9, e2]
theorem V_rule {row : List Int} {k : Nat} (h1 : row.length = 14) (hk : k ≤ 5) : ∃ r n, F__law_rule [.lst (row.map .int), .int (k : Nat)] = .ok (encL r) ∧ r.Ok n k ∧ n ≤ 4 := by
  obtain ⟨x, hx⟩ : ∃ x, row[0]? = some x := ⟨row[0], List.getElem?_eq_getElem (by omega)⟩
  have ex : ixL (row.map D.int) 0 = .ok (.int x) := ixL_map (i := 0) hx
  obtain ⟨sz, hsz⟩ : ∃ sz : Nat, 1 + x % 4 = (sz : Int) := ⟨(1 + x % 4).toNat, by omega⟩
  have h0 : 1 ≤ sz := by omega
  have h6 : sz ≤ 6 := by omega
  obtain ⟨acc, ha, ea⟩ := rule_acc (row := row) (k := k) h1 h6 (.sh (.int (k : Nat))) .no .no .no .no
  obtain ⟨mv, o5, hl, hm, em⟩ := rule_loop (row := row) (k := k) h1 h6 h0 hk (.sh (.lst (encB acc))) sz 0 [] .no (by omega) (by simp) (by simp)
  have er : rng1R [.int (sz : Nat)] = .ok (encI (List.range sz)) := by rw [rng1R_nat (by omega), rngL_nat]; rfl
  have er' : rng1R [.int (sz : Nat)] = .ok (encI (List.range' 0 sz)) := by rw [er, List.range_eq_range']
  have z : sz ≤ 16777216 := by omega
  refine ⟨⟨acc, mv⟩, sz, ?_, ⟨ha, by simpa using hl, hm, h0, h6⟩, by omega⟩
  unfold F__law_rule g__law_rule
  simp [ex, chk, hsz, er, sizeLine_val, z, ea]
  rw [← List.range_eq_range'] at em
  have e0 : (List.map encRow []) = ([] : List D) := rfl
  rw [e0] at em
  rw [em]
  simp [encL, encA, encM, sizeLine_val]
theorem rules_n (i : Int) : ∃ n : Nat, ixL [D.int 0, .int 1, .int 1, .int 2, .int 2, .int 3] (i % 6) = .ok (.int (n : Nat)) ∧ n ≤ 3 := by
  have h : i % 6 = 0 ∨ i % 6 = 1 ∨ i % 6 = 2 ∨ i % 6 = 3 ∨ i % 6 = 4 ∨ i % 6 = 5 := by omega
  rcases h with h | h | h | h | h | h <;> rw [h] <;> first
    | exact ⟨0, rfl, by omega⟩
    | exact ⟨1, rfl, by omega⟩
    | exact ⟨2, rfl, by omega⟩
    | exact ⟨3, rfl, by omega⟩
theorem cutD_mid (ds : List D) (a b : Nat) (h : b ≤ ds.length) (hab : a ≤ b) : cutD ds (some (a : Int)) (some (b : Int)) = (ds.drop a).take (b - a) := by
  unfold cutD
  rw [show HT.sIx ds.length 0 (some (a : Int)) = min a ds.length from HT.sIx_nat _ _ _, show HT.sIx ds.length ds.length (some (b : Int)) = min b ds.length from HT.sIx_nat _ _ _]
  rw [Nat.min_eq_left h, Nat.min_eq_left (Nat.le_trans hab h)]
theorem pick {α β : Type} [Inhabited β] {P : α → β → Prop} {xs : List α} (h : ∀ x ∈ xs, ∃ y, P x y) : ∃ f : α → β, ∀ x ∈ xs, P x (f x) := by
  open Classical in
  exact ⟨fun x => if h : ∃ y, P x y then choose h else default, fun x hx => by
    have h1 := h x hx
    simp only [h1, dif_pos]
    exact choose_spec h1⟩
instance : Inhabited RD := ⟨⟨[], []⟩⟩
theorem V_rules (c : Int) {k : Nat} (hk : k ≤ 5) : ∃ rs : List RD, F__law_rules [.int c, .int (k : Nat)] = .ok (.lst (rs.map encL)) ∧ (∀ r ∈ rs, ∃ n, r.Ok n k ∧ n ≤ 4) ∧ rs.length ≤ 3 := by
  have hl := row_length c 43
  obtain ⟨x, hx⟩ : ∃ x, (row c 43)[0]? = some x := ⟨(row c 43)[0]'(by rw [hl]; omega), List.getElem?_eq_getElem (by rw [hl]; omega)⟩
  have ex : ixL ((row c 43).map D.int) 0 = .ok (.int x) := ixL_map (i := 0) hx
  obtain ⟨n, en, n3⟩ := rules_n x
  have er : rng1R [.int (n : Nat)] = .ok (encI (List.range n)) := by rw [rng1R_nat (by omega), rngL_nat]; rfl
  have hp : ∀ j ∈ List.range n, ∃ r : RD, F__law_rule [.lst ((((row c 43).drop (1 + 14 * j)).take 14).map .int), .int (k : Nat)] = .ok (encL r) ∧ ∃ n, r.Ok n k ∧ n ≤ 4 := fun j hj => by
    have hj := List.mem_range.mp hj
    obtain ⟨r, n, h1, h2⟩ := V_rule (row := ((row c 43).drop (1 + 14 * j)).take 14) (k := k) (by simp [hl]; omega) hk
    exact ⟨r, h1, n, h2⟩
  obtain ⟨f, hf⟩ := pick hp
  have ev : F__law_row [.int c, .int 43] = .ok (.lst ((row c 43).map .int)) := V_row c 43 (by omega)
  have e1 : lcL (.one 3) [3] yes (cal F__law_rule 2 [] (aC (slc (vo 2) (some (bi addD (cst (.int 1)) (bi mulD (cst (.int 14)) (vo 3)))) (some (bi addD (cst (.int 15)) (bi mulD (cst (.int 14)) (vo 3))))) (aC (vr 1) aN)))
      [.sh (.int c), .sh (.int (k : Nat)), .sh (.lst ((row c 43).map .int)), .no] (encI (List.range n)) = .ok (((List.range n).map f).map encL) := by
    rw [List.map_map]
    refine lcL_map fun j hj => ⟨_, rfl, ?_⟩
    have hj2 := List.mem_range.mp hj
    have e2 : cutD ((row c 43).map D.int) (some (1 + 14 * (j : Int))) (some (15 + 14 * (j : Int))) = (((row c 43).drop (1 + 14 * j)).take 14).map .int := by
      have := cutD_mid ((row c 43).map D.int) (1 + 14 * j) (15 + 14 * j) (by simp [hl]; omega) (by omega)
      rw [show (((1 + 14 * j : Nat)) : Int) = 1 + 14 * (j : Int) by omega, show (((15 + 14 * j : Nat)) : Int) = 15 + 14 * (j : Int) by omega, show 15 + 14 * j - (1 + 14 * j) = 14 by omega] at this
      rw [this, List.map_take, List.map_drop]
    simp [chk, e2]
    have := (hf j hj).1
    simpa using this
  refine ⟨(List.range n).map f, ?_, fun r hr => ?_, by simpa using n3⟩
  · have z : n ≤ 16777216 := by omega
    unfold F__law_rules g__law_rules
    simp [ev, ex, chk, sizeLine_val, en, er, z]
    rw [e1]
    simp
  · obtain ⟨j, hj, e⟩ := List.mem_map.mp hr
    rw [← e]
    exact (hf j hj).2
end Lw

set_option Elab.async false
set_option linter.all false
set_option maxRecDepth 100000
set_option maxHeartbeats 4000000
namespace Lw
open Fx
open PySem (Str)
open PySem.PyData (strOk)
open L2 (cutS)
theorem cutD_takeG (ds : List D) (k : Nat) : cutD ds none (some (k : Int)) = ds.take k := by
  unfold cutD
  rw [show HT.sIx ds.length ds.length (some (k : Int)) = min k ds.length from HT.sIx_nat _ _ _]
  simp [HT.sIx, List.take_eq_take_iff]
theorem encS_rev (xs : List Str) : (encS xs).reverse = encS xs.reverse := by simp [encS]
theorem vd_ok (r : RD) (s : Nat) : strOk (vd r s) = true := by
  unfold vd
  split
  · decide +kernel
  split
  · decide +kernel
  split <;> decide +kernel
def wds (ns : List Str) : Nat → List (List Str)
  | 0 => [[]]
  | m + 1 => (wds ns m).flatMap fun w => ns.map fun a => w ++ [a]
def wdsTo (ns : List Str) : Nat → List (List Str)
  | 0 => [[]]
  | m + 1 => wdsTo ns m ++ wds ns (m + 1)
theorem wds_mem (ns : List Str) : ∀ (m : Nat) (w : List Str), w ∈ wds ns m ↔ w.length = m ∧ ∀ a ∈ w, a ∈ ns
  | 0, w => by
    simp only [wds, List.mem_singleton]
    constructor
    · intro h; subst h; simp
    · intro ⟨h, _⟩; exact List.eq_nil_of_length_eq_zero h
  | m + 1, w => by
    simp only [wds, List.mem_flatMap, List.mem_map]
    constructor
    · rintro ⟨u, hu, a, ha, rfl⟩
      obtain ⟨h1, h2⟩ := (wds_mem ns m u).mp hu
      refine ⟨by simp [h1], fun b hb => ?_⟩
      rcases List.mem_append.mp hb with h | h
      · exact h2 b h
      · rw [List.mem_singleton] at h; rw [h]; exact ha
    · rintro ⟨h1, h2⟩
      have hw : w ≠ [] := by intro e; rw [e] at h1; simp at h1
      refine ⟨w.dropLast, (wds_mem ns m _).mpr ⟨by simp [h1], fun a ha => h2 a (List.dropLast_subset w ha)⟩, w.getLast hw, h2 _ (List.getLast_mem hw), List.dropLast_concat_getLast hw⟩
theorem wdsTo_mem (ns : List Str) : ∀ (m : Nat) (w : List Str), w ∈ wdsTo ns m ↔ w.length ≤ m ∧ ∀ a ∈ w, a ∈ ns
  | 0, w => by
    have := wds_mem ns 0 w
    simp only [wds] at this
    simp only [wdsTo, this, Nat.le_zero]
  | m + 1, w => by
    rw [wdsTo, List.mem_append, wdsTo_mem ns m w, wds_mem ns (m + 1) w]
    constructor
    · rintro (⟨h1, h2⟩ | ⟨h1, h2⟩)
      · exact ⟨by omega, h2⟩
      · exact ⟨by omega, h2⟩
    · rintro ⟨h1, h2⟩
      by_cases h : w.length = m + 1
      · exact Or.inr ⟨h, h2⟩
      · exact Or.inl ⟨by omega, h2⟩
theorem wdsTo_head (ns : List Str) : ∀ m : Nat, ∃ t, wdsTo ns m = [] :: t
  | 0 => ⟨[], rfl⟩
  | m + 1 => by obtain ⟨t, e⟩ := wdsTo_head ns m; exact ⟨t ++ wds ns (m + 1), by rw [wdsTo, e]; rfl⟩
theorem wds_len (ns : List Str) : ∀ m : Nat, (wds ns m).length = ns.length ^ m
  | 0 => rfl
  | m + 1 => by
    rw [wds, Nat.pow_succ, ← wds_len ns m]
    induction wds ns m with
    | nil => simp
    | cons w ws ih => rw [List.flatMap_cons, List.length_append, ih, List.length_map, List.length_cons, Nat.succ_mul]; omega
theorem wds_small {ns : List Str} (h : ns.length ≤ 5) {m : Nat} (hm : m ≤ 3) : (wds ns m).length ≤ 125 := by
  rw [wds_len]
  calc ns.length ^ m ≤ 5 ^ m := Nat.pow_le_pow_left h m
    _ ≤ 5 ^ 3 := Nat.pow_le_pow_right (by omega) hm
theorem wdsTo_small {ns : List Str} (h : ns.length ≤ 5) : ∀ {m : Nat}, m ≤ 3 → (wdsTo ns m).length ≤ 125 * (m + 1)
  | 0, _ => by simp [wdsTo]
  | m + 1, hm => by
    have h1 := wdsTo_small h (m := m) (by omega)
    have h2 := wds_small h hm
    rw [wdsTo, List.length_append]
    omega
def encW (ws : List (List Str)) : List D := ws.map fun w => .lst (encS w)
theorem encW_nil : encW [] = [] := rfl
theorem encW_cons (w : List Str) (ws : List (List Str)) : encW (w :: ws) = .lst (encS w) :: encW ws := rfl
theorem encW_app (u v : List (List Str)) : encW (u ++ v) = encW u ++ encW v := by simp [encW]
@[simp] theorem encW_length (u : List (List Str)) : (encW u).length = u.length := by simp [encW]
theorem all_rows {ns : List Str} (g : Nm ns) (sz s3 s4 : Sl) (s2 : Sl) : ∀ (ws acc : List (List Str)) (s6 : Sl), (∀ w ∈ ws, w.length ≤ 3) → acc.length + ws.length * 5 ≤ 1000 → ∃ t6,
    forL (.one 6) (asg 5 (bi addD (vo 5) (lc (.one 7) [7] (itm (vr 0)) yes (bi addD (vo 6) (lsd (aC (vr 7) aN)))))) (encW ws) [.sh (.lst (encS ns)), sz, s2, s3, s4, .sh (.lst (encW acc)), s6, .no]
      = .ok (.nx [.sh (.lst (encS ns)), sz, s2, s3, s4, .sh (.lst (encW (acc ++ ws.flatMap fun w => ns.map fun a => w ++ [a]))), t6, .no])
  | [], acc, s6, _, _ => ⟨s6, by simp [encW_nil, forL_nil]⟩
  | w :: ws, acc, s6, h3, hl => by
    have g5 := g.five
    have w3 := h3 w List.mem_cons_self
    simp only [List.length_cons] at hl
    obtain ⟨t6, e⟩ := all_rows g sz s3 s4 s2 ws (acc ++ ns.map fun a => w ++ [a]) (.sh (.lst (encS w))) (fun u hu => h3 u (List.mem_cons_of_mem _ hu)) (by simp; omega)
    refine ⟨t6, ?_⟩
    have ec : lcL (.one 7) [7] yes (bi addD (vo 6) (lsd (aC (vr 7) aN))) [.sh (.lst (encS ns)), sz, s2, s3, s4, .sh (.lst (encW acc)), .sh (.lst (encS w)), .no] (encS ns) = .ok (encW (ns.map fun a => w ++ [a])) := by
      rw [show encW (ns.map fun a => w ++ [a]) = ns.map fun a => D.lst (encS (w ++ [a])) by simp [encW]]
      refine lcL_map (f := D.str) fun x hx => ⟨_, rfl, ?_⟩
      have z : w.length + 1 ≤ 16777216 := by omega
      simp [chk, sizeLine_val, z, encS_app]
      rfl
    have z1 : ns.length ≤ 16777216 := by omega
    have z2 : acc.length + ns.length ≤ 16777216 := by omega
    rw [encW_cons, forL_step (bindT_one _ _ _)]
    simp [chk, sizeLine_val, ec, z1, z2]
    rw [← encW_app, e]
    simp
theorem all_loop {ns : List Str} (g : Nm ns) (sz : Sl) : ∀ (m j : Nat) (s4 s5 s6 : Sl), j + m ≤ 3 → ∃ t4 t5 t6,
    forL (.one 4) (sq (asg 5 (lsd aN)) (sq (fr (.one 6) (itm (vr 2)) (asg 5 (bi addD (vo 5) (lc (.one 7) [7] (itm (vr 0)) yes (bi addD (vo 6) (lsd (aC (vr 7) aN))))))) (sq (asg 2 (vr 5)) (asg 3 (bi addD (vo 3) (vo 2)))))) (encI (List.range' j m))
      [.sh (.lst (encS ns)), sz, .sh (.lst (encW (wds ns j))), .sh (.lst (encW (wdsTo ns j))), s4, s5, s6, .no] = .ok (.nx [.sh (.lst (encS ns)), sz, .sh (.lst (encW (wds ns (j + m)))), .sh (.lst (encW (wdsTo ns (j + m)))), t4, t5, t6, .no])
  | 0, j, s4, s5, s6, _ => ⟨s4, s5, s6, rfl⟩
  | m + 1, j, s4, s5, s6, hj => by
    have g5 := g.five
    have l1 : (wds ns j).length * 5 ≤ 1000 := by have := wds_small g5 (m := j) (by omega); omega
    obtain ⟨t6, e⟩ := all_rows g sz (.sh (.lst (encW (wdsTo ns j)))) (.sh (.int (j : Nat))) (.sh (.lst (encW (wds ns j)))) (wds ns j) [] s6 (fun w hw => by have := ((wds_mem ns j w).mp hw).1; omega) (by simpa using l1)
    obtain ⟨u4, u5, u6, e2⟩ := all_loop g sz m (j + 1) (.sh (.int (j : Nat))) (.sh (.lst (encW (wds ns (j + 1))))) t6 (by omega)
    refine ⟨u4, u5, u6, ?_⟩
    have z1 := wds_small g5 (m := j + 1) (by omega)
    have z2 := wdsTo_small g5 (m := j) (by omega)
    have z : (wdsTo ns j).length + (wds ns (j + 1)).length ≤ 16777216 := by omega
    rw [List.range'_succ, encI_cons, forL_step (bindT_one _ _ _)]
    rw [List.nil_append, show (wds ns j).flatMap (fun w => ns.map fun a => w ++ [a]) = wds ns (j + 1) from rfl, encW_nil] at e
    simp [chk, sizeLine_val, e, z]
    rw [← encW_app, show wdsTo ns j ++ wds ns (j + 1) = wdsTo ns (j + 1) from rfl, e2]
    rw [show j + 1 + m = j + (m + 1) by omega]
theorem V_all {ns : List Str} (g : Nm ns) : F__law_all [.lst (encS ns), .int 3] = .ok (.lst (encW (wdsTo ns 3))) := by
  obtain ⟨t4, t5, t6, e⟩ := all_loop g (.sh (.int 3)) 3 0 .no .no .no (by omega)
  have er : rng1R [.int 3] = .ok (encI (List.range' 0 3)) := rfl
  unfold F__law_all g__law_all
  have e0 : [D.lst []] = encW (wds ns 0) := rfl
  have e1 : [D.lst []] = encW (wdsTo ns 0) := rfl
  simp [chk, sizeLine_val, er]
  rw [← e0, ← e1] at e
  rw [e]
  simp
section
variable {r : RD} {n k : Nat} {ns : List Str}
theorem run_app (r : RD) (ns : List Str) (s : Nat) (u v : List Str) : r.run ns s (u ++ v) = r.run ns (r.run ns s u) v := by simp [RD.run]
theorem reach_run (h : r.Ok n k) (hk : ns.length = k) : ∀ {w : List Str} {s x : Nat}, s < n → r.Reach x s → (∀ a ∈ w, a ∈ ns) → r.Reach x (r.run ns s w)
  | [], s, x, _, hx, _ => hx
  | a :: w, s, x, hs, hx, ha => by
    have h1 := h.stepAt hk hs (ha a List.mem_cons_self)
    exact reach_run h hk (w := w) (s := r.step ns s a) h1.2 (hx.next (List.mem_of_getElem? h1.1)) fun b hb => ha b (List.mem_cons_of_mem _ hb)
theorem reach_self (r : RD) (s : Nat) : r.Reach s s := fun _ h _ => h
theorem run_exists (h : r.Ok n k) (hk : ns.length = k) (hd : ns.Nodup) {s x : Nat} (hs : s < n) (hx : r.Reach s x) : ∃ w, (∀ a ∈ w, a ∈ ns) ∧ r.run ns s w = x := by
  refine hx (fun x => ∃ w, (∀ a ∈ w, a ∈ ns) ∧ r.run ns s w = x) ⟨[], by simp, rfl⟩ ?_
  rintro y z ⟨w, hw, e⟩ hz
  have hy : y < n := by rw [← e]; exact h.run_lt hk hs hw
  obtain ⟨i, hi, ez⟩ := List.mem_iff_getElem.mp hz
  have hl := (h.row _ (h.at_ hy).2).1
  have hi2 : i < ns.length := by omega
  refine ⟨w ++ [ns[i]], fun a ha => ?_, ?_⟩
  · rcases List.mem_append.mp ha with h | h
    · exact hw a h
    · rw [List.mem_singleton] at h; rw [h]; exact List.getElem_mem hi2
  · rw [run_app, e]
    show r.step ns y ns[i] = z
    have e2 : ns.idxOf ns[i] = i := hd.idxOf_getElem i hi2
    rw [RD.step, e2, List.getD_eq_getElem?_getD, List.getElem?_eq_getElem hi, Option.getD_some, ez]
theorem shorter (h : r.Ok n k) (hk : ns.length = k) {s : Nat} (hs : s < n) : ∀ (m : Nat) (w : List Str), w.length ≤ m → (∀ a ∈ w, a ∈ ns) → ∃ u, u.length < n ∧ (∀ a ∈ u, a ∈ ns) ∧ r.run ns s u = r.run ns s w
  | 0, w, hm, hw => ⟨w, by have := h.one; omega, hw, rfl⟩
  | m + 1, w, hm, hw => by
    by_cases hn : w.length < n
    · exact ⟨w, hn, hw, rfl⟩
    have nn : ¬ ((List.range (w.length + 1)).map fun i => r.run ns s (w.take i)).Nodup := fun nd => by
      have := nd_len nd (n := n) fun x hx => by
        obtain ⟨i, _, e⟩ := List.mem_map.mp hx
        rw [← e]
        exact h.run_lt hk hs fun a ha => hw a (List.mem_of_mem_take ha)
      simp at this
      omega
    have : ∃ i j, i < j ∧ j ≤ w.length ∧ r.run ns s (w.take i) = r.run ns s (w.take j) := by
      refine Classical.byContradiction fun no => nn ?_
      rw [List.nodup_iff_pairwise_ne, List.pairwise_iff_getElem]
      intro i j hi hj hij e
      simp at hi hj e
      exact no ⟨i, j, hij, by omega, e⟩
    obtain ⟨i, j, hij, hj, e⟩ := this
    obtain ⟨u, u1, u2, u3⟩ := shorter h hk hs m (w.take i ++ w.drop j) (by simp; omega) fun a ha => by
      rcases List.mem_append.mp ha with h | h
      · exact hw a (List.mem_of_mem_take h)
      · exact hw a (List.mem_of_mem_drop h)
    refine ⟨u, u1, u2, ?_⟩
    rw [u3, run_app, e, ← run_app, List.take_append_drop]
theorem reach_iff (h : r.Ok n k) (hk : ns.length = k) (hd : ns.Nodup) (h4 : n ≤ 4) {s x : Nat} (hs : s < n) : r.Reach s x ↔ ∃ w ∈ wdsTo ns 3, r.run ns s w = x := by
  constructor
  · intro hx
    obtain ⟨w, hw, e⟩ := run_exists h hk hd hs hx
    obtain ⟨u, u1, u2, u3⟩ := shorter h hk hs w.length w (Nat.le_refl _) hw
    exact ⟨u, (wdsTo_mem ns 3 u).mpr ⟨by omega, u2⟩, by rw [u3, e]⟩
  · rintro ⟨w, hw, rfl⟩
    exact reach_run h hk hs (reach_self r s) ((wdsTo_mem ns 3 w).mp hw).2
theorem V_differs (h : r.Ok n k) (hk : ns.length = k) (hd : ns.Nodup) (h4 : n ≤ 4) (g : Nm ns) {ts : List Str} (hl : ts.length ≤ 1000) (ha : ∀ a ∈ ts, a ∈ ns) : F__law_differs [encR r, .lst (encS ns), .lst (encS ts), .str (vd r (r.run ns 0 ts))] = .ok (.bl true) := by
  have hs := h.run_lt hk (s := 0) (Nat.lt_of_lt_of_le Nat.zero_lt_one h.one) ha
  have g5 := g.five
  have zl := wdsTo_small g5 (m := 3) (by omega)
  have z : (wdsTo ns 3).length ≤ 16777216 := by omega
  let s := r.run ns 0 ts
  let vs : List Bool := (wdsTo ns 3).map fun w => r.a (r.run ns s w)
  have ec : ∀ o4 o5 : Sl, lcL (.one 5) [5] yes (cal F_accepts 3 [] (aC (vr 0) (aC (vr 1) (aC (bi addD (vo 2) (vo 5)) aN)))) [.sh (encR r), .sh (.lst (encS ns)), .sh (.lst (encS ts)), .sh (.str (vd r (r.run ns 0 ts))), o4, o5] (encW (wdsTo ns 3)) = .ok (encB vs) := fun o4 o5 => by
    rw [encB, List.map_map]
    refine lcL_map (f := fun w => D.lst (encS w)) fun w hw => ⟨_, rfl, ?_⟩
    have hw2 := (wdsTo_mem ns 3 w).mp hw
    have e1 := V_accepts h hk g (dn := .lst (encS ns)) (dt := .lst (encS (ts ++ w))) (ts := ts ++ w) rfl rfl fun a ha2 => by
      rcases List.mem_append.mp ha2 with h | h
      · exact ha a h
      · exact hw2.2 a h
    have zz : ts.length + w.length ≤ 16777216 := by omega
    rw [encS_app] at e1
    simp [chk, sizeLine_val, zz, e1, run_app, s]
  have i0 : ixL (encB vs) ((0 : Nat) : Int) = .ok (.bl (r.a s)) := by
    obtain ⟨t, et⟩ := wdsTo_head ns 3
    exact encB_ix (by simp [vs, et, RD.run])
  have i0 : ixL (encB vs) 0 = .ok (.bl (r.a s)) := i0
  have all1 : (∀ x, r.Reach s x → r.a x = true) ↔ false ∉ vs := by
    simp only [vs, List.mem_map, not_exists, not_and]
    constructor
    · intro h1 w hw e
      rw [h1 _ ((reach_iff h hk hd h4 hs).mpr ⟨w, hw, rfl⟩)] at e
      exact absurd e (by decide)
    · intro h1 x hx
      obtain ⟨w, hw, rfl⟩ := (reach_iff h hk hd h4 hs).mp hx
      simpa using h1 w hw
  have all2 : (∀ x, r.Reach s x → r.a x = false) ↔ true ∉ vs := by
    simp only [vs, List.mem_map, not_exists, not_and]
    constructor
    · intro h1 w hw e
      rw [h1 _ ((reach_iff h hk hd h4 hs).mpr ⟨w, hw, rfl⟩)] at e
      exact absurd e (by decide)
    · intro h1 x hx
      obtain ⟨w, hw, rfl⟩ := (reach_iff h hk hd h4 hs).mp hx
      simpa using h1 w hw
  have j1 : inD (.bl true) (.lst (encB vs)) = .ok (.bl (decide (true ∈ vs))) := inD_of (inB_bls true vs)
  have j2 : inD (.bl false) (.lst (encB vs)) = .ok (.bl (decide (false ∈ vs))) := inD_of (inB_bls false vs)
  have oks : strOk ("always" : Str) = true ∧ strOk ("never" : Str) = true ∧ strOk ("yes" : Str) = true ∧ strOk ("no" : Str) = true := by decide +kernel
  have es : ∀ {a b : Str}, strOk a = true → strOk b = true → eqD (.str a) (.str b) = .ok (.bl (decide (a = b))) := fun {a b} ha hb => by
    rw [eqD_val (Pn.str 0 ha) (Pn.str 0 hb), eqv_str, Bool.beq_eq_decide_eq]
  have eb : ∀ a b : Bool, eqD (.bl a) (.bl b) = .ok (.bl (a == b)) := fun a b => by
    rw [eqD_val (Pn.bl 0 a) (Pn.bl 0 b), eqv_bl]
  have d1 : ¬ (("never" : Str) = "always") := by decide +kernel
  have d2 : ¬ (("yes" : Str) = "always") := by decide +kernel
  have d3 : ¬ (("yes" : Str) = "never") := by decide +kernel
  have d4 : ¬ (("no" : Str) = "always") := by decide +kernel
  have d5 : ¬ (("no" : Str) = "never") := by decide +kernel
  have d6 : ¬ (("no" : Str) = "yes") := by decide +kernel
  have va := V_all g
  unfold F__law_differs g__law_differs
  have key : (vd r (r.run ns 0 ts) = "always" ∧ r.a s = true) ∨ (vd r (r.run ns 0 ts) = "never" ∧ r.a s = false) ∨ (vd r (r.run ns 0 ts) = "yes" ∧ r.a s = true ∧ true ∈ vs ∧ false ∈ vs) ∨ (vd r (r.run ns 0 ts) = "no" ∧ r.a s = false ∧ true ∈ vs ∧ false ∈ vs) := by
    unfold vd
    by_cases c1 : ∀ x, r.Reach s x → r.a x = true
    · rw [if_pos c1]; exact Or.inl ⟨rfl, c1 s (reach_self r s)⟩
    rw [if_neg c1]
    by_cases c2 : ∀ x, r.Reach s x → r.a x = false
    · rw [if_pos c2]; exact Or.inr (Or.inl ⟨rfl, c2 s (reach_self r s)⟩)
    rw [if_neg c2]
    have m1 : true ∈ vs := Classical.byContradiction fun no => c2 (all2.mpr no)
    have m2 : false ∈ vs := Classical.byContradiction fun no => c1 (all1.mpr no)
    by_cases c3 : r.a s = true
    · rw [if_pos c3]; exact Or.inr (Or.inr (Or.inl ⟨rfl, c3, m1, m2⟩))
    · rw [if_neg c3]; exact Or.inr (Or.inr (Or.inr ⟨rfl, by simpa using c3, m1, m2⟩))
  obtain ⟨o1, o2, o3, o4⟩ := oks
  rcases key with ⟨k1, k2⟩ | ⟨k1, k2⟩ | ⟨k1, k2, k3, k4⟩ | ⟨k1, k2, k3, k4⟩
  · rw [k1] at ec ⊢
    simp [va, z, sizeLine_val, ec, chk, es o1 o1, i0, k2, eb]
  · rw [k1] at ec ⊢
    simp [va, z, sizeLine_val, ec, chk, es o2 o1, es o2 o2, i0, k2, eb, d1]
  · rw [k1] at ec ⊢
    simp [va, z, sizeLine_val, ec, chk, es o3 o1, es o3 o2, es o3 o3, i0, k2, eb, d2, d3, j1, j2, k3, k4]
  · rw [k1] at ec ⊢
    simp [va, z, sizeLine_val, ec, chk, es o4 o1, es o4 o2, es o4 o3, i0, k2, eb, d4, d5, d6, j1, j2, k3, k4]
theorem V_holds (h : r.Ok n k) (hk : ns.length = k) (g : Nm ns) {ts us : List Str} (hl : ts.length + us.length ≤ 1000) (ha : ∀ a ∈ ts, a ∈ ns) (hu : ∀ a ∈ us, a ∈ ns) : F__law_holds [encR r, .lst (encS ns), .lst (encS ts), .str (vd r (r.run ns 0 ts)), .lst (encS us)] = .ok (.bl true) := by
  have hs := h.run_lt hk (s := 0) (Nat.lt_of_lt_of_le Nat.zero_lt_one h.one) ha
  let s := r.run ns 0 ts
  have e1 := V_accepts h hk g (dn := .lst (encS ns)) (dt := .lst (encS (ts ++ us))) (ts := ts ++ us) rfl rfl fun a ha2 => by
    rcases List.mem_append.mp ha2 with h | h
    · exact ha a h
    · exact hu a h
  have hr := reach_run h hk hs (reach_self r s) hu
  have ns' : ∀ {a b : Str}, strOk a = true → strOk b = true → neD (.str a) (.str b) = .ok (.bl (!decide (a = b))) := fun {a b} ha hb => by
    rw [neD_val (Pn.str 0 ha) (Pn.str 0 hb), eqv_str, Bool.beq_eq_decide_eq]
  have oks : strOk ("always" : Str) = true ∧ strOk ("never" : Str) = true := by decide +kernel
  have d1 : ¬ (("always" : Str) = "never") := by decide +kernel
  have d2 : ¬ (("never" : Str) = "always") := by decide +kernel
  have zz : ts.length + us.length ≤ 16777216 := by omega
  rw [encS_app] at e1
  have vo := vd_ok r (r.run ns 0 ts)
  unfold F__law_holds g__law_holds
  have n1 := ns' vo oks.1
  have n2 := ns' vo oks.2
  have k1 : vd r (r.run ns 0 ts) = "always" → r.a (r.run ns 0 (ts ++ us)) = true := by
    unfold vd
    intro e
    by_cases c1 : ∀ x, r.Reach (r.run ns 0 ts) x → r.a x = true
    · rw [run_app]; exact c1 _ hr
    · rw [if_neg c1] at e
      split at e
      · exact absurd e d2
      · split at e
        · exact absurd e (by decide +kernel)
        · exact absurd e (by decide +kernel)
  have k2 : vd r (r.run ns 0 ts) = "never" → r.a (r.run ns 0 (ts ++ us)) = false := by
    unfold vd
    intro e
    by_cases c1 : ∀ x, r.Reach (r.run ns 0 ts) x → r.a x = true
    · rw [if_pos c1] at e; exact absurd e d1
    rw [if_neg c1] at e
    by_cases c2 : ∀ x, r.Reach (r.run ns 0 ts) x → r.a x = false
    · rw [run_app]; exact c2 _ hr
    · rw [if_neg c2] at e
      split at e
      · exact absurd e (by decide +kernel)
      · exact absurd e (by decide +kernel)
  by_cases c1 : vd r (r.run ns 0 ts) = "always"
  · have := k1 c1
    rw [c1] at n1 n2 ⊢
    simp [zz, sizeLine_val, chk, e1, this, n1, n2, d1]
  · by_cases c2 : vd r (r.run ns 0 ts) = "never"
    · have := k2 c2
      rw [c2] at n1 n2 ⊢
      simp [zz, sizeLine_val, chk, e1, this, n1, n2, d2]
    · simp [zz, sizeLine_val, chk, e1, n1, n2, c1, c2]
end
end Lw

set_option Elab.async false
set_option linter.all false
set_option maxRecDepth 100000
set_option maxHeartbeats 4000000
namespace Lw
open Fx
open PySem (Str)
open PySem.PyData (strOk)
open L2 (cutS)
noncomputable abbrev cell_body : En → Oc Res := iff (nt (tst (cal F__law_holds 5 [] (aC (vr 4) (aC (vr 1) (aC (vr 2) (aC (vr 6) (aC (cal F__law_trace 3 [] (aC (vr 1) (aC (vr 7) (aC (bi modD (vo 7) (cst (.int 30))) aN)))) aN)))))))) (Fx.ret (cst (.bl false))) sNx
noncomputable abbrev rule_body : En → Oc Res := (sq (asg 4 (cal F_Rule___init__ 2 [] (aC (un listD (bi ixD (vo 3) (cst (.int 0)))) (aC (lc (.one 8) [8] (itm (bi ixD (vo 3) (cst (.int 1)))) yes (un listD (vo 8))) aN))))
  (sq (asg 5 (un revD (vo 2)))
  (sq (asg 6 (cal F_verdict 3 [] (aC (vr 4) (aC (vr 1) (aC (vr 5) aN)))))
  (sq (iff (orr (tst (bi ninD (vo 6) (lsd (aC (cst (.str "always")) (aC (cst (.str "never")) (aC (cst (.str "yes")) (aC (cst (.str "no")) aN))))))) (nt (tst (cal F__law_differs 4 [] (aC (vr 4) (aC (vr 1) (aC (vr 5) (aC (vr 6) aN)))))))) (Fx.ret (cst (.bl false))) sNx)
  (sq (asg 6 (cal F_verdict 3 [] (aC (vr 4) (aC (vr 1) (aC (vr 2) aN)))))
  (sq (iff (orr (tst (bi ninD (vo 6) (lsd (aC (cst (.str "always")) (aC (cst (.str "never")) (aC (cst (.str "yes")) (aC (cst (.str "no")) aN))))))) (nt (tst (cal F__law_differs 4 [] (aC (vr 4) (aC (vr 1) (aC (vr 2) (aC (vr 6) aN)))))))) (Fx.ret (cst (.bl false))) sNx)
  (fr (.one 7) (itm (bi addD (lsd (aC (cal F__law_cell 2 [] (aC (vr 0) (aC (cst (.int 4)) aN))) (aC (cal F__law_cell 2 [] (aC (vr 0) (aC (cst (.int 5)) aN))) aN))) (slc (vo 0) (some (cst (.int 6))) (some (cst (.int 20)))))) cell_body)))))))
theorem vd_in (r : RD) (s : Nat) : ninD (.str (vd r s)) (.lst [.str "always", .str "never", .str "yes", .str "no"]) = .ok (.bl false) := by
  have e : ([.str "always", .str "never", .str "yes", .str "no"] : List D) = (["always", "never", "yes", "no"] : List Str).map .str := rfl
  rw [e, ninD_of (inB_strs (vd_ok r s) (by decide +kernel))]
  have : vd r s ∈ (["always", "never", "yes", "no"] : List Str) := by
    unfold vd
    split
    · simp
    split
    · simp
    split <;> simp
  simp [this]
section
variable {r : RD} {n k : Nat} {ns : List Str}
theorem cells_loop (h : r.Ok n k) (hk : ns.length = k) (g : Nm ns) {ts : List Str} (hl : ts.length ≤ 200) (ha : ∀ a ∈ ts, a ∈ ns) (s0 s3 s5 s8 : Sl) : ∀ (cs : List Int) (s7 : Sl), ∃ t7,
    forL (.one 7) cell_body (cs.map .int) [s0, .sh (.lst (encS ns)), .sh (.lst (encS ts)), s3, .sh (encR r), s5, .sh (.str (vd r (r.run ns 0 ts))), s7, s8] = .ok (.nx [s0, .sh (.lst (encS ns)), .sh (.lst (encS ts)), s3, .sh (encR r), s5, .sh (.str (vd r (r.run ns 0 ts))), t7, s8])
  | [], s7 => ⟨_, rfl⟩
  | c :: cs, s7 => by
    obtain ⟨t7, e⟩ := cells_loop h hk g hl ha s0 s3 s5 s8 cs (.sh (.int c))
    refine ⟨t7, ?_⟩
    obtain ⟨m, hm⟩ : ∃ m : Nat, c % 30 = (m : Int) := ⟨(c % 30).toNat, by omega⟩
    obtain ⟨us, eu, hu, lu⟩ := V_trace g c m (by omega)
    have eh := V_holds h hk g (ts := ts) (us := us) (by omega) ha hu
    rw [List.map_cons, forL_step (bindT_one _ _ _)]
    simp only [List.set_cons_succ, List.set_cons_zero]
    have b : cell_body [s0, .sh (.lst (encS ns)), .sh (.lst (encS ts)), s3, .sh (encR r), s5, .sh (.str (vd r (r.run ns 0 ts))), .sh (.int c), s8] = .ok (.nx [s0, .sh (.lst (encS ns)), .sh (.lst (encS ts)), s3, .sh (encR r), s5, .sh (.str (vd r (r.run ns 0 ts))), .sh (.int c), s8]) := by
      simp [chk, hm, eu, eh]
    rw [b, goOn_nx, e]
theorem rule_turn (h : r.Ok n k) (h4 : n ≤ 4) (hk : ns.length = k) (hd : ns.Nodup) (g : Nm ns) {ts : List Str} (hl : ts.length ≤ 200) (ha : ∀ a ∈ ts, a ∈ ns) (xs : List Int) (hx : xs.length ≤ 63) (s4 s5 s6 s7 s8 : Sl) : ∃ t4 t5 t6 t7,
    rule_body [.sh (.fz (xs.map .int)), .sh (.lst (encS ns)), .sh (.lst (encS ts)), .sh (encL r), s4, s5, s6, s7, s8] = .ok (.nx [.sh (.fz (xs.map .int)), .sh (.lst (encS ns)), .sh (.lst (encS ts)), .sh (encL r), t4, t5, t6, t7, s8]) := by
  have hmv := h.mv
  have n6 := h.six
  have e0 : ixD (encL r) (.int 0) = .ok (encA r.acc) := rfl
  have e1 : ixD (encL r) (.int 1) = .ok (encM r.mv) := rfl
  have el : listD (encA r.acc) = .ok (.lst (encB r.acc)) := rfl
  have ei : items (encM r.mv) = some (r.mv.map encRow) := rfl
  have ez : (r.mv.map encRow).length ≤ 16777216 := by simp; omega
  have i1 := V_init (r := r) (d1 := .lst (encB r.acc)) (d2 := .lst (r.mv.map fun x => .lst (encI x))) (f := fun x => .lst (encI x)) rfl rfl (fun _ _ => rfl) (by omega)
  let s0 : Sl := .sh (.fz (xs.map .int))
  have ec : ∀ (q4 q5 q6 q7 q8 : Sl), lcL (.one 8) [8] yes (un listD (vo 8)) [s0, .sh (.lst (encS ns)), .sh (.lst (encS ts)), .sh (encL r), q4, q5, q6, q7, q8] (r.mv.map encRow) = .ok (r.mv.map fun x => .lst (encI x)) := fun q4 q5 q6 q7 q8 => by
    refine lcL_map fun x hx => ⟨_, rfl, ?_⟩
    simp [encRow]
  have b1 : asg 4 (cal F_Rule___init__ 2 [] (aC (un listD (bi ixD (vo 3) (cst (.int 0)))) (aC (lc (.one 8) [8] (itm (bi ixD (vo 3) (cst (.int 1)))) yes (un listD (vo 8))) aN))) [s0, .sh (.lst (encS ns)), .sh (.lst (encS ts)), .sh (encL r), s4, s5, s6, s7, s8] = .ok (.nx [s0, .sh (.lst (encS ns)), .sh (.lst (encS ts)), .sh (encL r), .sh (encR r), s5, s6, s7, s8]) := by
    simp only [asg_ap, cal_ap, aC_ap, aN_ap, un_ap, bi_ap, vo_ap, cst_ap, lc_ap, itm_ap, List.getElem?_cons_zero, List.getElem?_cons_succ, voR_sh, bd_ok, e0, e1, el, ei, sizeLine_val, ez, decide_true, chk_true, ec, List.length_cons, List.length_nil, Nat.reduceAdd, List.append_nil, i1, asgR_ok, List.set_cons_succ, List.set_cons_zero]
  have har : ∀ a ∈ ts.reverse, a ∈ ns := fun a h => ha a (List.mem_reverse.mp h)
  have v1 := V_verdict h hk g (dn := .lst (encS ns)) (dt := .lst (encS ts.reverse)) (ts := ts.reverse) rfl rfl har
  have v2 := V_verdict h hk g (dn := .lst (encS ns)) (dt := .lst (encS ts)) (ts := ts) rfl rfl ha
  have w1 := V_differs h hk hd h4 g (ts := ts.reverse) (by simp; omega) har
  have w2 := V_differs h hk hd h4 g (ts := ts) (by omega) ha
  have b2 : asg 5 (un revD (vo 2)) [s0, .sh (.lst (encS ns)), .sh (.lst (encS ts)), .sh (encL r), .sh (encR r), s5, s6, s7, s8] = .ok (.nx [s0, .sh (.lst (encS ns)), .sh (.lst (encS ts)), .sh (encL r), .sh (encR r), .sh (.lst (encS ts.reverse)), s6, s7, s8]) := by
    simp [encS_rev]
  have b3 : ∀ p5 p6 : Sl, asg 6 (cal F_verdict 3 [] (aC (vr 4) (aC (vr 1) (aC (vr 5) aN)))) [s0, .sh (.lst (encS ns)), .sh (.lst (encS ts)), .sh (encL r), .sh (encR r), .sh (.lst (encS ts.reverse)), p6, s7, s8] = .ok (.nx [s0, .sh (.lst (encS ns)), .sh (.lst (encS ts)), .sh (encL r), .sh (encR r), .sh (.lst (encS ts.reverse)), .sh (.str (vd r (r.run ns 0 ts.reverse))), s7, s8]) := fun p5 p6 => by
    simp [v1]
  have b5 : ∀ p5 p6 : Sl, asg 6 (cal F_verdict 3 [] (aC (vr 4) (aC (vr 1) (aC (vr 2) aN)))) [s0, .sh (.lst (encS ns)), .sh (.lst (encS ts)), .sh (encL r), .sh (encR r), p5, p6, s7, s8] = .ok (.nx [s0, .sh (.lst (encS ns)), .sh (.lst (encS ts)), .sh (encL r), .sh (encR r), p5, .sh (.str (vd r (r.run ns 0 ts))), s7, s8]) := fun p5 p6 => by
    simp [v2]
  have b4 : iff (orr (tst (bi ninD (vo 6) (lsd (aC (cst (.str "always")) (aC (cst (.str "never")) (aC (cst (.str "yes")) (aC (cst (.str "no")) aN))))))) (nt (tst (cal F__law_differs 4 [] (aC (vr 4) (aC (vr 1) (aC (vr 5) (aC (vr 6) aN)))))))) (Fx.ret (cst (.bl false))) sNx [s0, .sh (.lst (encS ns)), .sh (.lst (encS ts)), .sh (encL r), .sh (encR r), .sh (.lst (encS ts.reverse)), .sh (.str (vd r (r.run ns 0 ts.reverse))), s7, s8] = .ok (.nx [s0, .sh (.lst (encS ns)), .sh (.lst (encS ts)), .sh (encL r), .sh (encR r), .sh (.lst (encS ts.reverse)), .sh (.str (vd r (r.run ns 0 ts.reverse))), s7, s8]) := by
    simp [sizeLine_val, vd_in, w1]
  have b6 : iff (orr (tst (bi ninD (vo 6) (lsd (aC (cst (.str "always")) (aC (cst (.str "never")) (aC (cst (.str "yes")) (aC (cst (.str "no")) aN))))))) (nt (tst (cal F__law_differs 4 [] (aC (vr 4) (aC (vr 1) (aC (vr 2) (aC (vr 6) aN)))))))) (Fx.ret (cst (.bl false))) sNx [s0, .sh (.lst (encS ns)), .sh (.lst (encS ts)), .sh (encL r), .sh (encR r), .sh (.lst (encS ts.reverse)), .sh (.str (vd r (r.run ns 0 ts))), s7, s8] = .ok (.nx [s0, .sh (.lst (encS ns)), .sh (.lst (encS ts)), .sh (encL r), .sh (encR r), .sh (.lst (encS ts.reverse)), .sh (.str (vd r (r.run ns 0 ts))), s7, s8]) := by
    simp [sizeLine_val, vd_in, w2]
  have c4 : F__law_cell [.fz (xs.map .int), .int 4] = .ok (.int (xs.getD 4 0)) := V_cell xs 4
  have c5 : F__law_cell [.fz (xs.map .int), .int 5] = .ok (.int (xs.getD 5 0)) := V_cell xs 5
  obtain ⟨ys, ey, ly⟩ : ∃ ys : List Int, cutD (xs.map D.int) (some 6) (some 20) = ys.map .int ∧ ys.length ≤ 63 := by
    unfold cutD
    refine ⟨(xs.drop _).take _, by rw [List.map_take, List.map_drop], by simp; omega⟩
  obtain ⟨t7, e7⟩ := cells_loop h hk g hl ha s0 (.sh (encL r)) (.sh (.lst (encS ts.reverse))) s8 ([xs.getD 4 0, xs.getD 5 0] ++ ys) s7
  refine ⟨.sh (encR r), .sh (.lst (encS ts.reverse)), .sh (.str (vd r (r.run ns 0 ts))), t7, ?_⟩
  have hsrc : itm (bi addD (lsd (aC (cal F__law_cell 2 [] (aC (vr 0) (aC (cst (.int 4)) aN))) (aC (cal F__law_cell 2 [] (aC (vr 0) (aC (cst (.int 5)) aN))) aN))) (slc (vo 0) (some (cst (.int 6))) (some (cst (.int 20))))) [s0, .sh (.lst (encS ns)), .sh (.lst (encS ts)), .sh (encL r), .sh (encR r), .sh (.lst (encS ts.reverse)), .sh (.str (vd r (r.run ns 0 ts))), s7, s8] = .ok (([xs.getD 4 0, xs.getD 5 0] ++ ys).map .int) := by
    simp only [List.getD_eq_getElem?_getD] at c4 c5
    have z : 2 + ys.length ≤ 16777216 := by omega
    simp [s0, c4, c5, sizeLine_val, ey, chk, z]
  rw [rule_body, sq_ap, b1, contS_nx, sq_ap, b2, contS_nx, sq_ap, b3 s5, contS_nx, sq_ap, b4, contS_nx, sq_ap, b5, contS_nx, sq_ap, b6, contS_nx, fr_ap, hsrc, frR_ok, e7]
theorem rules_loop (hk : ns.length = k) (hd : ns.Nodup) (g : Nm ns) {ts : List Str} (hl : ts.length ≤ 200) (ha : ∀ a ∈ ts, a ∈ ns) (xs : List Int) (hx : xs.length ≤ 63) : ∀ (rs : List RD) (s3 s4 s5 s6 s7 s8 : Sl), (∀ r ∈ rs, ∃ n, r.Ok n k ∧ n ≤ 4) → ∃ ρ,
    forL (.one 3) rule_body (rs.map encL) [.sh (.fz (xs.map .int)), .sh (.lst (encS ns)), .sh (.lst (encS ts)), s3, s4, s5, s6, s7, s8] = .ok (.nx ρ)
  | [], s3, s4, s5, s6, s7, s8, _ => ⟨_, rfl⟩
  | r :: rs, s3, s4, s5, s6, s7, s8, hr => by
    obtain ⟨n, h, h4⟩ := hr r List.mem_cons_self
    obtain ⟨t4, t5, t6, t7, e1⟩ := rule_turn h h4 hk hd g hl ha xs hx s4 s5 s6 s7 s8
    obtain ⟨ρ, e2⟩ := rules_loop hk hd g hl ha xs hx rs (.sh (encL r)) t4 t5 t6 t7 s8 fun x hx => hr x (List.mem_cons_of_mem _ hx)
    refine ⟨ρ, ?_⟩
    rw [List.map_cons, forL_step (bindT_one _ _ _)]
    simp only [List.set_cons_succ, List.set_cons_zero]
    rw [e1, goOn_nx, e2]
end
theorem law_true (xs : List Int) (hx : xs.length ≤ 63) : F_law [.fz (xs.map .int)] = .ok (.bl true) := by
  obtain ⟨ns, en, g, nd⟩ := V_names (xs.getD 0 0)
  have g5 := g.five
  obtain ⟨m, hm⟩ : ∃ m : Nat, xs.getD 3 0 % 30 = (m : Int) := ⟨(xs.getD 3 0 % 30).toNat, by omega⟩
  obtain ⟨t1, et, ht, hl⟩ := V_trace g (xs.getD 2 0) m (by omega)
  obtain ⟨rs, er, hr, _⟩ := V_rules (xs.getD 1 0) (k := ns.length) (by omega)
  have c0 : F__law_cell [.fz (xs.map .int), .int 0] = .ok (.int (xs.getD 0 0)) := V_cell xs 0
  have c1 : F__law_cell [.fz (xs.map .int), .int 1] = .ok (.int (xs.getD 1 0)) := V_cell xs 1
  have c2 : F__law_cell [.fz (xs.map .int), .int 2] = .ok (.int (xs.getD 2 0)) := V_cell xs 2
  have c3 : F__law_cell [.fz (xs.map .int), .int 3] = .ok (.int (xs.getD 3 0)) := V_cell xs 3
  let S : Sl → Sl → List Sl := fun a b => [.sh (.fz (xs.map .int)), a, b, .no, .no, .no, .no, .no, .no]
  have b1 : asg 1 (cal F__law_names 1 [] (aC (cal F__law_cell 2 [] (aC (vr 0) (aC (cst (.int 0)) aN))) aN)) (S .no .no) = .ok (.nx (S (.sh (.lst (encS ns))) .no)) := by
    simp only [List.getD_eq_getElem?_getD] at c0 en
    simp [S, c0, en]
  have b2 : asg 2 (cal F__law_trace 3 [] (aC (vr 1) (aC (cal F__law_cell 2 [] (aC (vr 0) (aC (cst (.int 2)) aN))) (aC (bi modD (cal F__law_cell 2 [] (aC (vr 0) (aC (cst (.int 3)) aN))) (cst (.int 30))) aN)))) (S (.sh (.lst (encS ns))) .no) = .ok (.nx (S (.sh (.lst (encS ns))) (.sh (.lst (encS t1))))) := by
    simp only [List.getD_eq_getElem?_getD] at c2 c3 et hm
    simp [S, c2, c3, hm, et, chk]
  obtain ⟨ρ, e7⟩ := rules_loop (ns := ns) (k := ns.length) rfl nd g (ts := t1) (by omega) ht xs hx rs .no .no .no .no .no .no hr
  have hsrc : itm (cal F__law_rules 2 [] (aC (cal F__law_cell 2 [] (aC (vr 0) (aC (cst (.int 1)) aN))) (aC (un lenD (vo 1)) aN))) (S (.sh (.lst (encS ns))) (.sh (.lst (encS t1)))) = .ok (rs.map encL) := by
    simp only [List.getD_eq_getElem?_getD] at c1 er
    simp [S, c1, er]
  unfold F_law
  rw [fnB_ap]
  show outR (g_law (S .no .no)) = _
  unfold g_law
  rw [sq_ap, b1, contS_nx, sq_ap, b2, contS_nx, sq_ap, fr_ap, hsrc, frR_ok]
  rw [show forL (.one 3) _ (rs.map encL) _ = Oc.ok (Res.nx ρ) from e7, contS_nx]
  rfl
end Lw

set_option Elab.async false
set_option linter.all false
set_option maxRecDepth 100000
set_option maxHeartbeats 4000000
namespace Lw
open PySem PySem.Spec PyProof.Rows L2 Fx
theorem facts_of {w : World} {K : PySem.W.Frag} {h : Heap} {mg : Str → Option Value} (X : K.In h) (G : h.Ns mainGlobals mg) (cx : He.SaysX fa fn [] tf (chkX tf exl ktl) w h K) : Facts K mg :=
  have c : He.SaysD fa fn K := cx.t.d
  {
    m_all := He.free_ok X G (c.fact 0 rfl)
    m_any := He.free_ok X G (c.fact 1 rfl)
    m_int := He.free_ok X G (c.fact 2 rfl)
    m_len := He.free_ok X G (c.fact 3 rfl)
    m_list := He.free_ok X G (c.fact 4 rfl)
    m_range := He.free_ok X G (c.fact 5 rfl)
    m_tuple := He.free_ok X G (c.fact 6 rfl)
    a_accepting := (List.forall_mem_cons.mpr ⟨fun C h => by (have e := h.symm.trans (He.glo_ok X G (c.fact 7 (f := .glo "Rule") rfl)); cases e; exact ⟨He.cls_ok (c.fact 8 rfl), He.noat_ok (c.fact 9 rfl)⟩), fun _ z => absurd z List.not_mem_nil⟩)
    a_moves := (List.forall_mem_cons.mpr ⟨fun C h => by (have e := h.symm.trans (He.glo_ok X G (c.fact 7 (f := .glo "Rule") rfl)); cases e; exact ⟨He.cls_ok (c.fact 8 rfl), He.noat_ok (c.fact 10 rfl)⟩), fun _ z => absurd z List.not_mem_nil⟩)
    s_Rule_accepting := (List.forall_mem_cons.mpr ⟨fun C h => by (have e := h.symm.trans (He.glo_ok X G (c.fact 7 (f := .glo "Rule") rfl)); cases e; exact ⟨He.cls_ok (c.fact 8 rfl), He.noat_ok (c.fact 9 rfl)⟩), fun _ z => absurd z List.not_mem_nil⟩)
    s_Rule_moves := (List.forall_mem_cons.mpr ⟨fun C h => by (have e := h.symm.trans (He.glo_ok X G (c.fact 7 (f := .glo "Rule") rfl)); cases e; exact ⟨He.cls_ok (c.fact 8 rfl), He.noat_ok (c.fact 10 rfl)⟩), fun _ z => absurd z List.not_mem_nil⟩)
    f_Rule___init__ := by
      obtain ⟨fd, F⟩ := c.def_ 0 (d := d_Rule___init__) rfl
      exact ⟨_, _, fd, He.mkr_ok (c.fact 11 (f := .mkr "Rule") rfl), F, He.glo_ok X G (c.fact 7 (f := .glo "Rule") rfl)⟩
    f_state_after := by
      obtain ⟨fd, F⟩ := c.def_ 1 (d := d_state_after) rfl
      exact ⟨_, fd, F, He.glo_ok X G (c.fact 12 (f := .glo "state_after") rfl)⟩
    f_accepts := by
      obtain ⟨fd, F⟩ := c.def_ 2 (d := d_accepts) rfl
      exact ⟨_, fd, F, He.glo_ok X G (c.fact 13 (f := .glo "accepts") rfl)⟩
    f_states_from := by
      obtain ⟨fd, F⟩ := c.def_ 3 (d := d_states_from) rfl
      exact ⟨_, fd, F, He.glo_ok X G (c.fact 14 (f := .glo "states_from") rfl)⟩
    f_verdict := by
      obtain ⟨fd, F⟩ := c.def_ 4 (d := d_verdict) rfl
      exact ⟨_, fd, F, He.glo_ok X G (c.fact 15 (f := .glo "verdict") rfl)⟩
    f__law_cell := by
      obtain ⟨fd, F⟩ := c.def_ 5 (d := d__law_cell) rfl
      exact ⟨_, fd, F, He.glo_ok X G (c.fact 16 (f := .glo "_law_cell") rfl)⟩
    f__law_row := by
      obtain ⟨fd, F⟩ := c.def_ 6 (d := d__law_row) rfl
      exact ⟨_, fd, F, He.glo_ok X G (c.fact 17 (f := .glo "_law_row") rfl)⟩
    f__law_word := by
      obtain ⟨fd, F⟩ := c.def_ 7 (d := d__law_word) rfl
      exact ⟨_, fd, F, He.glo_ok X G (c.fact 18 (f := .glo "_law_word") rfl)⟩
    f__law_names := by
      obtain ⟨fd, F⟩ := c.def_ 8 (d := d__law_names) rfl
      exact ⟨_, fd, F, He.glo_ok X G (c.fact 19 (f := .glo "_law_names") rfl)⟩
    f__law_rule := by
      obtain ⟨fd, F⟩ := c.def_ 9 (d := d__law_rule) rfl
      exact ⟨_, fd, F, He.glo_ok X G (c.fact 20 (f := .glo "_law_rule") rfl)⟩
    f__law_rules := by
      obtain ⟨fd, F⟩ := c.def_ 10 (d := d__law_rules) rfl
      exact ⟨_, fd, F, He.glo_ok X G (c.fact 21 (f := .glo "_law_rules") rfl)⟩
    f__law_trace := by
      obtain ⟨fd, F⟩ := c.def_ 11 (d := d__law_trace) rfl
      exact ⟨_, fd, F, He.glo_ok X G (c.fact 22 (f := .glo "_law_trace") rfl)⟩
    f__law_all := by
      obtain ⟨fd, F⟩ := c.def_ 12 (d := d__law_all) rfl
      exact ⟨_, fd, F, He.glo_ok X G (c.fact 23 (f := .glo "_law_all") rfl)⟩
    f__law_holds := by
      obtain ⟨fd, F⟩ := c.def_ 13 (d := d__law_holds) rfl
      exact ⟨_, fd, F, He.glo_ok X G (c.fact 24 (f := .glo "_law_holds") rfl)⟩
    f__law_differs := by
      obtain ⟨fd, F⟩ := c.def_ 14 (d := d__law_differs) rfl
      exact ⟨_, fd, F, He.glo_ok X G (c.fact 25 (f := .glo "_law_differs") rfl)⟩ }
theorem law_all {w : World} {K : PySem.W.Frag} {h : Heap} {mg : Str → Option Value} {f : Addr} (X : K.In h) (G : h.Ns mainGlobals mg) (hfa : mg ("law" : Str) = some (.ref f)) (cx : He.SaysX fa fn [] tf (chkX tf exl ktl) w h K) :
    LamX.LawAtS PySem.Challenge.rw_caseslive_k02_whole_verdicts_hold w K (L2.CX (PySem.Challenge.rw_caseslive_k02_whole_verdicts_hold).prog w) 4 63 "_law_script" mg f h := by
  have c : He.SaysD fa fn K := cx.t.d
  obtain ⟨fd, F⟩ := c.def_ 15 (d := d_law) rfl
  have e := hfa.symm.trans (He.glo_ok X G (c.fact 26 (f := .glo "law") rfl))
  cases e
  have T := facts_of X G cx
  have b := FunD.bindsA (ps := ["_law_script"]) F fun _ _ _ _ _ _ us hl => match us, hl with | [_], _ => rfl
  exact law_atX X cx (fun s v => b s [v] rfl) law_true fun base _ _ TB => law_fn T TB F
end Lw
open PySem PySem.W PySem.Calls PyProof.Rows
set_option maxRecDepth 100000 in
set_option maxHeartbeats 0 in
theorem PySem.Challenge.cw_caseslive_k02_whole_verdicts_hold_holds : PySem.Challenge.rw_caseslive_k02_whole_verdicts_hold.Holds := by
  w_on; o_law
  refine HandSHeadRun.head_any (r := OpenLaw.row PySem.Challenge.rw_caseslive_k02_whole_verdicts_hold) (q := view (OpenLaw.row PySem.Challenge.rw_caseslive_k02_whole_verdicts_hold).prog [19]) (H := Lw.hk) (ob := Lw.ob) (M := 6000) (loose := Lw.nms) (d := HandSHeadRun.topDef (OpenLaw.row PySem.Challenge.rw_caseslive_k02_whole_verdicts_hold).prog 19) (kwd := []) Lw.ob_eq
    (by kernel_rfl) (fun s => by kernel_rfl) Lw.run (by kernel_rfl) (by kernel_rfl) (by kernel_rfl) (by rfl) (by first | assumption | decide +kernel) (by decide +kernel) ⟨rfl, rfl, rfl, rfl, rfl, by decide +kernel⟩ ?hw ?hc
  case hw => w_witness2
  case hc =>
    refine LamX.walk_ofTsE (l := PySem.Challenge.rw_caseslive_k02_whole_verdicts_hold) (n := 63) (k := 4) (x := "_law_script") (CX := fun w => L2.CX (PySem.Challenge.rw_caseslive_k02_whole_verdicts_hold).prog w) rfl (by decide) (by kernel_rfl) ⟨rfl, by decide, by decide⟩ ?F (fun w H s e s' z => by
      obtain ⟨_, _, _, _, _, _, _, _, _, _, _, _, z⟩ := z
      exact z)
    intro w mg fa h Y G hmg0
    obtain ⟨K, KX, c⟩ := Y
    have hmg : mg ("law" : PySem.Str) = some (.ref fa) := by
      have e : (HandSHeadRun.topDef (OpenLaw.row PySem.Challenge.rw_caseslive_k02_whole_verdicts_hold).prog 19).name = ("law" : PySem.Str) := by kernel_rfl
      rw [← e]
      exact hmg0
    exact ⟨K, KX, Lw.law_all KX G hmg c⟩
