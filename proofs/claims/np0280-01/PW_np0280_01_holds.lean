import PyProof.Rows.All
import Wide.All
import OpenK.AllK
import Wide.FinOn
import Lean
import PySem.Challenge.RW_np0280_01
open PySem PySem.W PyProof.Rows
set_option Elab.async false
set_option maxRecDepth 100000
set_option maxHeartbeats 8000000
set_option linter.all false
namespace Mine
/-- the opening, on a tree heap: `ex` the end's look, `S` one step -/
def impT (ex : Thread → Option (List Value)) (S : SharedT → Thread → Option (SharedT × Thread)) : Nat → SharedT → Thread → Option SharedT
  | 0, _, _ => none
  | n + 1, s, t => match ex t with
    | some [] => some s
    | some (_ :: _) => none
    | none => match S s t with
      | some (s', t') => impT ex S n s' t'
      | none => none
theorem impT_of {tb : String → Option Builtin} {p : Program} {w : World} : ∀ {n : Nat} {s s' : SharedT} {t : Thread}, impT Thread.atExitBegin (stepT (denote tb) p w) n s t = some s' → importEnds tb p w n s.abs t = some s'.abs
  | 0, _, _, _, h => by cases h
  | n + 1, s, s', t, h => by
    unfold impT at h
    unfold importEnds
    cases he : t.atExitBegin with
    | some l =>
      rw [he] at h
      cases l with
      | nil => cases h; rfl
      | cons a l => cases h
    | none =>
      rw [he] at h
      cases hs : stepT (denote tb) p w s t with
      | none => rw [hs] at h; cases h
      | some r =>
        obtain ⟨s₂, t₂⟩ := r
        rw [hs] at h
        dsimp only
        rw [stepT_spec hs]
        exact impT_of h
/-- the text's run, on a tree heap: `ok` says which steps are let by -/
def topT (ok : Thread → Bool) (S : SharedT → Thread → Option (SharedT × Thread)) : Nat → SharedT → Thread → Option SharedT
  | 0, _, _ => none
  | n + 1, s, t => match through t with
    | true => some s
    | false => match ok t with
      | false => none
      | true => match S s t with
        | some (s', t') => topT ok S n s' t'
        | none => none
theorem topT_of {tb : String → Option Builtin} {p : Program} {w : World} {n₀ : Nat} {ann : Option Value} : ∀ {n : Nat} {s s' : SharedT} {t : Thread}, topT (stepOk n₀ ann) (stepT (denote tb) p w) n s t = some s' → topRun tb p w n₀ ann n s.abs t = some s'.abs
  | 0, _, _, _, h => by cases h
  | n + 1, s, s', t, h => by
    unfold topT at h
    unfold topRun
    cases he : through t with
    | true => rw [he] at h; cases h; rfl
    | false =>
      rw [he] at h
      cases hk : stepOk n₀ ann t with
      | false => rw [hk] at h; cases h
      | true =>
        rw [hk] at h
        cases hs : stepT (denote tb) p w s t with
        | none => rw [hs] at h; cases h
        | some r =>
          obtain ⟨s₂, t₂⟩ := r
          rw [hs] at h
          rw [stepT_spec hs]
          exact topT_of h
/-- a list of objects, put into a tree one by one -/
def grow : List Obj → BT → Nat → Option (BT × Nat)
  | [], T, n => some (T, n)
  | o :: l, T, n => match ((T.ins n o).get n).isSome with
    | true => grow l (T.ins n o) (n + 1)
    | false => none
theorem grow_of {life : Life} : ∀ {l : List Obj} {T T' : BT} {n n' : Nat}, grow l T n = some (T', n') → absHeap T' n' life = ⟨(absHeap T n life).objs ++ l.toArray, life⟩
  | [], T, T', n, n', h => by cases h; simp [absHeap]
  | o :: l, T, T', n, n', h => by
    unfold grow at h
    cases g : ((T.ins n o).get n).isSome with
    | false => rw [g] at h; cases h
    | true =>
      rw [g] at h
      rw [grow_of h, absHeap_ins g]
      simp [Heap.push]
def treed (s : Shared) : Option SharedT := match grow s.heap.objs.toList .nil 0 with
  | some (T, n) => some ⟨T, n, s.heap.life, s.gens, s.drawn, s.toks, s.os⟩
  | none => none
theorem treed_of {s : Shared} {t : SharedT} (h : treed s = some t) : t.abs = s := by
  unfold treed at h
  cases g : grow s.heap.objs.toList .nil 0 with
  | none => rw [g] at h; cases h
  | some r =>
    obtain ⟨T, n⟩ := r
    rw [g] at h
    cases h
    obtain ⟨⟨objs, life⟩, gens, drawn, toks, os⟩ := s
    show Shared.mk (absHeap T n life) _ _ _ _ = _
    rw [grow_of g]
    simp [absHeap, BT.list]
def fencedT (ex : Thread → Option (List Value)) (S : SharedT → Thread → Option (SharedT × Thread)) (s0 : Shared) (t0 : Thread) (fm : Shared → Option Shared) (N : Nat) : Option SharedT := match treed s0 with
  | none => none
  | some s => match impT ex S N s t0 with
    | none => none
    | some s => match fm s.abs with
      | none => none
      | some s => treed s
theorem fencedT_of {p : Program} {w : World} {N : Nat} {s : SharedT} (h : fencedT Thread.atExitBegin (stepT (denote treeTable) (opening p) w) (start (opening p)).1 (start (opening p)).2 (fenceModules? p) N = some s) : fencedOpening treeTable p w N = some s.abs := by
  unfold fencedT at h
  cases h1 : treed (start (opening p)).1 with
  | none => rw [h1] at h; cases h
  | some s1 =>
    rw [h1] at h
    dsimp only at h
    cases h2 : impT Thread.atExitBegin (stepT (denote treeTable) (opening p) w) N s1 (start (opening p)).2 with
    | none => rw [h2] at h; cases h
    | some s2 =>
      rw [h2] at h
      dsimp only at h
      cases h3 : fenceModules? p s2.abs with
      | none => rw [h3] at h; cases h
      | some s3 =>
        rw [h3] at h
        dsimp only at h
        have e := impT_of h2
        rw [treed_of h1] at e
        unfold fencedOpening
        rw [e]
        show fenceModules? p s2.abs = _
        rw [h3, treed_of h]
def topFromT (mp : Heap → Addr → Str → Option Value) (ok : Nat → Option Value → Thread → Bool) (S : SharedT → Thread → Option (SharedT × Thread)) (t0 : Thread) (fit : Heap → Heap → Bool) (N : Nat) (s₀ : SharedT) : Option SharedT :=
  match s₀.abs.heap.isNs mainGlobals && s₀.gens.size == 0 with
  | true => (match topT (ok s₀.n (mp s₀.abs.heap mainGlobals "__annotations__")) S N s₀ t0 with
      | none => none
      | some s₁ => match fit s₀.abs.heap s₁.abs.heap && gensDone s₁.abs with
        | true => some s₁
        | false => none)
  | false => none
theorem topFromT_of {p : Program} {w : World} {N : Nat} {s₀ s : SharedT} (h : topFromT Heap.nsMap stepOk (stepT (denote treeTable) p w) (topStub p) (fun h h' => staticsOk (importedModules p.main.body) h h' && namesBound p h' && laidKept h h') N s₀ = some s) : topFrom treeTable p w N s₀.abs = some s.abs := by
  unfold topFromT at h
  unfold topFrom
  have e0 : s₀.abs.gens = s₀.gens := rfl
  have e1 : s₀.abs.heap.objs.size = s₀.n := absHeap_size _ _ _
  rw [e0, e1]
  cases h1 : (s₀.abs.heap.isNs mainGlobals && s₀.gens.size == 0) with
  | false => rw [h1] at h; cases h
  | true =>
    rw [h1] at h
    dsimp only at h ⊢
    cases h2 : topT (stepOk s₀.n (s₀.abs.heap.nsMap mainGlobals "__annotations__")) (stepT (denote treeTable) p w) N s₀ (topStub p) with
    | none => rw [h2] at h; cases h
    | some s1 =>
      rw [h2] at h
      rw [topT_of h2]
      dsimp only at h
      show (match staticsOk (importedModules p.main.body) s₀.abs.heap s1.abs.heap && namesBound p s1.abs.heap && gensDone s1.abs && laidKept s₀.abs.heap s1.abs.heap with | true => some s1.abs | false => none) = _
      cases h3 : (staticsOk (importedModules p.main.body) s₀.abs.heap s1.abs.heap && namesBound p s1.abs.heap && laidKept s₀.abs.heap s1.abs.heap && gensDone s1.abs) with
      | false => rw [h3] at h; cases h
      | true =>
        rw [h3] at h
        cases h
        simp only [Bool.and_eq_true] at h3
        obtain ⟨⟨⟨a, b⟩, c⟩, d⟩ := h3
        rw [a, b, c, d]
        rfl
def openT {α : Type} (F : Option SharedT) (G : SharedT → Option SharedT) (Y : Shared → α) : Option α := match F with
  | none => none
  | some s₀ => match G s₀ with
    | none => none
    | some s => some (Y s.abs)
theorem left_of {p q : Program} {loose : List Str} {Xt : Shared → Bool} {α : Type} {Yf : Shared → α} {Ya : World → α} {N : Nat} {g0 : Bool}
    (h : ∀ w, openT (fencedT Thread.atExitBegin (stepT (denote treeTable) (opening p) w) (start (opening p)).1 (start (opening p)).2 (fenceModules? p) N)
      (topFromT Heap.nsMap stepOk (stepT (denote treeTable) p w) (topStub p) (fun h h' => staticsOk (importedModules p.main.body) h h' && namesBound p h' && laidKept h h') N)
      (fun s => (openSeen q loose (importedModules p.main.body) Xt g0 s, Yf s)) = some (openGood q loose, Ya w)) : LeftO p q loose Xt Yf Ya N g0 := fun w => by
  have h := h w
  unfold openT at h
  cases h1 : fencedT Thread.atExitBegin (stepT (denote treeTable) (opening p) w) (start (opening p)).1 (start (opening p)).2 (fenceModules? p) N with
  | none => rw [h1] at h; cases h
  | some s₀ =>
    rw [h1] at h
    dsimp only at h
    cases h2 : topFromT Heap.nsMap stepOk (stepT (denote treeTable) p w) (topStub p) (fun h h' => staticsOk (importedModules p.main.body) h h' && namesBound p h' && laidKept h h') N s₀ with
    | none => rw [h2] at h; cases h
    | some s =>
      rw [h2] at h
      unfold openEnds
      rw [fencedT_of h1]
      show (topFrom treeTable p w N s₀.abs).map _ = _
      rw [topFromT_of h2]
      exact h
/-- the same with the library's quick twins of the engine -/
theorem left_fast {p q : Program} {loose : List Str} {Xt : Shared → Bool} {α : Type} {Yf : Shared → α} {Ya : World → α} {N : Nat} {g0 : Bool}
    (h : ∀ w, openT (fencedT Fast.tw3805553451399329143 (Fast.tw10156331382660048174 (Fast.tw11892475500146522536 Fast.tw14364793385576792824) (opening p) w) (Fast.tw1435165496053646825 (opening p)).1 (Fast.tw1435165496053646825 (opening p)).2 (Fast.tw14289696077712309145 p) N)
      (topFromT Fast.tw8920871248978507458 Fast.tw6613529449190102663 (Fast.tw10156331382660048174 (Fast.tw11892475500146522536 Fast.tw14364793385576792824) p w) (topStub p) (fun h h' => staticsOk (Fast.tw5923862056798008813 p.main.body) h h' && namesBound p h' && laidKept h h') N)
      (fun s => (Fast.tw4187177175401517315 q loose (Fast.tw5923862056798008813 p.main.body) Xt g0 s, Yf s)) = some (openGood q loose, Ya w)) : LeftO p q loose Xt Yf Ya N g0 := by
  rw [← Fast.te3805553451399329143, ← Fast.te10156331382660048174, ← Fast.te11892475500146522536, ← Fast.te14364793385576792824, ← Fast.te1435165496053646825, ← Fast.te14289696077712309145, ← Fast.te8920871248978507458, ← Fast.te6613529449190102663, ← Fast.te5923862056798008813, ← Fast.te4187177175401517315] at h
  exact left_of h
theorem lawSaid : OpenLaw.wellSaid PySem.Challenge.rw_np0280_01 = true := by
  rw [Fast.te9446332074065402090]
  kernel_rfl
section
local macro_rules | `(tactic| o_law) => `(tactic| refine' holds_law lawSaid fun said => ?_)
local macro_rules
  | `(tactic| refine $f:ident $args*) => do
    if args.size < 20 then Lean.Macro.throwUnsupported
    `(tactic| (refine' $f $args*; (case hl => exact left_fast (by intro w; kernel_rfl))))
open_top hd for PySem.Challenge.rw_np0280_01
end
end Mine
local macro_rules | `(tactic| walk_at $s:str) => `(tactic| k_extra $s)
local macro_rules | `(tactic| k_mem) => `(tactic| k_extra "k_mem")
local macro_rules | `(tactic| ktr_rel) => `(tactic| k_extra "ktr_rel")
local macro_rules | `(tactic| k_all) => `(tactic| k_extra "k_all")
local macro_rules | `(tactic| k_updF) => `(tactic| k_extra "k_updF")
local macro_rules | `(tactic| k_tabat) => `(tactic| k_extra "k_tabat")
local macro_rules | `(tactic| ktr_unf) => `(tactic| k_extra "ktr_unf")
local macro_rules | `(tactic| k_ne) => `(tactic| (refine neN ?_; (try dsimp only); k_extra "ne"))
local macro_rules | `(tactic| kaf_pre) => `(tactic| (intro l1; (try k_lt l1)))
local macro_rules | `(tactic| kaf_suf) => `(tactic| ((with_reducible rename News _ _ _ _ => N'); (try dsimp only at N')))
local macro_rules | `(tactic| kbt_split) => `(tactic| (intro l1 l2 F' N'; (try simp only [AllLt] at l1 l2); (try dsimp only at N')))
local macro_rules | `(tactic| kxt_pos) => `(tactic| ((rename Fr _ _ _ _ => lF'); (with_unfolding_all refine' For_turns lF' ?_; k_whole)))
local macro_rules | `(tactic| k_enter) => `(tactic| k_extra "k_enter")
local macro_rules | `(tactic| k_qdec) => `(tactic| kernel_rfl)
namespace Mine
section
theorem base00 : True := by
  k_with_none
  k_with "execs cons" => (k_here; (with_reducible refine wpAny_execs_cons ?_); (try dsimp only); k_fold)
  k_with "ne" => (first | with_reducible assumption | with_reducible exact Ne.symm (by with_reducible assumption) | with_reducible exact Nat.ne_of_gt (by with_reducible assumption) | with_reducible exact Nat.ne_of_lt (by with_reducible assumption) | with_reducible exact neu (by with_reducible assumption) | with_reducible exact neu' (by with_reducible assumption) | with_reducible exact neu2 (by with_reducible assumption) | with_reducible exact neu2' (by with_reducible assumption) | with_reducible exact Nat.ne_of_lt sl1 | with_reducible exact Nat.ne_of_lt sl2 | with_reducible exact Nat.ne_of_lt sl3 | with_reducible exact Nat.ne_of_lt sl4 | with_reducible exact Nat.ne_of_lt sl5 | with_reducible exact Nat.ne_of_gt sl1 | with_reducible exact Nat.ne_of_gt sl2 | with_reducible exact Nat.ne_of_gt sl3 | with_reducible exact Nat.ne_of_gt sl4 | with_reducible exact Nat.ne_of_gt sl5 | omega)
  k_with "lt2" => omega
  k_with "lt0" => (first | with_reducible assumption | omega)
  k_with "lt1" => omega
  k_with "om" => (first | with_reducible assumption | with_reducible exact Nat.le_of_ble_eq_true (by decide) | with_reducible exact ci0 | with_reducible exact ci1 | with_reducible exact cz0 (by with_reducible assumption) | with_reducible exact cz1 (by with_reducible assumption) | with_reducible exact cz2 (by with_reducible assumption) | with_reducible exact cz3 (by with_reducible assumption) | with_reducible exact lb1 (by with_reducible assumption) (by decide) | with_reducible exact lb4 (by with_reducible assumption) (by decide) | with_reducible exact lb2 (by with_reducible assumption) (by with_reducible assumption) (by decide) | with_reducible exact lb5 (by with_reducible assumption) (by with_reducible assumption) (by decide) | with_reducible exact ci4 (by with_reducible assumption) (by decide) | with_reducible exact ci5 (by with_reducible assumption) (by decide) | with_reducible exact cz4 (by with_reducible assumption) (by with_reducible assumption) | with_reducible exact cz5 (by with_reducible assumption) (by with_reducible assumption) | with_reducible exact cz6 (by with_reducible assumption) (by with_reducible assumption) (by with_reducible assumption) (by decide) | with_reducible exact lp1 (by with_reducible assumption) (by decide) | with_reducible exact le1 (by with_reducible assumption) | with_reducible exact le2 (by with_reducible assumption) | with_reducible exact Nat.le_succ _ | with_reducible exact leu (by with_reducible assumption) | with_reducible exact leu2 (by with_reducible assumption) | with_reducible exact zb1 (by with_reducible assumption) (by decide) | with_reducible exact zb2 (by with_reducible assumption) | with_reducible exact zb3 (by with_reducible assumption) (by decide) | with_reducible exact un1 (by with_reducible assumption) | with_reducible exact sl1 | with_reducible exact sl2 | with_reducible exact sl3 | with_reducible exact sl4 | with_reducible exact sl5 | omega)
  k_with "lt" => (first | with_reducible assumption | omega)
  trivial
abbrev Led := List (Addr × Obj)
abbrev topA (dp un : Nat) (gd : Option (List Code)) (env : Env) (outer : List Env) : Around := { handled := none, depth := dp, frames := some (env :: outer), guards := gd, units := un }
abbrev theProg : Program := PySem.Challenge.rw_np0280_01.row.prog
abbrev tupOf (vs : List Value) : Obj := { cls := .type "tuple", data := .seq vs.toArray }

/-- what a call of the text's def does to the ledger, told once -/
def Spec (w : World) (loose : List Str) (mean : ExcName → Option Value) (mg mb : Str → Option Value) (dp un : Nat) (f : Addr) (args : List Value) (news : Led) (post : Value → Led → Prop) : Prop :=
  ∀ (gd : Option (List Code)) (env : Env) (outer : List Env) (A₀ : Around) (base h₀ : Heap) (L : Addr) (m : Str → Option Value) (s : Shared) (Q E : Value → Shared → Prop),
    env.frame = some L → env.scope.kind = .function → Below A₀ base outer h₀ → Fr h₀ L s.heap m → (hd.heap_1 w.params).In h₀ → News h₀ L s.heap news → Top hd.view_1 loose mean mg mb h₀ →
    (∀ v news' h' tk', post v news' → Fr h₀ L h' m → News h₀ L h' news' → Q v { s with heap := h', toks := tk' }) →
    wpAny (model theProg w) (topA dp un gd env outer) (call (.ref f) args) Q E s

theorem at_top {α : Type} {M : Model} {A : Around} {dp un : Nat} {env : Env} {outer : List Env} {t : Sem α} {Q : α → Shared → Prop} {E : Value → Shared → Prop} {s : Shared}
    (hd : A.depth ≤ dp) (hu : A.units ≤ un) (hh : A.handled = none) (hf : A.frames = some (env :: outer)) (h : wpAny M (topA dp un A.guards env outer) t Q E s) : wpAny M A t Q E s :=
  fun Γ p hΓ => h Γ p ⟨hΓ.1.trans hh, Nat.le_trans hΓ.2.1 hd, fun l hl => hΓ.2.2.1 l (hf.trans hl), fun g hg => hΓ.2.2.2.1 g hg, Nat.le_trans hΓ.2.2.2.2 hu⟩

section
variable {w : World} {loose : List Str} {mean : ExcName → Option Value} {mg mb : Str → Option Value}
theorem Spec.use {dp un : Nat} {f : Addr} {args : List Value} {news : Led} {post : Value → Led → Prop} {A A₀ : Around} {env : Env} {outer : List Env} {base h₀ : Heap} {L : Addr} {m : Str → Option Value} {s : Shared} {Q E : Value → Shared → Prop}
    (C : Spec w loose mean mg mb dp un f args news post) (hdp : A.depth ≤ dp) (hu : A.units ≤ un) (hh : A.handled = none) (hA : A.frames = some (env :: outer)) (hf : env.frame = some L) (hk : env.scope.kind = .function)
    (B : Below A₀ base outer h₀) (F : Fr h₀ L s.heap m) (X : (hd.heap_1 w.params).In h₀) (N : News h₀ L s.heap news) (T : Top hd.view_1 loose mean mg mb h₀)
    (ret : ∀ v news' h' tk', post v news' → Fr h₀ L h' m → News h₀ L h' news' → Q v { s with heap := h', toks := tk' }) :
    wpAny (model theProg w) A (call (.ref f) args) Q E s := at_top hdp hu hh hA (C _ _ _ _ _ _ _ _ _ _ _ hf hk B F X N T ret)
/-- a spec told of a shorter ledger serves a longer one -/
theorem Spec.mono {dp un : Nat} {f : Addr} {args : List Value} {news news₁ : Led} {post post₁ : Value → Led → Prop} (C : Spec w loose mean mg mb dp un f args news post) (hn : ∀ p ∈ news, p ∈ news₁)
    (hp : ∀ v n', post v n' → ∃ n₁, post₁ v n₁ ∧ ∀ p ∈ n₁, p ∈ n') : Spec w loose mean mg mb dp un f args news₁ post₁ :=
  fun _ _ _ _ _ _ _ _ _ _ _ a b c d e f g ret => C _ _ _ _ _ _ _ _ _ _ _ a b c d e (fun p hp => f p (hn p hp)) g fun v n' h' tk' po F' N' =>
    let ⟨n₁, q, sub⟩ := hp v n' po
    ret v n₁ h' tk' q F' fun p hp => N' p (sub p hp)
end

theorem UpdF.pick {a : Addr} {o : Obj} {news : Led} {g : Obj → Led} (U : UpdF a o news g) :
    (a, o) ∈ news ∧ (∀ o' p, p ∈ g o' → p = (a, o') ∨ (p ∈ news ∧ p.1 ≠ a)) ∧ (∀ o' p, p ∈ news → p.1 ≠ a → p ∈ g o') ∧ ∀ o', (a, o') ∈ g o' := by
  obtain ⟨pre, post, rfl, hg, h1, h2⟩ := U.split
  refine ⟨List.mem_append_right _ (.head _), fun o' p hp => ?_, fun o' p hp hne => ?_, fun o' => ?_⟩
  · rw [hg o'] at hp
    rcases List.mem_append.mp hp with hp | hp
    · exact .inr ⟨List.mem_append_left _ hp, h1 p hp⟩
    · rcases List.mem_cons.mp hp with rfl | hp
      · exact .inl rfl
      · exact .inr ⟨List.mem_append_right _ (.tail _ hp), h2 p hp⟩
  · rw [hg o']
    rcases List.mem_append.mp hp with hp | hp
    · exact List.mem_append_left _ hp
    · rcases List.mem_cons.mp hp with rfl | hp
      · exact absurd rfl hne
      · exact List.mem_append_right _ (.tail _ hp)
  · rw [hg o']; exact List.mem_append_right _ (.head _)
/-- the ledger less the objects at two addresses -/
def less (news : Led) (as : List Addr) : Led := news.filter fun p => !as.contains p.1
theorem mem_less {news : Led} {as : List Addr} {p : Addr × Obj} : p ∈ less news as ↔ p ∈ news ∧ p.1 ∉ as := by
  unfold less
  rw [List.mem_filter]
  simp
theorem pick1 {a : Addr} {o : Obj} {news : Led} {g : Obj → Led} (U : UpdF a o news g) :
    (∀ p ∈ (a, o) :: less news [a], p ∈ news) ∧ (∀ p ∈ less news [a], p.1 ≠ a) ∧ ∀ o', ∀ p ∈ g o', p ∈ (a, o') :: less news [a] := by
  obtain ⟨h0, h1, _, _⟩ := UpdF.pick U
  refine ⟨fun p hp => ?_, fun p hp => by simpa using (mem_less.mp hp).2, fun o' p hp => ?_⟩
  · rcases List.mem_cons.mp hp with rfl | hp
    · exact h0
    · exact (mem_less.mp hp).1
  · rcases h1 o' p hp with rfl | ⟨a, b⟩
    · exact .head _
    · exact .tail _ (mem_less.mpr ⟨a, by simpa using b⟩)
theorem pick2 {a b : Addr} {oa ob : Obj} {news : Led} {g₁ : Obj → Led} {g₂ : Obj → Obj → Led} (hab : a ≠ b) (U₁ : UpdF a oa news g₁) (U₂ : ∀ o, UpdF b ob (g₁ o) (g₂ o)) :
    (∀ p ∈ (a, oa) :: (b, ob) :: less news [a, b], p ∈ news) ∧ (∀ p ∈ less news [a, b], p.1 ≠ a) ∧ (∀ p ∈ less news [a, b], p.1 ≠ b) ∧
      ∀ o o', ∀ p ∈ g₂ o o', p ∈ (a, o) :: (b, o') :: less news [a, b] := by
  obtain ⟨a0, a1, _, _⟩ := UpdF.pick U₁
  have b0 : (b, ob) ∈ news := by
    obtain ⟨b0, _⟩ := UpdF.pick (U₂ oa)
    rcases a1 oa _ b0 with e | ⟨e, _⟩
    · exact absurd (congrArg Prod.fst e).symm hab
    · exact e
  refine ⟨fun p hp => ?_, fun p hp e => (mem_less.mp hp).2 (by rw [e]; exact .head _), fun p hp e => (mem_less.mp hp).2 (by rw [e]; exact .tail _ (.head _)), fun o o' p hp => ?_⟩
  · rcases List.mem_cons.mp hp with rfl | hp
    · exact a0
    · rcases List.mem_cons.mp hp with rfl | hp
      · exact b0
      · exact (mem_less.mp hp).1
  · obtain ⟨_, b1, _, _⟩ := UpdF.pick (U₂ o)
    rcases b1 o' p hp with rfl | ⟨h, hb⟩
    · exact .tail _ (.head _)
    · rcases a1 o p h with rfl | ⟨h, ha⟩
      · exact .head _
      · exact .tail _ (.tail _ (mem_less.mpr ⟨h, by simp [ha, hb]⟩))
/-- a place where the walk is to halt -/
def Halt (P : Prop) : Prop := P
theorem halt {P : Prop} (h : Halt P) : P := h
theorem Halt.go {P : Prop} (h : P) : Halt P := h

/-- the ledger less one entry -/
inductive Del (a : Addr) (o : Obj) : Led → Led → Prop
  | head {r} : Del a o ((a, o) :: r) r
  | tail {p r r'} : p.1 ≠ a → Del a o r r' → Del a o (p :: r) (p :: r')
theorem Del.sub {a : Addr} {o : Obj} {l r : Led} (d : Del a o l r) : ∀ p ∈ (a, o) :: r, p ∈ l := by
  induction d with
  | head => exact fun p hp => hp
  | tail _ _ ih =>
    intro p hp
    rcases List.mem_cons.mp hp with rfl | hp
    · exact .tail _ (ih _ (.head _))
    · rcases List.mem_cons.mp hp with rfl | hp
      · exact .head _
      · exact .tail _ (ih _ (.tail _ hp))
theorem Del.sub' {a : Addr} {o : Obj} {l r : Led} (d : Del a o l r) : ∀ p ∈ r, p ∈ l := fun p hp => d.sub p (.tail _ hp)
theorem Del.news {a : Addr} {o : Obj} {l r : Led} (d : Del a o l r) {h₀ h : Heap} {L : Addr} (N : News h₀ L h l) : News h₀ L h ((a, o) :: r) := fun p hp => N p (d.sub p hp)

theorem allLt_mem {d : Addr} {l : Led} (h : AllLt d l) : ∀ p ∈ l, @LT.lt Nat _ p.1 d := by
  induction l with
  | nil => exact fun p hp => nomatch hp
  | cons q r ih =>
    intro p hp
    rcases List.mem_cons.mp hp with rfl | hp
    · exact h.1
    · exact ih h.2 p hp
theorem allLt_ne {d : Addr} {l : Led} (h : AllLt d l) : ∀ p ∈ l, p.1 ≠ d := fun p hp => Nat.ne_of_lt (allLt_mem h p hp)

/-- what a cell is: none the right half of a wide sign, 0 a blank, else a code -/
def wdOf : Option Int → Int
  | none => 0
  | some k => if k = 19968 then 2 else 1
def EsOf : Option Int → List Value → Prop
  | none, es => es = []
  | some k, es => if k = 0 then es = [] else ∃ t, es = [.int k t]
inductive CellIn (news : Led) (v : Value) (x : Option Int) : Prop
  | mk (c e vp vq tw es)
    (f0 : v = .ref c)
    (f1 : (c, tupOf [.ref e, .int (wdOf x) tw, vp, vq]) ∈ news)
    (f2 : (e, tupOf es) ∈ news)
    (f3 : EsOf x es) : CellIn news v x
theorem CellIn.mono {news news' : Led} {v : Value} {x : Option Int} (h : CellIn news v x) (hs : ∀ p ∈ news, p ∈ news') : CellIn news' v x :=
  let ⟨c, e, vp, vq, tw, es, a, b, d, f⟩ := h; ⟨c, e, vp, vq, tw, es, a, hs _ b, hs _ d, f⟩
/-- what the law tells of a cell -/
def TellV (v : Value) : Option Int → Prop
  | none => v = .none
  | some k => ∃ t, v = .int k t
abbrev lineDict (P : Params) (t₁ t₂ t₃ : Tok) (cl : Addr) (b : Bool) (sz : Value) : List DictEntry :=
  [⟨PyData.keyHash P (Str.ofString "cells"), .str (Str.ofString "cells") t₁, .ref cl⟩, ⟨PyData.keyHash P (Str.ofString "is_wrapped"), .str (Str.ofString "is_wrapped") t₂, .bool b⟩, ⟨PyData.keyHash P (Str.ofString "size"), .str (Str.ofString "size") t₃, sz⟩]
inductive All2 {α β : Type} (R : α → β → Prop) : List α → List β → Prop
  | nil : All2 R [] []
  | cons {a b l r} : R a b → All2 R l r → All2 R (a :: l) (b :: r)
theorem All2.length {α β : Type} {R : α → β → Prop} {l : List α} {r : List β} (h : All2 R l r) : l.length = r.length := by
  induction h with
  | nil => rfl
  | cons _ _ ih => simp [ih]
theorem All2.mono {α β : Type} {R R' : α → β → Prop} {l : List α} {r : List β} (h : All2 R l r) (k : ∀ a b, R a b → R' a b) : All2 R' l r := by
  induction h with
  | nil => exact .nil
  | cons a _ ih => exact .cons (k _ _ a) ih

section
variable {prog : Program} {w : World} {A : Around} {E : Value → Shared → Prop} {env : Env} {test : PySem.Expr} {body orelse : List Stmt} {Q : Flow → Shared → Prop} {k : Nat} {S : Shared}
/-- a while by an invariant and a measure -/
theorem whl_ind {ι : Type} (P : ι → Shared → Prop) (μ : ι → Nat) (i : ι) (hP : P i S)
    (step : ∀ i S', P i S' → (∀ j S'', μ j < μ i → P j S'' → WhlRest prog w A E env test body orelse Q k S'') → WhlRest prog w A E env test body orelse Q k S') :
    WhlRest prog w A E env test body orelse Q k S := by
  have all : ∀ n i S', μ i < n → P i S' → WhlRest prog w A E env test body orelse Q k S' := by
    intro n
    induction n with
    | zero => intro i S' h; exact absurd h (Nat.not_lt_zero _)
    | succ n ih => exact fun i S' hlt p => step i S' p fun j S'' hj q => ih j S'' (by omega) q
  exact all _ i S (Nat.lt_succ_self _) hP
end
/-- one name of a frame, written out -/
theorem fr_name {h₀ h : Heap} {L : Addr} {m : Str → Option Value} (F : Fr h₀ L h m) (x : Str) {v : Value} (e : m x = some v) : Fr h₀ L h (fun y => if y = x then some v else m y) := by
  have : (fun y => if y = x then some v else m y) = m := by
    funext y
    split
    · rename_i h; rw [h, e]
    · rfl
  rw [this]; exact F
theorem menuK {w : World} {A : Around} {E : Value → Shared → Prop} {s : Shared} {h₀ : Heap} {L l : Addr} {news : Led} {vs : List Value} {ns : List Int} {n : Nat} {value slice : PySem.Expr} {k : Int} {u : Tok} {Q : Value → Shared → Prop}
    (N : News h₀ L s.heap news) (hm : (l, listOf vs.toArray n) ∈ news) (hi : IntsAre vs ns) (h0 : 0 ≤ k) (h1 : k < ns.length) (hf : ns.length ≤ 100) (h : ∀ j t, j ∈ ns → Q (.int j t) s)
    (hs : subscripted slice false (.ref l) (.int k u) = operate [.ref l, .int k u] (getItem (.ref l) (.int k u)) := by with_unfolding_all rfl) :
    wpAny (model theProg w) A (subscriptTail value slice (.ref l) (.int k u)) Q E s :=
  item_anyK (N.isList hm) hi h0 h1 (by omega) (fun t => h _ t (by
    have hl : k.toNat < ns.length := by omega
    rw [List.getD_eq_getElem?_getD, List.getElem?_eq_getElem hl]
    exact List.getElem_mem hl)) hs
theorem andr1 {a1 z : Prop} (h : a1 ∧ z) : z := h.2
theorem andr2 {a1 a2 z : Prop} (h : a1 ∧ a2 ∧ z) : z := h.2.2
theorem andr3 {a1 a2 a3 z : Prop} (h : a1 ∧ a2 ∧ a3 ∧ z) : z := h.2.2.2
theorem andr4 {a1 a2 a3 a4 z : Prop} (h : a1 ∧ a2 ∧ a3 ∧ a4 ∧ z) : z := h.2.2.2.2
theorem andr5 {a1 a2 a3 a4 a5 z : Prop} (h : a1 ∧ a2 ∧ a3 ∧ a4 ∧ a5 ∧ z) : z := h.2.2.2.2.2
theorem andr6 {a1 a2 a3 a4 a5 a6 z : Prop} (h : a1 ∧ a2 ∧ a3 ∧ a4 ∧ a5 ∧ a6 ∧ z) : z := h.2.2.2.2.2.2
theorem andr7 {a1 a2 a3 a4 a5 a6 a7 z : Prop} (h : a1 ∧ a2 ∧ a3 ∧ a4 ∧ a5 ∧ a6 ∧ a7 ∧ z) : z := h.2.2.2.2.2.2.2
theorem andr8 {a1 a2 a3 a4 a5 a6 a7 a8 z : Prop} (h : a1 ∧ a2 ∧ a3 ∧ a4 ∧ a5 ∧ a6 ∧ a7 ∧ a8 ∧ z) : z := h.2.2.2.2.2.2.2.2
theorem andr9 {a1 a2 a3 a4 a5 a6 a7 a8 a9 z : Prop} (h : a1 ∧ a2 ∧ a3 ∧ a4 ∧ a5 ∧ a6 ∧ a7 ∧ a8 ∧ a9 ∧ z) : z := h.2.2.2.2.2.2.2.2.2
theorem andr10 {a1 a2 a3 a4 a5 a6 a7 a8 a9 a10 z : Prop} (h : a1 ∧ a2 ∧ a3 ∧ a4 ∧ a5 ∧ a6 ∧ a7 ∧ a8 ∧ a9 ∧ a10 ∧ z) : z := h.2.2.2.2.2.2.2.2.2.2
theorem andr11 {a1 a2 a3 a4 a5 a6 a7 a8 a9 a10 a11 z : Prop} (h : a1 ∧ a2 ∧ a3 ∧ a4 ∧ a5 ∧ a6 ∧ a7 ∧ a8 ∧ a9 ∧ a10 ∧ a11 ∧ z) : z := h.2.2.2.2.2.2.2.2.2.2.2
theorem andr12 {a1 a2 a3 a4 a5 a6 a7 a8 a9 a10 a11 a12 z : Prop} (h : a1 ∧ a2 ∧ a3 ∧ a4 ∧ a5 ∧ a6 ∧ a7 ∧ a8 ∧ a9 ∧ a10 ∧ a11 ∧ a12 ∧ z) : z := h.2.2.2.2.2.2.2.2.2.2.2.2
theorem andr13 {a1 a2 a3 a4 a5 a6 a7 a8 a9 a10 a11 a12 a13 z : Prop} (h : a1 ∧ a2 ∧ a3 ∧ a4 ∧ a5 ∧ a6 ∧ a7 ∧ a8 ∧ a9 ∧ a10 ∧ a11 ∧ a12 ∧ a13 ∧ z) : z := h.2.2.2.2.2.2.2.2.2.2.2.2.2
theorem andr14 {a1 a2 a3 a4 a5 a6 a7 a8 a9 a10 a11 a12 a13 a14 z : Prop} (h : a1 ∧ a2 ∧ a3 ∧ a4 ∧ a5 ∧ a6 ∧ a7 ∧ a8 ∧ a9 ∧ a10 ∧ a11 ∧ a12 ∧ a13 ∧ a14 ∧ z) : z := h.2.2.2.2.2.2.2.2.2.2.2.2.2.2
theorem andr15 {a1 a2 a3 a4 a5 a6 a7 a8 a9 a10 a11 a12 a13 a14 a15 z : Prop} (h : a1 ∧ a2 ∧ a3 ∧ a4 ∧ a5 ∧ a6 ∧ a7 ∧ a8 ∧ a9 ∧ a10 ∧ a11 ∧ a12 ∧ a13 ∧ a14 ∧ a15 ∧ z) : z := h.2.2.2.2.2.2.2.2.2.2.2.2.2.2.2
theorem andr16 {a1 a2 a3 a4 a5 a6 a7 a8 a9 a10 a11 a12 a13 a14 a15 a16 z : Prop} (h : a1 ∧ a2 ∧ a3 ∧ a4 ∧ a5 ∧ a6 ∧ a7 ∧ a8 ∧ a9 ∧ a10 ∧ a11 ∧ a12 ∧ a13 ∧ a14 ∧ a15 ∧ a16 ∧ z) : z := h.2.2.2.2.2.2.2.2.2.2.2.2.2.2.2.2
/-- a goal, named for a while -/
theorem cutP {P : Prop} (h : ∀ R : Prop, (P → R) → R) : P := h P id
theorem pj0 { a z : Prop} (h : a ∧ z) : a := h.1
theorem pj1 {x0 a z : Prop} (h : x0 ∧ a ∧ z) : a := h.2.1
theorem pj2 {x0 x1 a z : Prop} (h : x0 ∧ x1 ∧ a ∧ z) : a := h.2.2.1
theorem pj3 {x0 x1 x2 a z : Prop} (h : x0 ∧ x1 ∧ x2 ∧ a ∧ z) : a := h.2.2.2.1
theorem pj4 {x0 x1 x2 x3 a z : Prop} (h : x0 ∧ x1 ∧ x2 ∧ x3 ∧ a ∧ z) : a := h.2.2.2.2.1
theorem pj5 {x0 x1 x2 x3 x4 a z : Prop} (h : x0 ∧ x1 ∧ x2 ∧ x3 ∧ x4 ∧ a ∧ z) : a := h.2.2.2.2.2.1
theorem pj6 {x0 x1 x2 x3 x4 x5 a z : Prop} (h : x0 ∧ x1 ∧ x2 ∧ x3 ∧ x4 ∧ x5 ∧ a ∧ z) : a := h.2.2.2.2.2.2.1
theorem pj7 {x0 x1 x2 x3 x4 x5 x6 a z : Prop} (h : x0 ∧ x1 ∧ x2 ∧ x3 ∧ x4 ∧ x5 ∧ x6 ∧ a ∧ z) : a := h.2.2.2.2.2.2.2.1
theorem pj8 {x0 x1 x2 x3 x4 x5 x6 x7 a z : Prop} (h : x0 ∧ x1 ∧ x2 ∧ x3 ∧ x4 ∧ x5 ∧ x6 ∧ x7 ∧ a ∧ z) : a := h.2.2.2.2.2.2.2.2.1
theorem pj9 {x0 x1 x2 x3 x4 x5 x6 x7 x8 a z : Prop} (h : x0 ∧ x1 ∧ x2 ∧ x3 ∧ x4 ∧ x5 ∧ x6 ∧ x7 ∧ x8 ∧ a ∧ z) : a := h.2.2.2.2.2.2.2.2.2.1
theorem pj10 {x0 x1 x2 x3 x4 x5 x6 x7 x8 x9 a z : Prop} (h : x0 ∧ x1 ∧ x2 ∧ x3 ∧ x4 ∧ x5 ∧ x6 ∧ x7 ∧ x8 ∧ x9 ∧ a ∧ z) : a := h.2.2.2.2.2.2.2.2.2.2.1
theorem pj11 {x0 x1 x2 x3 x4 x5 x6 x7 x8 x9 x10 a z : Prop} (h : x0 ∧ x1 ∧ x2 ∧ x3 ∧ x4 ∧ x5 ∧ x6 ∧ x7 ∧ x8 ∧ x9 ∧ x10 ∧ a ∧ z) : a := h.2.2.2.2.2.2.2.2.2.2.2.1
theorem pj12 {x0 x1 x2 x3 x4 x5 x6 x7 x8 x9 x10 x11 a z : Prop} (h : x0 ∧ x1 ∧ x2 ∧ x3 ∧ x4 ∧ x5 ∧ x6 ∧ x7 ∧ x8 ∧ x9 ∧ x10 ∧ x11 ∧ a ∧ z) : a := h.2.2.2.2.2.2.2.2.2.2.2.2.1
theorem pj13 {x0 x1 x2 x3 x4 x5 x6 x7 x8 x9 x10 x11 x12 a z : Prop} (h : x0 ∧ x1 ∧ x2 ∧ x3 ∧ x4 ∧ x5 ∧ x6 ∧ x7 ∧ x8 ∧ x9 ∧ x10 ∧ x11 ∧ x12 ∧ a ∧ z) : a := h.2.2.2.2.2.2.2.2.2.2.2.2.2.1
theorem pj14 {x0 x1 x2 x3 x4 x5 x6 x7 x8 x9 x10 x11 x12 x13 a z : Prop} (h : x0 ∧ x1 ∧ x2 ∧ x3 ∧ x4 ∧ x5 ∧ x6 ∧ x7 ∧ x8 ∧ x9 ∧ x10 ∧ x11 ∧ x12 ∧ x13 ∧ a ∧ z) : a := h.2.2.2.2.2.2.2.2.2.2.2.2.2.2.1
theorem pj15 {x0 x1 x2 x3 x4 x5 x6 x7 x8 x9 x10 x11 x12 x13 x14 a z : Prop} (h : x0 ∧ x1 ∧ x2 ∧ x3 ∧ x4 ∧ x5 ∧ x6 ∧ x7 ∧ x8 ∧ x9 ∧ x10 ∧ x11 ∧ x12 ∧ x13 ∧ x14 ∧ a ∧ z) : a := h.2.2.2.2.2.2.2.2.2.2.2.2.2.2.2.1
theorem pj16 {x0 x1 x2 x3 x4 x5 x6 x7 x8 x9 x10 x11 x12 x13 x14 x15 a z : Prop} (h : x0 ∧ x1 ∧ x2 ∧ x3 ∧ x4 ∧ x5 ∧ x6 ∧ x7 ∧ x8 ∧ x9 ∧ x10 ∧ x11 ∧ x12 ∧ x13 ∧ x14 ∧ x15 ∧ a ∧ z) : a := h.2.2.2.2.2.2.2.2.2.2.2.2.2.2.2.2.1
theorem pj17 {x0 x1 x2 x3 x4 x5 x6 x7 x8 x9 x10 x11 x12 x13 x14 x15 x16 a z : Prop} (h : x0 ∧ x1 ∧ x2 ∧ x3 ∧ x4 ∧ x5 ∧ x6 ∧ x7 ∧ x8 ∧ x9 ∧ x10 ∧ x11 ∧ x12 ∧ x13 ∧ x14 ∧ x15 ∧ x16 ∧ a ∧ z) : a := pj1 h.2.2.2.2.2.2.2.2.2.2.2.2.2.2.2.2
theorem pj18 {x0 x1 x2 x3 x4 x5 x6 x7 x8 x9 x10 x11 x12 x13 x14 x15 x16 x17 a z : Prop} (h : x0 ∧ x1 ∧ x2 ∧ x3 ∧ x4 ∧ x5 ∧ x6 ∧ x7 ∧ x8 ∧ x9 ∧ x10 ∧ x11 ∧ x12 ∧ x13 ∧ x14 ∧ x15 ∧ x16 ∧ x17 ∧ a ∧ z) : a := pj2 h.2.2.2.2.2.2.2.2.2.2.2.2.2.2.2.2
theorem pj19 {x0 x1 x2 x3 x4 x5 x6 x7 x8 x9 x10 x11 x12 x13 x14 x15 x16 x17 x18 a z : Prop} (h : x0 ∧ x1 ∧ x2 ∧ x3 ∧ x4 ∧ x5 ∧ x6 ∧ x7 ∧ x8 ∧ x9 ∧ x10 ∧ x11 ∧ x12 ∧ x13 ∧ x14 ∧ x15 ∧ x16 ∧ x17 ∧ x18 ∧ a ∧ z) : a := pj3 h.2.2.2.2.2.2.2.2.2.2.2.2.2.2.2.2
theorem pj20 {x0 x1 x2 x3 x4 x5 x6 x7 x8 x9 x10 x11 x12 x13 x14 x15 x16 x17 x18 x19 a z : Prop} (h : x0 ∧ x1 ∧ x2 ∧ x3 ∧ x4 ∧ x5 ∧ x6 ∧ x7 ∧ x8 ∧ x9 ∧ x10 ∧ x11 ∧ x12 ∧ x13 ∧ x14 ∧ x15 ∧ x16 ∧ x17 ∧ x18 ∧ x19 ∧ a ∧ z) : a := pj4 h.2.2.2.2.2.2.2.2.2.2.2.2.2.2.2.2
theorem pj21 {x0 x1 x2 x3 x4 x5 x6 x7 x8 x9 x10 x11 x12 x13 x14 x15 x16 x17 x18 x19 x20 a z : Prop} (h : x0 ∧ x1 ∧ x2 ∧ x3 ∧ x4 ∧ x5 ∧ x6 ∧ x7 ∧ x8 ∧ x9 ∧ x10 ∧ x11 ∧ x12 ∧ x13 ∧ x14 ∧ x15 ∧ x16 ∧ x17 ∧ x18 ∧ x19 ∧ x20 ∧ a ∧ z) : a := pj5 h.2.2.2.2.2.2.2.2.2.2.2.2.2.2.2.2
theorem pj22 {x0 x1 x2 x3 x4 x5 x6 x7 x8 x9 x10 x11 x12 x13 x14 x15 x16 x17 x18 x19 x20 x21 a z : Prop} (h : x0 ∧ x1 ∧ x2 ∧ x3 ∧ x4 ∧ x5 ∧ x6 ∧ x7 ∧ x8 ∧ x9 ∧ x10 ∧ x11 ∧ x12 ∧ x13 ∧ x14 ∧ x15 ∧ x16 ∧ x17 ∧ x18 ∧ x19 ∧ x20 ∧ x21 ∧ a ∧ z) : a := pj6 h.2.2.2.2.2.2.2.2.2.2.2.2.2.2.2.2
theorem pj23 {x0 x1 x2 x3 x4 x5 x6 x7 x8 x9 x10 x11 x12 x13 x14 x15 x16 x17 x18 x19 x20 x21 x22 a z : Prop} (h : x0 ∧ x1 ∧ x2 ∧ x3 ∧ x4 ∧ x5 ∧ x6 ∧ x7 ∧ x8 ∧ x9 ∧ x10 ∧ x11 ∧ x12 ∧ x13 ∧ x14 ∧ x15 ∧ x16 ∧ x17 ∧ x18 ∧ x19 ∧ x20 ∧ x21 ∧ x22 ∧ a ∧ z) : a := pj7 h.2.2.2.2.2.2.2.2.2.2.2.2.2.2.2.2
theorem pj24 {x0 x1 x2 x3 x4 x5 x6 x7 x8 x9 x10 x11 x12 x13 x14 x15 x16 x17 x18 x19 x20 x21 x22 x23 a z : Prop} (h : x0 ∧ x1 ∧ x2 ∧ x3 ∧ x4 ∧ x5 ∧ x6 ∧ x7 ∧ x8 ∧ x9 ∧ x10 ∧ x11 ∧ x12 ∧ x13 ∧ x14 ∧ x15 ∧ x16 ∧ x17 ∧ x18 ∧ x19 ∧ x20 ∧ x21 ∧ x22 ∧ x23 ∧ a ∧ z) : a := pj8 h.2.2.2.2.2.2.2.2.2.2.2.2.2.2.2.2
theorem pj25 {x0 x1 x2 x3 x4 x5 x6 x7 x8 x9 x10 x11 x12 x13 x14 x15 x16 x17 x18 x19 x20 x21 x22 x23 x24 a z : Prop} (h : x0 ∧ x1 ∧ x2 ∧ x3 ∧ x4 ∧ x5 ∧ x6 ∧ x7 ∧ x8 ∧ x9 ∧ x10 ∧ x11 ∧ x12 ∧ x13 ∧ x14 ∧ x15 ∧ x16 ∧ x17 ∧ x18 ∧ x19 ∧ x20 ∧ x21 ∧ x22 ∧ x23 ∧ x24 ∧ a ∧ z) : a := pj9 h.2.2.2.2.2.2.2.2.2.2.2.2.2.2.2.2
theorem pj26 {x0 x1 x2 x3 x4 x5 x6 x7 x8 x9 x10 x11 x12 x13 x14 x15 x16 x17 x18 x19 x20 x21 x22 x23 x24 x25 a z : Prop} (h : x0 ∧ x1 ∧ x2 ∧ x3 ∧ x4 ∧ x5 ∧ x6 ∧ x7 ∧ x8 ∧ x9 ∧ x10 ∧ x11 ∧ x12 ∧ x13 ∧ x14 ∧ x15 ∧ x16 ∧ x17 ∧ x18 ∧ x19 ∧ x20 ∧ x21 ∧ x22 ∧ x23 ∧ x24 ∧ x25 ∧ a ∧ z) : a := pj10 h.2.2.2.2.2.2.2.2.2.2.2.2.2.2.2.2
theorem lsu {a b : Nat} (h : a < b) : a < b + 1 := Nat.lt_succ_of_lt h
theorem leu {a b : Nat} (h : a < b) : a ≤ b + 1 := Nat.le_of_lt (lsu h)
theorem leu2 {a b : Nat} (h : a + 1 < b) : a ≤ b + 1 := leu (Nat.lt_trans (Nat.lt_succ_self a) h)
theorem neu {a b : Nat} (h : a < b) : a ≠ b + 1 := Nat.ne_of_lt (lsu h)
theorem neu' {a b : Nat} (h : a < b) : b + 1 ≠ a := Nat.ne_of_gt (lsu h)
theorem neu2 {a b : Nat} (h : a + 1 < b) : a ≠ b + 1 := neu (Nat.lt_trans (Nat.lt_succ_self a) h)
theorem neu2' {a b : Nat} (h : a + 1 < b) : b + 1 ≠ a := neu' (Nat.lt_trans (Nat.lt_succ_self a) h)
theorem sl1 {a : Nat} : a < a + 1 := by omega
theorem sl2 {a : Nat} : a < a + 1 + 1 := by omega
theorem sl3 {a : Nat} : a < a + 1 + 1 + 1 := by omega
theorem sl4 {a : Nat} : a < a + 1 + 1 + 1 + 1 := by omega
theorem sl5 {a : Nat} : a < a + 1 + 1 + 1 + 1 + 1 := by omega
theorem ci0 {i : Nat} : (0 : Int) ≤ (i : Int) := by omega
theorem ci1 {i : Nat} : (0 : Int) ≤ (i : Int) + 1 := by omega
theorem ci4 {i n : Nat} (h : i < n) (e : Nat.ble n 1000 = true) : (i : Int) < 1000 := by have := Nat.le_of_ble_eq_true e; omega
theorem ci5 {i n : Nat} (h : i < n) (e : Nat.ble n 999 = true) : (i : Int) + 1 < 1000 := by have := Nat.le_of_ble_eq_true e; omega
theorem cz0 {k : Nat} {c : Int} (h : 0 + (k : Int) = c) : 0 ≤ c := by omega
theorem cz1 {k : Nat} {c : Int} (h : 0 + (k : Int) = c) : c.toNat = k := by omega
theorem cz2 {k : Nat} {c : Int} (h : 0 + (k : Int) = c) : (k : Int) = c := by omega
theorem cz3 {k : Nat} {c : Int} (h : 0 + (k : Int) = c) : c = (k : Int) := by omega
theorem cz4 {k n : Nat} {c : Int} (h : 0 + (k : Int) = c) (h2 : k < n) : c < (n : Int) := by omega
theorem cz5 {k n : Nat} {c : Int} (h : 0 + (k : Int) = c) (h2 : k < n) : c.toNat < n := by omega
theorem cz6 {k n m : Nat} {c : Int} (h : 0 + (k : Int) = c) (h2 : k < n) (h3 : n ≤ m) (e : Nat.ble m 1000 = true) : c < 1000 := by have := Nat.le_of_ble_eq_true e; omega
theorem cz7 {k n m m' : Nat} {c : Int} (h : 0 + (k : Int) = c) (h2 : k < n) (h3 : n = m) (h4 : m ≤ m') (e : Nat.ble m' 1000 = true) : c < 1000 := by have := Nat.le_of_ble_eq_true e; omega
theorem lb1 {a m c : Nat} (h : a ≤ m) (e : Nat.ble m c = true) : a ≤ c := Nat.le_trans h (Nat.le_of_ble_eq_true e)
theorem lb2 {a b m c : Nat} (h : a = b) (h2 : b ≤ m) (e : Nat.ble m c = true) : a ≤ c := h ▸ lb1 h2 e
theorem lb3 {a b d m c : Nat} (h : a = b) (h1 : b = d) (h2 : d ≤ m) (e : Nat.ble m c = true) : a ≤ c := h ▸ lb2 h1 h2 e
theorem lb4 {a m c : Nat} (h : a = m) (e : Nat.ble m c = true) : a ≤ c := h ▸ Nat.le_of_ble_eq_true e
theorem lb5 {a b m c : Nat} (h : a = b) (h1 : b = m) (e : Nat.ble m c = true) : a ≤ c := h ▸ lb4 h1 e
theorem lp1 {a m k c : Nat} (h : a ≤ m) (e : Nat.ble (m + k) c = true) : a + k ≤ c := Nat.le_trans (Nat.add_le_add_right h k) (Nat.le_of_ble_eq_true e)
theorem le1 {a b : Nat} (h : a = b) : a ≤ b := Nat.le_of_eq h
theorem le2 {a b : Nat} (h : a = b) : b ≤ a := Nat.le_of_eq h.symm
theorem zb1 {x n c : Int} (h : x < n) (e : decide (n ≤ c) = true) : x < c := Int.lt_of_lt_of_le h (of_decide_eq_true e)
theorem zb2 {x : Int} (h : 0 ≤ x) : 0 ≤ x + 1 := by omega
theorem zb3 {x n c : Int} (h : x < n) (e : decide (n + 1 ≤ c) = true) : x + 1 < c := Int.lt_of_lt_of_le (Int.add_lt_add_right h 1) (of_decide_eq_true e)
theorem un1 {a k c : Nat} (h : a + k < c) : a < c := Nat.lt_of_le_of_lt (Nat.le_add_right a k) h

end
end Mine
namespace Mine
section
theorem base10 : True := by
  k_with_none
  k_with "execs cons" => (k_here; (with_reducible refine wpAny_execs_cons ?_); (try dsimp only); k_fold)
  k_with "ne" => (first | with_reducible assumption | with_reducible exact Ne.symm (by with_reducible assumption) | with_reducible exact Nat.ne_of_gt (by with_reducible assumption) | with_reducible exact Nat.ne_of_lt (by with_reducible assumption) | with_reducible exact neu (by with_reducible assumption) | with_reducible exact neu' (by with_reducible assumption) | with_reducible exact neu2 (by with_reducible assumption) | with_reducible exact neu2' (by with_reducible assumption) | with_reducible exact Nat.ne_of_lt sl1 | with_reducible exact Nat.ne_of_lt sl2 | with_reducible exact Nat.ne_of_lt sl3 | with_reducible exact Nat.ne_of_lt sl4 | with_reducible exact Nat.ne_of_lt sl5 | with_reducible exact Nat.ne_of_gt sl1 | with_reducible exact Nat.ne_of_gt sl2 | with_reducible exact Nat.ne_of_gt sl3 | with_reducible exact Nat.ne_of_gt sl4 | with_reducible exact Nat.ne_of_gt sl5 | omega)
  k_with "lt2" => omega
  k_with "lt0" => (first | with_reducible assumption | omega)
  k_with "lt1" => omega
  k_with "om" => (first | with_reducible assumption | with_reducible exact Nat.le_of_ble_eq_true (by decide) | with_reducible exact ci0 | with_reducible exact ci1 | with_reducible exact cz0 (by with_reducible assumption) | with_reducible exact cz1 (by with_reducible assumption) | with_reducible exact cz2 (by with_reducible assumption) | with_reducible exact cz3 (by with_reducible assumption) | with_reducible exact lb1 (by with_reducible assumption) (by decide) | with_reducible exact lb4 (by with_reducible assumption) (by decide) | with_reducible exact lb2 (by with_reducible assumption) (by with_reducible assumption) (by decide) | with_reducible exact lb5 (by with_reducible assumption) (by with_reducible assumption) (by decide) | with_reducible exact ci4 (by with_reducible assumption) (by decide) | with_reducible exact ci5 (by with_reducible assumption) (by decide) | with_reducible exact cz4 (by with_reducible assumption) (by with_reducible assumption) | with_reducible exact cz5 (by with_reducible assumption) (by with_reducible assumption) | with_reducible exact cz6 (by with_reducible assumption) (by with_reducible assumption) (by with_reducible assumption) (by decide) | with_reducible exact lp1 (by with_reducible assumption) (by decide) | with_reducible exact le1 (by with_reducible assumption) | with_reducible exact le2 (by with_reducible assumption) | with_reducible exact Nat.le_succ _ | with_reducible exact leu (by with_reducible assumption) | with_reducible exact leu2 (by with_reducible assumption) | with_reducible exact zb1 (by with_reducible assumption) (by decide) | with_reducible exact zb2 (by with_reducible assumption) | with_reducible exact zb3 (by with_reducible assumption) (by decide) | with_reducible exact un1 (by with_reducible assumption) | with_reducible exact sl1 | with_reducible exact sl2 | with_reducible exact sl3 | with_reducible exact sl4 | with_reducible exact sl5 | omega)
  k_with "lt" => (first | with_reducible assumption | omega)
  trivial
/-- the deck: a list of ints left, an int mixed -/
inductive Deck (w : World) (lf : Addr) (ol od : Obj) : Prop
  | mk (vs ns n M t)
    (f0 : ol = listOf vs.toArray n)
    (f1 : IntsAre vs ns)
    (f2 : vs.length ≤ 24)
    (f3 : od.IsDictOf (PySem.strKind theProg w) [(Str.ofString "left", .ref lf), (Str.ofString "mixed", .int M t)])
    (f4 : 0 ≤ M)
    (f5 : M < 1000003) : Deck w lf ol od

section
variable {w : World} {loose : List Str} {mean : ExcName → Option Value} {mg mb : Str → Option Value}
theorem rules10_1 : True := by
  k_with "k_enter" => ((refine' code_def ?q1k1 ?q1k2 ?q1k3 ?q1k4 ?q1k5 ?q1kA ?q1kF ?q1kK ?q1k6 ?q1k7 ?q1k8 ?q1k9 ?q1kB ?_ ?q1c2 ?q1c3 ?q1c4 ?q1c5; (case q1kA => exact rfl); (case q1kF => assumption); (case q1kK => assumption); (case q1k1 => k_asm); (case q1k2 => k_asm); (case q1k3 => k_asm); (case q1k4 => k_asm); (case q1k5 => k_asm); (case q1k6 => k_is); (case q1k7 => k_is); (case q1k8 => k_room); (case q1k9 => first | exact BindsTo.of_eq rfl | exact binds_K (by k_in) rfl (by k_is) rfl rfl rfl); (case q1c5 => decide); (case q1kB => exact locs rfl); (case q1c2 => exact rfl); (case q1c3 => exact rfl); (case q1c4 => exact rfl); k_whole; intro _ _ _ _ _ _ B' _ _; (try dsimp only); (try k_lift B'); (try k_fold)))
  k_with "subscriptTail" => ((k_here; (with_reducible show wpAny _ _ (subscriptTail _ _ (Value.ref _) (Value.str _ _)) _ _ _); k_dflt (refine kda_item (knd := PySem.strKind _ _) (by k_asm) (by k_mem) (by k_asm) (strKind_is _ _ _ _) (by rfl) ?_)))
  k_with "k_all" => (assumption)
  trivial

theorem deck_set {A : Around} {E : Value → Shared → Prop} {s : Shared} {h₀ : Heap} {L dk lf : Addr} {m : Str → Option Value} {news : Led} {g : Obj → Led} {o : Obj} {M M' : Int} {t t' t'' : Tok} {Q : Unit → Shared → Prop}
    (F : Fr h₀ L s.heap m) (N : News h₀ L s.heap news) (U : UpdF dk o news g) (hd : o.IsDictOf (PySem.strKind theProg w) [(Str.ofString "left", .ref lf), (Str.ofString "mixed", .int M t)])
    (h : ∀ h' o' tk', Fr h₀ L h' m → News h₀ L h' (g o') → o'.IsDictOf (PySem.strKind theProg w) [(Str.ofString "left", .ref lf), (Str.ofString "mixed", .int M' t')] → Q () { s with heap := h', toks := tk' }) :
    wpAny (model theProg w) A (setItem (.ref dk) (.str (Str.ofString "mixed") t'') (.int M' t')) Q E s :=
  kda_set (knd := PySem.strKind theProg w) F N U hd (strKind_is _ _ _ _) (by rw [sizeLine_eq]; exact Nat.le_of_ble_eq_true (by with_unfolding_all rfl)) fun h' o' F' N' hd' => h h' o' _ F' N' hd'
theorem rules10_2 : True := by
  k_with "setItem ref str" => ((k_here; k_dflt (refine' deck_set ?q4F ?q4N ?q4U ?q4d ?_; (case q4F => k_asm); (case q4N => k_asm); (case q4U => k_updF); (case q4d => k_asm)); intro _ _ _ _ _ _; kaf_suf; (try k_sweep)))
  trivial
theorem pop0_K {A : Around} {E : Value → Shared → Prop} {s : Shared} {h₀ : Heap} {L D : Addr} {m : Str → Option Value} {news news' : Led} {n : Nat} {u : Tok} {y : Value} {q : List Value} {Q : Value → Shared → Prop}
    (F : Fr h₀ L s.heap m) (N : News h₀ L s.heap news) (U : Upd D (listOf (y :: q).toArray n) (listOf q.toArray (n + 1)) news news') (hz : (y :: q).length ≤ 24)
    (h : ∀ h', Fr h₀ L h' m → News h₀ L h' news' → Q y { s with heap := h' }) : wpAny (model theProg w) A (call (.builtin "list.pop") [.ref D, .int 0 u]) Q E s :=
  kl_popAt (k := 0) (p := []) (q := q) (y := y) F N rfl (by simp [seqIndex?]) rfl U (by show (y :: q).length ≤ sizeLine; rw [sizeLine_eq]; omega) h
theorem rules10_3 : True := by
  k_with "call builtin:list.pop" => ((k_here; k_dflt (refine' pop0_K ?q5F ?q5N ?q5U ?q5z ?_; (case q5F => k_asm); (case q5N => k_asm); (case q5U => k_upd); (case q5z => assumption)); intro _ _ _; (try k_sweep)))
  trivial

theorem draw_spec {dk lf : Addr} {ol od : Obj} {tm : Tok} {many : Int} {rest : Led} (hm : 0 < many) (hm2 : many < 100) (D : Deck w lf ol od)
    (hne : ∀ p ∈ rest, p.1 ≠ dk) (hnl : ∀ p ∈ rest, p.1 ≠ lf) (hlk : @Ne Nat lf dk) :
    Spec w loose mean mg mb 600 600 575 [.ref dk, .int many tm] ((lf, ol) :: (dk, od) :: rest)
      (fun v n' => ∃ ol' od' r tr, Deck w lf ol' od' ∧ v = .int r tr ∧ 0 ≤ r ∧ r < many ∧ n' = (lf, ol') :: (dk, od') :: rest) := by
  obtain ⟨vs, ns, n, M, t, rfl, hI, hlen, hd0, hM, hM2⟩ := D
  intro gd env outer A₀ base h₀ L m s Q E hf hk B F X N T hret
  cases hI with
  | nil =>
    refine wpAny_call ?_
    k_dflt k_enter
    k_steps
    all_goals (
      refine hret _ _ _ _ ⟨_, _, _, _, ⟨[], [], _, _, _, rfl, .nil, by decide, by assumption, ?_, ?_⟩, rfl, ?_, ?_, rfl⟩ (by k_asm) (cb_drop (by k_asm) fun p hp => List.Mem.tail _ hp)
      · exact fmod_lo _ (by decide)
      · exact fmod_hi _ (by decide)
      · exact fmod_lo _ hm
      · exact fmod_hi _ hm)
  | cons k tk hI =>
    refine wpAny_call ?_
    k_dflt k_enter
    k_steps
    all_goals first
      | (exfalso; simp at *; done)
      | (
        refine hret _ _ _ _ ⟨_, _, _, _, ⟨_, _, _, _, _, rfl, hI, by simp at hlen; omega, hd0, hM, hM2⟩, rfl, ?_, ?_, rfl⟩ (by k_asm) (cb_drop (by k_asm) fun p hp => List.Mem.tail _ hp)
        · exact fmod_lo _ hm
        · exact fmod_hi _ hm)
end
section
variable {w : World} {loose : List Str} {mean : ExcName → Option Value} {mg mb : Str → Option Value}
theorem draw_use {dk lf : Addr} {ol od : Obj} {tm : Tok} {many : Int} {news : Led} {g₁ : Obj → Led} {g₂ : Obj → Obj → Led} {A A₀ : Around} {env : Env} {outer : List Env} {base h₀ : Heap} {L : Addr} {m : Str → Option Value} {s : Shared} {Q E : Value → Shared → Prop}
    (D : Deck w lf ol od) (hab : @Ne Nat lf dk) (U₁ : UpdF lf ol news g₁) (U₂ : ∀ o, UpdF dk od (g₁ o) (g₂ o)) (hm : 0 < many) (hm2 : many < 100)
    (hdp : A.depth ≤ 600) (hu : A.units ≤ 600) (hh : A.handled = none) (hA : A.frames = some (env :: outer)) (hf : env.frame = some L) (hk : env.scope.kind = .function)
    (B : Below A₀ base outer h₀) (F : Fr h₀ L s.heap m) (X : (hd.heap_1 w.params).In h₀) (N : News h₀ L s.heap news) (T : Top hd.view_1 loose mean mg mb h₀)
    (ret : ∀ r tr ol' od' h' tk', 0 ≤ r → r < many → Deck w lf ol' od' → Fr h₀ L h' m → News h₀ L h' (g₂ ol' od') → Q (.int r tr) { s with heap := h', toks := tk' }) :
    wpAny (model theProg w) A (call (.ref 575) [.ref dk, .int many tm]) Q E s := by
  obtain ⟨p1, p2, p3, p4⟩ := pick2 hab U₁ U₂
  refine Spec.use (draw_spec (rest := less news [lf, dk]) hm hm2 D p3 p2 hab) hdp hu hh hA hf hk B F X (fun p hp => N p (p1 p hp)) T ?_
  rintro v n' h' tk' ⟨ol', od', r, tr, D', rfl, h0, h1, rfl⟩ F' N'
  exact ret r tr ol' od' h' tk' h0 h1 D' F' fun p hp => N' p (p4 ol' od' p hp)
end

end
end Mine
namespace Mine
section
theorem base12 : True := by
  k_with_none
  k_with "execs cons" => (k_here; (with_reducible refine wpAny_execs_cons ?_); (try dsimp only); k_fold)
  k_with "ne" => (first | with_reducible assumption | with_reducible exact Ne.symm (by with_reducible assumption) | with_reducible exact Nat.ne_of_gt (by with_reducible assumption) | with_reducible exact Nat.ne_of_lt (by with_reducible assumption) | with_reducible exact neu (by with_reducible assumption) | with_reducible exact neu' (by with_reducible assumption) | with_reducible exact neu2 (by with_reducible assumption) | with_reducible exact neu2' (by with_reducible assumption) | with_reducible exact Nat.ne_of_lt sl1 | with_reducible exact Nat.ne_of_lt sl2 | with_reducible exact Nat.ne_of_lt sl3 | with_reducible exact Nat.ne_of_lt sl4 | with_reducible exact Nat.ne_of_lt sl5 | with_reducible exact Nat.ne_of_gt sl1 | with_reducible exact Nat.ne_of_gt sl2 | with_reducible exact Nat.ne_of_gt sl3 | with_reducible exact Nat.ne_of_gt sl4 | with_reducible exact Nat.ne_of_gt sl5 | omega)
  k_with "lt2" => omega
  k_with "lt0" => (first | with_reducible assumption | omega)
  k_with "lt1" => omega
  k_with "om" => (first | with_reducible assumption | with_reducible exact Nat.le_of_ble_eq_true (by decide) | with_reducible exact ci0 | with_reducible exact ci1 | with_reducible exact cz0 (by with_reducible assumption) | with_reducible exact cz1 (by with_reducible assumption) | with_reducible exact cz2 (by with_reducible assumption) | with_reducible exact cz3 (by with_reducible assumption) | with_reducible exact lb1 (by with_reducible assumption) (by decide) | with_reducible exact lb4 (by with_reducible assumption) (by decide) | with_reducible exact lb2 (by with_reducible assumption) (by with_reducible assumption) (by decide) | with_reducible exact lb5 (by with_reducible assumption) (by with_reducible assumption) (by decide) | with_reducible exact ci4 (by with_reducible assumption) (by decide) | with_reducible exact ci5 (by with_reducible assumption) (by decide) | with_reducible exact cz4 (by with_reducible assumption) (by with_reducible assumption) | with_reducible exact cz5 (by with_reducible assumption) (by with_reducible assumption) | with_reducible exact cz6 (by with_reducible assumption) (by with_reducible assumption) (by with_reducible assumption) (by decide) | with_reducible exact lp1 (by with_reducible assumption) (by decide) | with_reducible exact le1 (by with_reducible assumption) | with_reducible exact le2 (by with_reducible assumption) | with_reducible exact Nat.le_succ _ | with_reducible exact leu (by with_reducible assumption) | with_reducible exact leu2 (by with_reducible assumption) | with_reducible exact zb1 (by with_reducible assumption) (by decide) | with_reducible exact zb2 (by with_reducible assumption) | with_reducible exact zb3 (by with_reducible assumption) (by decide) | with_reducible exact un1 (by with_reducible assumption) | with_reducible exact sl1 | with_reducible exact sl2 | with_reducible exact sl3 | with_reducible exact sl4 | with_reducible exact sl5 | omega)
  k_with "lt" => (first | with_reducible assumption | omega)
  trivial
section
variable {w : World} {A : Around} {E : Value → Shared → Prop} {s : Shared} {h₀ : Heap} {L l : Addr} {m : Str → Option Value} {news news' : Led} {vs : List Value} {n : Nat}
theorem len_listK {Q : Value → Shared → Prop} (N : News h₀ L s.heap news) (hm : (l, listOf vs.toArray n) ∈ news)
    (hz : vs.length ≤ 100) (h : ∀ t tk', Q (.int vs.length t) { s with toks := tk' }) : wpAny (model theProg w) A (call (.builtin "len") [.ref l]) Q E s := by
  refine len_list (N.isList hm) (by show ((vs.toArray.size : Nat) : Int) < 2 ^ 63; simp; omega) ?_
  have e : vs.toArray.size = vs.length := by simp
  rw [e]
  exact h _ _
theorem list_at {value slice : PySem.Expr} {k : Int} {u : Tok} {v : Value} {Q : Value → Shared → Prop} (N : News h₀ L s.heap news) (hm : (l, listOf vs.toArray n) ∈ news) (h0 : 0 ≤ k) (h1 : k < 1000) (hx : vs[k.toNat]? = some v) (h : Q v s)
    (hs : subscripted slice false (.ref l) (.int k u) = operate [.ref l, .int k u] (getItem (.ref l) (.int k u)) := by with_unfolding_all rfl) :
    wpAny (model theProg w) A (subscriptTail value slice (.ref l) (.int k u)) Q E s := item_litK (N.isList hm) h0 (by omega) hx h hs
theorem list_put {k : Int} {t : Tok} {v : Value} {Q : Unit → Shared → Prop} (F : Fr h₀ L s.heap m) (N : News h₀ L s.heap news) (U : Upd l (listOf vs.toArray n) (listOf (vs.set k.toNat v).toArray n) news news') (h0 : 0 ≤ k) (h1 : k < vs.length) (hfit : k < 1000)
    (h : ∀ h', Fr h₀ L h' m → News h₀ L h' news' → Q () { s with heap := h' }) :
    wpAny (model theProg w) A (setItem (.ref l) (.int k t) v) Q E s := by
  obtain ⟨pre, post, rfl, rfl, a, b⟩ := U.split
  have z := N (l, listOf vs.toArray n) (List.mem_append.mpr (.inr (.head _)))
  have hs : vs.toArray.size = vs.length := List.size_toArray ..
  refine ki_setAt z.1 h0 (by omega) (by omega) (h _ (F.change (Heap.SameBut.update ..) z.2.1 z.2.2) (ki_turn _ N a b ?_ ?_))
  · show vs.toArray.setIfInBounds k.toNat v = (vs.set k.toNat v).toArray
    apply Array.toList_inj.mp
    simp
  · simp
end
section
variable {w : World} {A : Around} {E : Value → Shared → Prop} {s : Shared} {h₀ : Heap} {L a : Addr} {m : Str → Option Value} {news news' : Led} {vs : List Value}
theorem tup_at {value slice : PySem.Expr} {k : Int} {u : Tok} {v : Value} {Q : Value → Shared → Prop} (N : News h₀ L s.heap news) (hm : (a, tupOf vs) ∈ news) (h0 : 0 ≤ k) (h1 : k < 1000) (hx : vs[k.toNat]? = some v) (h : Q v s)
    (hs : subscripted slice false (.ref a) (.int k u) = operate [.ref a, .int k u] (getItem (.ref a) (.int k u)) := by with_unfolding_all rfl) :
    wpAny (model theProg w) A (subscriptTail value slice (.ref a) (.int k u)) Q E s := by
  have hl : k.toNat < vs.length := by
    rcases Nat.lt_or_ge k.toNat vs.length with q | q
    · exact q
    · rw [List.getElem?_eq_none q] at hx; cases hx
  refine item_tupleT (j := k.toNat) (News.isTup N hm) (by omega) (by omega) ?_ hx h hs
  unfold seqIndex?
  have e1 : ¬ k < 0 := by omega
  simp only [if_neg e1]
  have e2 : k < vs.length := by omega
  simp [h0, e2]
end
theorem ints5 {a b c d e : Int} {t1 t2 t3 t4 t5 : Tok} : IntsAre [.int a t1, .int b t2, .int c t3, .int d t4, .int e t5] [a, b, c, d, e] := .cons _ _ (.cons _ _ (.cons _ _ (.cons _ _ (.cons _ _ .nil))))
theorem ints6 {a b c d e f : Int} {t1 t2 t3 t4 t5 t6 : Tok} : IntsAre [.int a t1, .int b t2, .int c t3, .int d t4, .int e t5, .int f t6] [a, b, c, d, e, f] := .cons _ _ ints5
theorem ints7 {a b c d e f g : Int} {t1 t2 t3 t4 t5 t6 t7 : Tok} : IntsAre [.int a t1, .int b t2, .int c t3, .int d t4, .int e t5, .int f t6, .int g t7] [a, b, c, d, e, f, g] := .cons _ _ ints6
theorem len4K {w : World} {A : Around} {E : Value → Shared → Prop} {s : Shared} {h₀ : Heap} {L l : Addr} {news : Led} {n : Nat} {a b c d : Value} {Q : Value → Shared → Prop} (N : News h₀ L s.heap news) (hm : (l, listOf [a, b, c, d].toArray n) ∈ news)
    (h : ∀ t tk', Q (.int 4 t) { s with toks := tk' }) : wpAny (model theProg w) A (call (.builtin "len") [.ref l]) Q E s := len_listK N hm (Nat.le_of_ble_eq_true rfl) h
theorem list_cat {w : World} {A : Around} {E : Value → Shared → Prop} {s : Shared} {h₀ : Heap} {L a b : Addr} {m : Str → Option Value} {news : Led} {xs ys : List Value} {na nb : Nat} {Q : Value → Shared → Prop}
    (F : Fr h₀ L s.heap m) (N : News h₀ L s.heap news) (ha : (a, listOf xs.toArray na) ∈ news) (hb : (b, listOf ys.toArray nb) ∈ news) (hz : xs.length + ys.length ≤ 100)
    (h : ∀ l h', Fr h₀ L h' m → News h₀ L h' ((l, listOf (xs ++ ys).toArray 0) :: news) → (∀ p ∈ news, p.1 < l) → Q (.ref l) { s with heap := h' }) : wpAny (model theProg w) A (binaryOp .Add (.ref a) (.ref b)) Q E s := by
  refine add_arrays (hsz := ?_) F N (N.isList ha) (N.isList hb) fun h' F' N' => h _ h' F' ?_ fun p hp => Heap.lt_size (N p hp).1
  · simpa using N'
  · rw [sizeLine_eq]; simp; omega
theorem list_push {w : World} {A : Around} {E : Value → Shared → Prop} {s : Shared} {h₀ : Heap} {L l : Addr} {m : Str → Option Value} {news news' : Led} {vs : List Value} {n : Nat} {x : Value} {Q : Value → Shared → Prop}
    (F : Fr h₀ L s.heap m) (N : News h₀ L s.heap news) (U : Upd l (listOf vs.toArray n) (listOf (vs ++ [x]).toArray (n + 1)) news news') (hz : vs.length ≤ 100)
    (h : ∀ h', Fr h₀ L h' m → News h₀ L h' news' → Q .none { s with heap := h' }) : wpAny (model theProg w) A (call (.builtin "list.append") [.ref l, x]) Q E s := by
  have e : (vs ++ [x]).toArray = vs.toArray.push x := by simp
  rw [e] at U
  exact append_K (hsz := by rw [sizeLine_eq]; simp; omega) F N U h

end
end Mine
namespace Mine
section
theorem base13 : True := by
  k_with_none
  k_with "execs cons" => (k_here; (with_reducible refine wpAny_execs_cons ?_); (try dsimp only); k_fold)
  k_with "ne" => (first | with_reducible assumption | with_reducible exact Ne.symm (by with_reducible assumption) | with_reducible exact Nat.ne_of_gt (by with_reducible assumption) | with_reducible exact Nat.ne_of_lt (by with_reducible assumption) | with_reducible exact neu (by with_reducible assumption) | with_reducible exact neu' (by with_reducible assumption) | with_reducible exact neu2 (by with_reducible assumption) | with_reducible exact neu2' (by with_reducible assumption) | with_reducible exact Nat.ne_of_lt sl1 | with_reducible exact Nat.ne_of_lt sl2 | with_reducible exact Nat.ne_of_lt sl3 | with_reducible exact Nat.ne_of_lt sl4 | with_reducible exact Nat.ne_of_lt sl5 | with_reducible exact Nat.ne_of_gt sl1 | with_reducible exact Nat.ne_of_gt sl2 | with_reducible exact Nat.ne_of_gt sl3 | with_reducible exact Nat.ne_of_gt sl4 | with_reducible exact Nat.ne_of_gt sl5 | omega)
  k_with "lt2" => omega
  k_with "lt0" => (first | with_reducible assumption | omega)
  k_with "lt1" => omega
  k_with "om" => (first | with_reducible assumption | with_reducible exact Nat.le_of_ble_eq_true (by decide) | with_reducible exact ci0 | with_reducible exact ci1 | with_reducible exact cz0 (by with_reducible assumption) | with_reducible exact cz1 (by with_reducible assumption) | with_reducible exact cz2 (by with_reducible assumption) | with_reducible exact cz3 (by with_reducible assumption) | with_reducible exact lb1 (by with_reducible assumption) (by decide) | with_reducible exact lb4 (by with_reducible assumption) (by decide) | with_reducible exact lb2 (by with_reducible assumption) (by with_reducible assumption) (by decide) | with_reducible exact lb5 (by with_reducible assumption) (by with_reducible assumption) (by decide) | with_reducible exact ci4 (by with_reducible assumption) (by decide) | with_reducible exact ci5 (by with_reducible assumption) (by decide) | with_reducible exact cz4 (by with_reducible assumption) (by with_reducible assumption) | with_reducible exact cz5 (by with_reducible assumption) (by with_reducible assumption) | with_reducible exact cz6 (by with_reducible assumption) (by with_reducible assumption) (by with_reducible assumption) (by decide) | with_reducible exact lp1 (by with_reducible assumption) (by decide) | with_reducible exact le1 (by with_reducible assumption) | with_reducible exact le2 (by with_reducible assumption) | with_reducible exact Nat.le_succ _ | with_reducible exact leu (by with_reducible assumption) | with_reducible exact leu2 (by with_reducible assumption) | with_reducible exact zb1 (by with_reducible assumption) (by decide) | with_reducible exact zb2 (by with_reducible assumption) | with_reducible exact zb3 (by with_reducible assumption) (by decide) | with_reducible exact un1 (by with_reducible assumption) | with_reducible exact sl1 | with_reducible exact sl2 | with_reducible exact sl3 | with_reducible exact sl4 | with_reducible exact sl5 | omega)
  k_with "lt" => (first | with_reducible assumption | omega)
  trivial
section
variable {w : World} {A : Around} {E : Value → Shared → Prop} {s : Shared} {h₀ : Heap} {L l b : Addr} {m : Str → Option Value} {news : Led} {vs ys : List Value} {n k : Nat}
theorem list_neg {value slice : PySem.Expr} {u : Tok} {v : Value} {i : Int} {Q : Value → Shared → Prop} (N : News h₀ L s.heap news) (hm : (l, listOf vs.toArray n) ∈ news) (hi : i = -1) (hx : vs.getLast? = some v) (h : Q v s)
    (hs : subscripted slice false (.ref l) (.int i u) = operate [.ref l, .int i u] (getItem (.ref l) (.int i u)) := by with_unfolding_all rfl) :
    wpAny (model theProg w) A (subscriptTail value slice (.ref l) (.int i u)) Q E s := by
  subst hi
  have hne : vs ≠ [] := by rintro rfl; simp at hx
  have hl : 0 < vs.length := List.length_pos_iff.mpr hne
  refine tail_any (N.isList hm).typeIs slot_list_getitem.lookup (wpAny_getItem_list_neg (N.isList hm) (by decide) (by simp; k_extra "om") (by decide) ?_ h) hs
  rw [List.getLast?_eq_getElem?] at hx
  simp only [List.size_toArray, List.getElem?_toArray]
  rw [← hx]
  congr 1
  k_extra "om"
theorem ne_nil {Q : Value → Shared → Prop} (N : News h₀ L s.heap news) (hm : (l, listOf vs.toArray n) ∈ news) (hb : (b, listOf ([] : List Value).toArray k) ∈ news) (hu : A.units + 64 < cLine) (h : Q (.bool (decide (vs ≠ []))) s) :
    wpAny (model theProg w) A (compareOp .NotEq (.ref l) (.ref b)) Q E s := by
  by_cases hv : vs = []
  · subst hv
    rw [decide_eq_false (by simp)] at h
    exact ne_dataH (reads_list_at (N.get hm) rfl rfl (by simpa [W.listOf] using ReadsAll.nil)) (reads_list_at (N.get hb) rfl rfl (by simpa [W.listOf] using ReadsAll.nil)) rfl rfl hu (by simpa [PyData.eqv, PyData.eqvAll] using h)
  · rw [decide_eq_true hv] at h
    refine cmp_ofNotEq (SeqAt.RcNeAt.lists_lengths (N.isList hm) (N.isList hb) ?_ (by k_extra "om") _ _ _ _ h)
    simpa using hv
theorem eq_nil {Q : Value → Shared → Prop} (N : News h₀ L s.heap news) (hm : (l, listOf vs.toArray n) ∈ news) (hb : (b, listOf ([] : List Value).toArray k) ∈ news) (hu : A.units + 64 < cLine) (h : Q (.bool (decide (vs = []))) s) :
    wpAny (model theProg w) A (compareOp .Eq (.ref l) (.ref b)) Q E s := by
  by_cases hv : vs = []
  · subst hv
    rw [decide_eq_true rfl] at h
    exact eq_dataH (reads_list_at (N.get hm) rfl rfl (by simpa [W.listOf] using ReadsAll.nil)) (reads_list_at (N.get hb) rfl rfl (by simpa [W.listOf] using ReadsAll.nil)) rfl rfl hu (by simpa [PyData.eqv, PyData.eqvAll] using h)
  · rw [decide_eq_false hv] at h
    refine cmp_ofEq (SeqAt.RcAt.lists_lengths (N.isList hm) (N.isList hb) ?_ (by k_extra "om") _ _ _ _ h)
    simpa using hv
theorem ext_list {g : Obj → Led} {Q : Value → Shared → Prop} (F : Fr h₀ L s.heap m) (N : News h₀ L s.heap news) (hb : (b, listOf ys.toArray k) ∈ news) (U : UpdF l (listOf vs.toArray n) news g) (hz : vs.length + ys.length ≤ 200)
    (h : ∀ h' n', Fr h₀ L h' m → News h₀ L h' (g (listOf (vs ++ ys).toArray n')) → Q .none { s with heap := h' }) : wpAny (model theProg w) A (call (.builtin "list.extend") [.ref l, .ref b]) Q E s := by
  obtain ⟨pre, post, rfl, hg, a, c⟩ := U.split
  have z := N (l, listOf vs.toArray n) (List.mem_append.mpr (.inr (.head _)))
  have e1 : (vs ++ ys).toArray = vs.toArray ++ ys.toArray := by simp
  have sz : sizeLine = 16777216 := sizeLine_eq
  have hd : ¬(!vs.toArray.isEmpty && Builtin.List.listTooLong (vs.toArray.size + ys.toArray.size)) = true := by
    simp [Builtin.List.listTooLong]; intro _; k_extra "om"
  by_cases hy : ys = []
  · subst hy
    refine call_meets PySem.F.slot_list_extend ⟨_, z.1, rfl⟩ PySem.F.entry_list_extend (PySem.F.args_list_extend_2 _ _) (PySem.AutoSeq1.list_extend_list_list_0 l _ n b _ k hd (by simp; k_extra "om")) ⟨z.1, (N _ hb).1, h _ n (F.change (Heap.SameBut.update ..) z.2.1 z.2.2) ?_⟩
    rw [hg]
    exact kl_turn0 (fun x => x ++ #[]) N a c (by simp) (by simp)
  · refine call_meets PySem.F.slot_list_extend ⟨_, z.1, rfl⟩ PySem.F.entry_list_extend (PySem.F.args_list_extend_2 _ _) (PySem.AutoSeq1.list_extend_list_list_0 l _ n b _ k hd (by simp; k_extra "om")) ⟨z.1, (N _ hb).1, h _ (n + 1) (F.change (Heap.SameBut.update ..) z.2.1 z.2.2) ?_⟩
    rw [hg, e1]
    refine kl_turn _ N a c rfl ?_
    simpa using hy
theorem cut_list {value slice : PySem.Expr} {vl vu : Value} {lo hi : Option Int} {Q : Value → Shared → Prop} (F : Fr h₀ L s.heap m) (N : News h₀ L s.heap news) (hm : (l, listOf vs.toArray n) ∈ news) (pl : IsPart vl lo) (pu : IsPart vu hi)
    (h : ∀ D h', Fr h₀ L h' m → News h₀ L h' ((D, listOf (kms_pick vs lo hi).toArray 0) :: news) → (∀ p ∈ news, p.1 < D) → Q (.ref D) { s with heap := h' })
    (hs : subscripted slice false (.ref l) (.ref s.heap.objs.size) = operate [.ref s.heap.objs.size, .ref l] (getItem (.ref l) (.ref s.heap.objs.size))) (ht : ∀ r, letTemporaryGo value (.ref l) r = pure ()) (hz : vs.length ≤ 200) :
    wpAny (model theProg w) A (subscriptTail value slice (.ref l) (.ref s.heap.objs.size)) Q E { s with heap := s.heap.push { cls := .type "slice", data := .fields #[vl, vu, .none] } } := by
  have sz : sizeLine = 16777216 := sizeLine_eq
  refine kms_slice_lit F N (N.isList hm) pl pu ?_ h hs ht (by simp; k_extra "om")
  rfl
end

end
end Mine
namespace Mine
section
theorem base14 : True := by
  k_with_none
  k_with "execs cons" => (k_here; (with_reducible refine wpAny_execs_cons ?_); (try dsimp only); k_fold)
  k_with "ne" => (first | with_reducible assumption | with_reducible exact Ne.symm (by with_reducible assumption) | with_reducible exact Nat.ne_of_gt (by with_reducible assumption) | with_reducible exact Nat.ne_of_lt (by with_reducible assumption) | with_reducible exact neu (by with_reducible assumption) | with_reducible exact neu' (by with_reducible assumption) | with_reducible exact neu2 (by with_reducible assumption) | with_reducible exact neu2' (by with_reducible assumption) | with_reducible exact Nat.ne_of_lt sl1 | with_reducible exact Nat.ne_of_lt sl2 | with_reducible exact Nat.ne_of_lt sl3 | with_reducible exact Nat.ne_of_lt sl4 | with_reducible exact Nat.ne_of_lt sl5 | with_reducible exact Nat.ne_of_gt sl1 | with_reducible exact Nat.ne_of_gt sl2 | with_reducible exact Nat.ne_of_gt sl3 | with_reducible exact Nat.ne_of_gt sl4 | with_reducible exact Nat.ne_of_gt sl5 | omega)
  k_with "lt2" => omega
  k_with "lt0" => (first | with_reducible assumption | omega)
  k_with "lt1" => omega
  k_with "om" => (first | with_reducible assumption | with_reducible exact Nat.le_of_ble_eq_true (by decide) | with_reducible exact ci0 | with_reducible exact ci1 | with_reducible exact cz0 (by with_reducible assumption) | with_reducible exact cz1 (by with_reducible assumption) | with_reducible exact cz2 (by with_reducible assumption) | with_reducible exact cz3 (by with_reducible assumption) | with_reducible exact lb1 (by with_reducible assumption) (by decide) | with_reducible exact lb4 (by with_reducible assumption) (by decide) | with_reducible exact lb2 (by with_reducible assumption) (by with_reducible assumption) (by decide) | with_reducible exact lb5 (by with_reducible assumption) (by with_reducible assumption) (by decide) | with_reducible exact ci4 (by with_reducible assumption) (by decide) | with_reducible exact ci5 (by with_reducible assumption) (by decide) | with_reducible exact cz4 (by with_reducible assumption) (by with_reducible assumption) | with_reducible exact cz5 (by with_reducible assumption) (by with_reducible assumption) | with_reducible exact cz6 (by with_reducible assumption) (by with_reducible assumption) (by with_reducible assumption) (by decide) | with_reducible exact lp1 (by with_reducible assumption) (by decide) | with_reducible exact le1 (by with_reducible assumption) | with_reducible exact le2 (by with_reducible assumption) | with_reducible exact Nat.le_succ _ | with_reducible exact leu (by with_reducible assumption) | with_reducible exact leu2 (by with_reducible assumption) | with_reducible exact zb1 (by with_reducible assumption) (by decide) | with_reducible exact zb2 (by with_reducible assumption) | with_reducible exact zb3 (by with_reducible assumption) (by decide) | with_reducible exact un1 (by with_reducible assumption) | with_reducible exact sl1 | with_reducible exact sl2 | with_reducible exact sl3 | with_reducible exact sl4 | with_reducible exact sl5 | omega)
  k_with "lt" => (first | with_reducible assumption | omega)
  trivial
section
variable {prog : Program} {w : World} {A : Around} {E : Value → Shared → Prop} {s : Shared} {env : Env} {h₀ : Heap} {body : List Stmt} {Q : Flow → Shared → Prop}
def rangeItems (a : Int) : Nat → Nat → List Itm
  | _, 0 => []
  | i, k + 1 => .tok (fun t => .int (a + (i : Int)) t) :: rangeItems a (i + 1) k
theorem rangeItems_length (a : Int) : ∀ k i, (rangeItems a i k).length = k
  | 0, _ => rfl
  | k + 1, i => congrArg (· + 1) (rangeItems_length a k (i + 1))
theorem rangeItems_get (a : Int) : ∀ k i j, j < k → (rangeItems a i k)[j]? = some (.tok fun t => .int (a + ((i + j : Nat) : Int)) t)
  | 0, _, _, h => absurd h (Nat.not_lt_zero _)
  | k + 1, i, 0, _ => rfl
  | k + 1, i, j + 1, h => by
    have q := rangeItems_get a k (i + 1) j (by k_extra "om")
    have e : i + 1 + j = i + (j + 1) := by k_extra "om"
    rw [e] at q
    simpa [rangeItems] using q
/-- a for over a range by ones, its name of any kind -/
theorem iter_rangeTurns {x : Str} {px : Pos} {r : Addr} {a₀ b₀ : Int} {t₀ u₀ v₀ : Tok} {n : Nat} {m₀ : Str → Option Value} {news : Led}
    (hh : A.handled = none) (hr : IsRange s.heap r a₀ b₀ 1 t₀ u₀ v₀) (hsmall : Builtin.Range.small a₀ b₀ 1 = true) (hn : Builtin.Range.rangeSize a₀ b₀ 1 = (n : Int)) (F : Fr h₀ env.locals s.heap m₀) (N : News h₀ env.locals s.heap news)
    (rest₀ : ∀ I : Addr, (∀ p ∈ news, p.1 < I) → ItemsRest prog w A E h₀ env (.Name x px) body Q s [(I, "range_iterator")] [] (rangeItems a₀ 0 n) m₀ news) :
    wpAny (model prog w) A (pyIter (.ref r)) (fun it s₂ => TurnsAt prog w A h₀ env (.Name x px) body Q E it s₂) E s := by
  refine wpAny_pyIter_range hr hsmall ?_
  refine ktu_core (tk0 := s.toks) (keep := []) (KTurns.ofWalks (Walks.range hh _ a₀ 1 n).bound fun i v s Q E st q => wpAny_pure q) (by rw [rangeItems_length]) (fun i v h hp => ?_) (fun i h st => ?_) (fun b hb => ?_) (fun b hb => by simpa using hb) (fun b hb => ?_) ?_ (fun p hp hI => ?_) ?_ (F.push _) (fun p hp => ⟨Heap.get?_push_of_some _ (N p hp).1, (N p hp).2⟩) trivial (rest₀ _ fun p hp => Heap.lt_size (N p hp).1)
  · obtain ⟨hi, t, rfl⟩ := hp
    refine ⟨_, rangeItems_get a₀ n 0 i hi, t, ?_⟩
    rw [Nat.zero_add, Int.mul_one]
  · exact ⟨[(s.heap.objs.size, _)], ⟨⟨rfl, rfl⟩, trivial⟩, fun p hp => by rw [List.mem_singleton.mp hp]; exact st⟩
  · have hb' : b = s.heap.objs.size := by simpa using hb
    rw [hb']
    exact ⟨List.mem_singleton.mpr rfl, next_is_new F⟩
  · exact .inl (by simpa using hb)
  · intro hI
    exact absurd F.ns.lt ((List.mem_singleton.mp hI) ▸ Nat.lt_irrefl _)
  · exact absurd (Heap.lt_size (N p hp).1) ((List.mem_singleton.mp hI) ▸ Nat.lt_irrefl _)
  · show IsRangeIter _ _ _ _ _
    rw [hn]; simpa using Heap.get?_push_size _ rfl
end
theorem rng_small {n : Nat} (h : n ≤ 1000) : Builtin.Range.small 0 (n : Int) 1 = true := small_one (by decide) (by decide) (by k_extra "om") (by k_extra "om")
theorem rng_size (n : Nat) : Builtin.Range.rangeSize 0 (n : Int) 1 = (n : Int) := by rw [rangeSize_nat]; k_extra "om"

end
end Mine
namespace Mine
section
theorem base15 : True := by
  k_with_none
  k_with "execs cons" => (k_here; (with_reducible refine wpAny_execs_cons ?_); (try dsimp only); k_fold)
  k_with "ne" => (first | with_reducible assumption | with_reducible exact Ne.symm (by with_reducible assumption) | with_reducible exact Nat.ne_of_gt (by with_reducible assumption) | with_reducible exact Nat.ne_of_lt (by with_reducible assumption) | with_reducible exact neu (by with_reducible assumption) | with_reducible exact neu' (by with_reducible assumption) | with_reducible exact neu2 (by with_reducible assumption) | with_reducible exact neu2' (by with_reducible assumption) | with_reducible exact Nat.ne_of_lt sl1 | with_reducible exact Nat.ne_of_lt sl2 | with_reducible exact Nat.ne_of_lt sl3 | with_reducible exact Nat.ne_of_lt sl4 | with_reducible exact Nat.ne_of_lt sl5 | with_reducible exact Nat.ne_of_gt sl1 | with_reducible exact Nat.ne_of_gt sl2 | with_reducible exact Nat.ne_of_gt sl3 | with_reducible exact Nat.ne_of_gt sl4 | with_reducible exact Nat.ne_of_gt sl5 | omega)
  k_with "lt2" => omega
  k_with "lt0" => (first | with_reducible assumption | omega)
  k_with "lt1" => omega
  k_with "om" => (first | with_reducible assumption | with_reducible exact Nat.le_of_ble_eq_true (by decide) | with_reducible exact ci0 | with_reducible exact ci1 | with_reducible exact cz0 (by with_reducible assumption) | with_reducible exact cz1 (by with_reducible assumption) | with_reducible exact cz2 (by with_reducible assumption) | with_reducible exact cz3 (by with_reducible assumption) | with_reducible exact lb1 (by with_reducible assumption) (by decide) | with_reducible exact lb4 (by with_reducible assumption) (by decide) | with_reducible exact lb2 (by with_reducible assumption) (by with_reducible assumption) (by decide) | with_reducible exact lb5 (by with_reducible assumption) (by with_reducible assumption) (by decide) | with_reducible exact ci4 (by with_reducible assumption) (by decide) | with_reducible exact ci5 (by with_reducible assumption) (by decide) | with_reducible exact cz4 (by with_reducible assumption) (by with_reducible assumption) | with_reducible exact cz5 (by with_reducible assumption) (by with_reducible assumption) | with_reducible exact cz6 (by with_reducible assumption) (by with_reducible assumption) (by with_reducible assumption) (by decide) | with_reducible exact lp1 (by with_reducible assumption) (by decide) | with_reducible exact le1 (by with_reducible assumption) | with_reducible exact le2 (by with_reducible assumption) | with_reducible exact Nat.le_succ _ | with_reducible exact leu (by with_reducible assumption) | with_reducible exact leu2 (by with_reducible assumption) | with_reducible exact zb1 (by with_reducible assumption) (by decide) | with_reducible exact zb2 (by with_reducible assumption) | with_reducible exact zb3 (by with_reducible assumption) (by decide) | with_reducible exact un1 (by with_reducible assumption) | with_reducible exact sl1 | with_reducible exact sl2 | with_reducible exact sl3 | with_reducible exact sl4 | with_reducible exact sl5 | omega)
  k_with "lt" => (first | with_reducible assumption | omega)
  trivial
section
variable {w : World} {loose : List Str} {mean : ExcName → Option Value} {mg mb : Str → Option Value}
theorem rules15_1 : True := by
  k_with "k_enter" => ((refine' code_def ?q6k1 ?q6k2 ?q6k3 ?q6k4 ?q6k5 ?q6kA ?q6kF ?q6kK ?q6k6 ?q6k7 ?q6k8 ?q6k9 ?q6kB ?_ ?q6c2 ?q6c3 ?q6c4 ?q6c5; (case q6kA => exact rfl); (case q6kF => assumption); (case q6kK => assumption); (case q6k1 => k_asm); (case q6k2 => k_asm); (case q6k3 => k_asm); (case q6k4 => k_asm); (case q6k5 => k_asm); (case q6k6 => k_is); (case q6k7 => k_is); (case q6k8 => k_room); (case q6k9 => first | exact BindsTo.of_eq rfl | exact binds_K (by k_in) rfl (by k_is) rfl rfl rfl); (case q6c5 => decide); (case q6kB => exact locs rfl); (case q6c2 => exact rfl); (case q6c3 => exact rfl); (case q6c4 => exact rfl); k_whole; intro _ _ _ _ _ _ B' _ _; (try dsimp only); (try k_lift B'); (try k_fold)))
  k_with "call builtin:len" => ((k_here; (with_reducible show wpAny _ _ (call (Value.builtin "len") [Value.ref _]) _ _ _); k_dflt (refine len_listK (by k_asm) (by k_mem) (by assumption) ?_); intro _ _))
  k_with "subscriptTail" => ((k_here; (with_reducible show wpAny _ _ (subscriptTail _ _ (Value.ref _) (Value.int _ _)) _ _ _); k_dflt (refine list_at (by k_asm) (by k_mem) (by assumption) (by assumption) (by assumption) ?_)))
  trivial
theorem line_part_spec {cl : Addr} {vs : List Value} {n : Nat} {at_ : Int} {t : Tok} {news : Led} (hz : vs.length ≤ 100) (hcl : (cl, listOf vs.toArray n) ∈ news)
    (hc : 0 < at_ → at_ < vs.length → ∃ v x, vs[at_.toNat]? = some v ∧ CellIn news v (some x)) : Spec w loose mean mg mb 590 590 199 [.ref cl, .int at_ t] news (fun v n' => v = .none ∧ n' = news) := by
  intro gd env outer A₀ base h₀ L m s Q E hf hk B F X N T hret
  by_cases ho : 0 < at_ ∧ at_ < vs.length
  · obtain ⟨v, x, hv, c, e, vp, vq, tw, es, rfl, hm, -, -⟩ := hc ho.1 ho.2
    have hw : wdOf (some x) ≠ 0 := by unfold wdOf; dsimp only; split <;> decide
    obtain ⟨ho1, ho2⟩ := ho
    have ho3 : 0 ≤ at_ := by k_extra "om"
    have ho4 : at_ < 1000 := by k_extra "om"
    generalize wdOf (some x) = wd at hm hw
    refine wpAny_call ?_
    k_dflt k_enter
    k_steps
    all_goals first | exact absurd (by assumption) hw | exact hret _ _ _ _ ⟨rfl, rfl⟩ (by k_asm) (by k_asm)
  · clear hc
    refine wpAny_call ?_
    k_dflt k_enter
    k_steps
    all_goals exact hret _ _ _ _ ⟨rfl, rfl⟩ (by k_asm) (by k_asm)
end
section
variable {w : World} {loose : List Str} {mean : ExcName → Option Value} {mg mb : Str → Option Value}
theorem line_part_use {cl : Addr} {vs : List Value} {n : Nat} {at_ : Int} {t : Tok} {news : Led} {A A₀ : Around} {env : Env} {outer : List Env} {base h₀ : Heap} {L : Addr} {m : Str → Option Value} {s : Shared} {Q E : Value → Shared → Prop}
    (hcl : (cl, listOf vs.toArray n) ∈ news) (hz : vs.length ≤ 100) (hc : 0 < at_ → at_ < vs.length → ∃ v x, vs[at_.toNat]? = some v ∧ CellIn news v (some x))
    (hdp : A.depth ≤ 590) (hu : A.units ≤ 590) (hh : A.handled = none) (hA : A.frames = some (env :: outer)) (hf : env.frame = some L) (hk : env.scope.kind = .function)
    (B : Below A₀ base outer h₀) (F : Fr h₀ L s.heap m) (X : (hd.heap_1 w.params).In h₀) (N : News h₀ L s.heap news) (T : Top hd.view_1 loose mean mg mb h₀)
    (ret : ∀ h' tk', Fr h₀ L h' m → News h₀ L h' news → Q .none { s with heap := h', toks := tk' }) :
    wpAny (model theProg w) A (call (.ref 199) [.ref cl, .int at_ t]) Q E s :=
  Spec.use (line_part_spec hz hcl hc) hdp hu hh hA hf hk B F X N T (by rintro v n' h' tk' ⟨rfl, rfl⟩ F' N'; exact ret h' tk' F' N')
end

end
end Mine
namespace Mine
section
theorem base17 : True := by
  k_with_none
  k_with "execs cons" => (k_here; (with_reducible refine wpAny_execs_cons ?_); (try dsimp only); k_fold)
  k_with "ne" => (first | with_reducible assumption | with_reducible exact Ne.symm (by with_reducible assumption) | with_reducible exact Nat.ne_of_gt (by with_reducible assumption) | with_reducible exact Nat.ne_of_lt (by with_reducible assumption) | with_reducible exact neu (by with_reducible assumption) | with_reducible exact neu' (by with_reducible assumption) | with_reducible exact neu2 (by with_reducible assumption) | with_reducible exact neu2' (by with_reducible assumption) | with_reducible exact Nat.ne_of_lt sl1 | with_reducible exact Nat.ne_of_lt sl2 | with_reducible exact Nat.ne_of_lt sl3 | with_reducible exact Nat.ne_of_lt sl4 | with_reducible exact Nat.ne_of_lt sl5 | with_reducible exact Nat.ne_of_gt sl1 | with_reducible exact Nat.ne_of_gt sl2 | with_reducible exact Nat.ne_of_gt sl3 | with_reducible exact Nat.ne_of_gt sl4 | with_reducible exact Nat.ne_of_gt sl5 | omega)
  k_with "lt2" => omega
  k_with "lt0" => (first | with_reducible assumption | omega)
  k_with "lt1" => omega
  k_with "om" => (first | with_reducible assumption | with_reducible exact Nat.le_of_ble_eq_true (by decide) | with_reducible exact ci0 | with_reducible exact ci1 | with_reducible exact cz0 (by with_reducible assumption) | with_reducible exact cz1 (by with_reducible assumption) | with_reducible exact cz2 (by with_reducible assumption) | with_reducible exact cz3 (by with_reducible assumption) | with_reducible exact lb1 (by with_reducible assumption) (by decide) | with_reducible exact lb4 (by with_reducible assumption) (by decide) | with_reducible exact lb2 (by with_reducible assumption) (by with_reducible assumption) (by decide) | with_reducible exact lb5 (by with_reducible assumption) (by with_reducible assumption) (by decide) | with_reducible exact ci4 (by with_reducible assumption) (by decide) | with_reducible exact ci5 (by with_reducible assumption) (by decide) | with_reducible exact cz4 (by with_reducible assumption) (by with_reducible assumption) | with_reducible exact cz5 (by with_reducible assumption) (by with_reducible assumption) | with_reducible exact cz6 (by with_reducible assumption) (by with_reducible assumption) (by with_reducible assumption) (by decide) | with_reducible exact lp1 (by with_reducible assumption) (by decide) | with_reducible exact le1 (by with_reducible assumption) | with_reducible exact le2 (by with_reducible assumption) | with_reducible exact Nat.le_succ _ | with_reducible exact leu (by with_reducible assumption) | with_reducible exact leu2 (by with_reducible assumption) | with_reducible exact zb1 (by with_reducible assumption) (by decide) | with_reducible exact zb2 (by with_reducible assumption) | with_reducible exact zb3 (by with_reducible assumption) (by decide) | with_reducible exact un1 (by with_reducible assumption) | with_reducible exact sl1 | with_reducible exact sl2 | with_reducible exact sl3 | with_reducible exact sl4 | with_reducible exact sl5 | omega)
  k_with "lt" => (first | with_reducible assumption | omega)
  trivial
section
variable {w : World} {loose : List Str} {mean : ExcName → Option Value} {mg mb : Str → Option Value}
theorem rules17_1 : True := by
  k_with "k_enter" => ((refine' code_def ?q9k1 ?q9k2 ?q9k3 ?q9k4 ?q9k5 ?q9kA ?q9kF ?q9kK ?q9k6 ?q9k7 ?q9k8 ?q9k9 ?q9kB ?_ ?q9c2 ?q9c3 ?q9c4 ?q9c5; (case q9kA => exact rfl); (case q9kF => assumption); (case q9kK => assumption); (case q9k1 => k_asm); (case q9k2 => k_asm); (case q9k3 => k_asm); (case q9k4 => k_asm); (case q9k5 => k_asm); (case q9k6 => k_is); (case q9k7 => k_is); (case q9k8 => k_room); (case q9k9 => first | exact BindsTo.of_eq rfl | exact binds_K (by k_in) rfl (by k_is) rfl rfl rfl); (case q9c5 => decide); (case q9kB => exact locs rfl); (case q9c2 => exact rfl); (case q9c3 => exact rfl); (case q9c4 => exact rfl); k_whole; intro _ _ _ _ _ _ B' _ _; (try dsimp only); (try k_lift B'); (try k_fold)))
  k_with "eval Name" => ((k_dflt (first
  | (refine' nameX_L ?q10F ?q10v ?_ ?q10a ?q10b; (case q10F => k_asm); (case q10a => exact rfl); (case q10b => exact rfl); (case q10v => exact rfl); k_whole)
  | (refine' nameX_K ?q10F ?q10X ?q10T ?q10e ?_ ?q10a ?q10b; (case q10F => k_asm); (case q10X => k_asm); (case q10T => k_asm); (case q10a => exact rfl); (case q10b => exact rfl); (case q10e => k_is); k_whole))))
  k_with "k_mem" => (((repeat (refine' List.mem_cons_of_mem _ ?_)); with_reducible assumption))
  k_with "subscriptTail Name Constant ref int" => ((k_dflt (refine tup_at (by k_asm) (by k_mem) (by decide) (by decide) (by rfl) ?_)))
  k_with "subscriptTail Subscript Constant ref int" => ((k_dflt (refine tup_at (by k_asm) (by k_mem) (by decide) (by decide) (by rfl) ?_)))
  k_with "ite" => ((first | (refine ite_pos (by with_reducible assumption) ?_) | (refine ite_neg (by with_reducible assumption) ?_) | (refine ite_pos (by simp only [beq_iff_eq, bne_iff_ne, beq_eq_false_iff_ne, decide_eq_true_eq, decide_eq_false_iff_not, Bool.not_eq_true', Bool.not_eq_false']; omega) ?_) | (refine ite_neg (by simp only [beq_iff_eq, bne_iff_ne, beq_eq_false_iff_ne, decide_eq_true_eq, decide_eq_false_iff_not, Bool.not_eq_true', Bool.not_eq_false']; omega) ?_)))
  k_with "k_all" => (assumption)
  trivial
theorem len_vs {A : Around} {E : Value → Shared → Prop} {s : Shared} {h₀ : Heap} {L l : Addr} {news : Led} {n : Nat} {vs : List Value} {Q : Value → Shared → Prop} (N : News h₀ L s.heap news) (hm : (l, listOf vs.toArray n) ∈ news) (hl : vs.length = 4)
    (h : ∀ t tk', Q (.int 4 t) { s with toks := tk' }) : wpAny (model theProg w) A (call (.builtin "len") [.ref l]) Q E s := len_listK N hm (by k_extra "om") (by rw [hl]; exact h)
theorem rules17_2 : True := by
  k_with "call builtin:len" => ((k_here; (with_reducible show wpAny _ _ (call (Value.builtin "len") [Value.ref _]) _ _ _); k_dflt (refine len_vs (by k_asm) (by k_mem) (by assumption) ?_); intro _ _))
  k_with "call ref" => ((k_here; k_dflt (
  refine' line_part_use ?q17kH ?q17kZ ?q17kC ?q17d1 ?q17d2 ?q17d3 ?q17kA ?q17kF ?q17kK ?q17k1 ?q17k2 ?q17k3 ?q17k4 ?q17k5 ?_
  (case q17kA => exact rfl); (case q17kF => first | exact rfl | assumption); (case q17kK => first | exact rfl | assumption); (case q17d3 => exact rfl); (case q17k1 => k_asm); (case q17k2 => k_asm); (case q17k3 => k_asm); (case q17k4 => k_asm); (case q17k5 => k_asm); (case q17d1 => exact Nat.le_of_ble_eq_true rfl); (case q17d2 => exact Nat.le_of_ble_eq_true rfl)
  (case q17kH => k_mem); (case q17kZ => k_extra "om")
  (case q17kC => (with_reducible assumption))
  intro _ _ _ _; kaf_suf; (try k_sweep))))
  k_with "setItem ref int ref" => ((k_here; k_dflt (refine' list_put ?q18F ?q18N ?q18U ?q18a ?q18b ?q18c ?_; (case q18F => k_asm); (case q18N => k_asm); (case q18U => k_upd); (case q18a => k_extra "om"); (case q18b => first | k_extra "om" | (simp only [List.length_set]; k_extra "om")); (case q18c => k_extra "om")); intro _ _ _; (try k_sweep)))
  trivial

theorem put1_spec {ln dl cl c e : Addr} {sz vp vq : Value} {vs : List Value} {ci : Int} {tc tw t1 t2 t3 : Tok} {bw : Bool} {n1 n2 : Nat} {rest : Led} (hl : vs.length = 4) (h0 : 0 ≤ ci) (h4 : ci < 4)
    (hln : (ln, instObj 338 dl) ∈ rest) (hdl : (dl, dictOf (lineDict w.params t1 t2 t3 cl bw sz) n1) ∈ rest)
    (hc : (c, tupOf [.ref e, .int 1 tw, vp, vq]) ∈ rest) (r1 : ∀ p ∈ rest, p.1 ≠ cl)
    (hp : ∀ i x, ci ≤ i → i < vs.length → vs[i.toNat]? = some x → CellIn rest x (some 0)) :
    Spec w loose mean mg mb 570 570 256 [.ref ln, .int ci tc, .ref c] ((cl, listOf vs.toArray n2) :: rest)
      (fun v n' => v = .none ∧ n' = (cl, listOf (vs.set ci.toNat (.ref c)).toArray n2) :: rest) := by
  intro gd env outer A₀ base h₀ L m s Q E hf hk B F X N T hret
  have get : ∀ i : Int, ci ≤ i → 0 < i → i < vs.length → ∃ v x, vs[i.toNat]? = some v ∧ CellIn ((cl, listOf vs.toArray n2) :: rest) v (some x) := by
    intro i hi h0 h1
    have hq : i.toNat < vs.length := by k_extra "om"
    exact ⟨vs[i.toNat], 0, List.getElem?_eq_getElem hq, (hp i _ hi h1 (List.getElem?_eq_getElem hq)).mono fun p hp => .tail _ hp⟩
  have g0 := get ci (by k_extra "om")
  have g1 := get (ci + 1) (by k_extra "om")
  clear get hp
  refine wpAny_call ?_
  k_dflt k_enter
  k_steps
  all_goals exact hret _ _ _ _ ⟨rfl, rfl⟩ (by k_asm) (by k_asm)
theorem put2_spec {ln dl cl c e : Addr} {sz vp vq : Value} {vs : List Value} {ci : Int} {tc tw t1 t2 t3 : Tok} {bw : Bool} {n1 n2 : Nat} {rest : Led} (hl : vs.length = 4) (h0 : 0 ≤ ci) (h4 : ci < 3)
    (hln : (ln, instObj 338 dl) ∈ rest) (hdl : (dl, dictOf (lineDict w.params t1 t2 t3 cl bw sz) n1) ∈ rest)
    (hc : (c, tupOf [.ref e, .int 2 tw, vp, vq]) ∈ rest) (r1 : ∀ p ∈ rest, p.1 ≠ cl)
    (hp : ∀ i x, ci ≤ i → i < vs.length → vs[i.toNat]? = some x → CellIn rest x (some 0)) :
    Spec w loose mean mg mb 570 570 256 [.ref ln, .int ci tc, .ref c] ((cl, listOf vs.toArray n2) :: rest)
      (fun v n' => v = .none ∧ ∃ c' e' tw', AllLt c' ((cl, listOf vs.toArray n2) :: rest) ∧ AllLt e' ((cl, listOf vs.toArray n2) :: rest) ∧ n' = (c', tupOf [.ref e', .int 0 tw', vp, vq]) :: (e', tupOf []) :: (cl, listOf ((vs.set ci.toNat (.ref c)).set (ci + 1).toNat (.ref c')).toArray n2) :: rest) := by
  intro gd env outer A₀ base h₀ L m s Q E hf hk B F X N T hret
  have get : ∀ i : Int, ci ≤ i → 0 < i → i < vs.length → ∃ v x, vs[i.toNat]? = some v ∧ CellIn ((cl, listOf vs.toArray n2) :: rest) v (some x) := by
    intro i hi h0 h1
    have hq : i.toNat < vs.length := by k_extra "om"
    exact ⟨vs[i.toNat], 0, List.getElem?_eq_getElem hq, (hp i _ hi h1 (List.getElem?_eq_getElem hq)).mono fun p hp => .tail _ hp⟩
  have g0 := get ci (by k_extra "om")
  have g1 := get (ci + 2) (by k_extra "om")
  have hx : ci + 1 ≠ 4 := by k_extra "om"
  clear get hp
  refine wpAny_call ?_
  k_dflt k_enter
  k_steps
  refine hret _ _ _ _ ⟨rfl, _, _, _, ?_, ?_, rfl⟩ (by k_asm) (by k_asm)
  · simp only [AllLt]
    exact And.right (by assumption)
  · simp only [AllLt]
    assumption
end
theorem news_ne {h₀ h : Heap} {L a b : Addr} {oa ob : Obj} {news : Led} (N : News h₀ L h news) (ha : (a, oa) ∈ news) (hb : (b, ob) ∈ news) (hne : oa.cls ≠ ob.cls) : a ≠ b := by
  intro e
  subst e
  have h1 := (N _ ha).1
  have h2 := (N _ hb).1
  exact hne (congrArg Obj.cls (Option.some.inj (h1.symm.trans h2)))
theorem mem_less1 {h₀ h : Heap} {L a b : Addr} {oa ob : Obj} {news : Led} (N : News h₀ L h news) (ha : (a, oa) ∈ news) (hb : (b, ob) ∈ news) (hne : oa.cls ≠ ob.cls) : (a, oa) ∈ less news [b] :=
  mem_less.mpr ⟨ha, by simpa using news_ne N ha hb hne⟩
theorem CellIn.less1 {h₀ h : Heap} {L b : Addr} {vs : List Value} {n : Nat} {news : Led} {v : Value} {x : Option Int} (N : News h₀ L h news) (hb : (b, listOf vs.toArray n) ∈ news) (hc : CellIn news v x) : CellIn (less news [b]) v x := by
  obtain ⟨c, e, vp, vq, tw, es, a, m1, m2, r⟩ := hc
  exact ⟨c, e, vp, vq, tw, es, a, mem_less1 N m1 hb (by simp), mem_less1 N m2 hb (by simp), r⟩
theorem allLt_less {d a : Addr} {o : Obj} {news : Led} {l : Led} (h : AllLt d ((a, o) :: l)) (hs : ∀ p ∈ news, p.1 = a ∨ p ∈ l) : AllLt d news :=
  allLt_of fun p hp => (hs p hp).elim (fun e => by rw [e]; exact h.1) (allLt_mem h.2 p)
section
variable {w : World} {loose : List Str} {mean : ExcName → Option Value} {mg mb : Str → Option Value}
variable {A A₀ : Around} {env : Env} {outer : List Env} {base h₀ : Heap} {L : Addr} {m : Str → Option Value} {s : Shared} {Q E : Value → Shared → Prop} {news : Led} {g : Obj → Led} {ln dl cl c e : Addr} {sz vp vq : Value} {vs : List Value} {ci : Int} {tc tw t1 t2 t3 : Tok} {bw : Bool} {n1 n2 : Nat}
theorem put1_use (U : UpdF cl (listOf vs.toArray n2) news g) (hl : vs.length = 4) (h0 : 0 ≤ ci) (h4 : ci < 4)
    (hln : (ln, instObj 338 dl) ∈ news) (hdl : (dl, dictOf (lineDict w.params t1 t2 t3 cl bw sz) n1) ∈ news) (hc : (c, tupOf [.ref e, .int 1 tw, vp, vq]) ∈ news)
    (hp : ∀ i x, ci ≤ i → i < vs.length → vs[i.toNat]? = some x → CellIn news x (some 0))
    (hdp : A.depth ≤ 570) (hu : A.units ≤ 570) (hh : A.handled = none) (hA : A.frames = some (env :: outer)) (hf : env.frame = some L) (hk : env.scope.kind = .function)
    (B : Below A₀ base outer h₀) (F : Fr h₀ L s.heap m) (X : (hd.heap_1 w.params).In h₀) (N : News h₀ L s.heap news) (T : Top hd.view_1 loose mean mg mb h₀)
    (ret : ∀ h' tk', Fr h₀ L h' m → News h₀ L h' (g (listOf (vs.set ci.toNat (.ref c)).toArray n2)) → Q .none { s with heap := h', toks := tk' }) :
    wpAny (model theProg w) A (call (.ref 256) [.ref ln, .int ci tc, .ref c]) Q E s := by
  obtain ⟨p1, p2, p3⟩ := pick1 U
  have hcl : (cl, listOf vs.toArray n2) ∈ news := p1 _ (.head _)
  refine Spec.use (put1_spec (rest := less news [cl]) hl h0 h4 (mem_less1 N hln hcl (by simp)) (mem_less1 N hdl hcl (by simp)) (mem_less1 N hc hcl (by simp)) p2 fun i x a b d => (hp i x a b d).less1 N hcl) hdp hu hh hA hf hk B F X (fun p hp => N p (p1 p hp)) T ?_
  rintro v n' h' tk' ⟨rfl, rfl⟩ F' N'
  exact ret h' tk' F' fun p hp => N' p (p3 _ p hp)
theorem put2_use (U : UpdF cl (listOf vs.toArray n2) news g) (hl : vs.length = 4) (h0 : 0 ≤ ci) (h4 : ci < 3)
    (hln : (ln, instObj 338 dl) ∈ news) (hdl : (dl, dictOf (lineDict w.params t1 t2 t3 cl bw sz) n1) ∈ news) (hc : (c, tupOf [.ref e, .int 2 tw, vp, vq]) ∈ news)
    (hp : ∀ i x, ci ≤ i → i < vs.length → vs[i.toNat]? = some x → CellIn news x (some 0))
    (hdp : A.depth ≤ 570) (hu : A.units ≤ 570) (hh : A.handled = none) (hA : A.frames = some (env :: outer)) (hf : env.frame = some L) (hk : env.scope.kind = .function)
    (B : Below A₀ base outer h₀) (F : Fr h₀ L s.heap m) (X : (hd.heap_1 w.params).In h₀) (N : News h₀ L s.heap news) (T : Top hd.view_1 loose mean mg mb h₀)
    (ret : ∀ h' tk' c' e' tw', AllLt c' news → AllLt e' news → Fr h₀ L h' m → News h₀ L h' ((c', tupOf [.ref e', .int 0 tw', vp, vq]) :: (e', tupOf []) :: g (listOf ((vs.set ci.toNat (.ref c)).set (ci + 1).toNat (.ref c')).toArray n2)) → Q .none { s with heap := h', toks := tk' }) :
    wpAny (model theProg w) A (call (.ref 256) [.ref ln, .int ci tc, .ref c]) Q E s := by
  obtain ⟨p1, p2, p3⟩ := pick1 U
  have hcl : (cl, listOf vs.toArray n2) ∈ news := p1 _ (.head _)
  refine Spec.use (put2_spec (rest := less news [cl]) hl h0 h4 (mem_less1 N hln hcl (by simp)) (mem_less1 N hdl hcl (by simp)) (mem_less1 N hc hcl (by simp)) p2 fun i x a b d => (hp i x a b d).less1 N hcl) hdp hu hh hA hf hk B F X (fun p hp => N p (p1 p hp)) T ?_
  rintro v n' h' tk' ⟨rfl, c', e', tw', q1, q2, rfl⟩ F' N'
  have sp : ∀ p ∈ news, p.1 = cl ∨ p ∈ less news [cl] := fun p hp => (Classical.em (p.1 = cl)).imp id fun e => mem_less.mpr ⟨hp, by simpa using e⟩
  refine ret h' tk' c' e' tw' (allLt_less q1 sp) (allLt_less q2 sp) F' fun p hp => N' p ?_
  rcases List.mem_cons.mp hp with rfl | hp
  · exact .head _
  · rcases List.mem_cons.mp hp with rfl | hp
    · exact .tail _ (.head _)
    · exact .tail _ (.tail _ (p3 _ p hp))
end

end
end Mine
namespace Mine
section
theorem base20 : True := by
  k_with_none
  k_with "execs cons" => (k_here; (with_reducible refine wpAny_execs_cons ?_); (try dsimp only); k_fold)
  k_with "ne" => (first | with_reducible assumption | with_reducible exact Ne.symm (by with_reducible assumption) | with_reducible exact Nat.ne_of_gt (by k_extra "lt0") | with_reducible exact Nat.ne_of_lt (by k_extra "lt0") | with_reducible exact Nat.ne_of_gt (by k_extra "lt2") | with_reducible exact Nat.ne_of_lt (by k_extra "lt2") | with_reducible exact neu (by with_reducible assumption) | with_reducible exact neu' (by with_reducible assumption) | with_reducible exact neu2 (by with_reducible assumption) | with_reducible exact neu2' (by with_reducible assumption) | with_reducible exact neu (by k_extra "lt0") | with_reducible exact neu' (by k_extra "lt0") | with_reducible exact Nat.ne_of_lt sl1 | with_reducible exact Nat.ne_of_lt sl2 | with_reducible exact Nat.ne_of_lt sl3 | with_reducible exact Nat.ne_of_lt sl4 | with_reducible exact Nat.ne_of_lt sl5 | with_reducible exact Nat.ne_of_gt sl1 | with_reducible exact Nat.ne_of_gt sl2 | with_reducible exact Nat.ne_of_gt sl3 | with_reducible exact Nat.ne_of_gt sl4 | with_reducible exact Nat.ne_of_gt sl5 | k_extra "neX" | omega)
  k_with "lt2" => (refine Nat.lt_trans (by with_reducible assumption) ?_; first | with_reducible assumption | k_extra "lt2")
  k_with "lt0" => (first | with_reducible assumption | exact pj0 (by with_reducible assumption) | exact pj1 (by with_reducible assumption) | exact pj2 (by with_reducible assumption) | exact pj3 (by with_reducible assumption) | exact pj4 (by with_reducible assumption) | exact pj5 (by with_reducible assumption) | exact pj6 (by with_reducible assumption) | exact pj7 (by with_reducible assumption) | exact pj8 (by with_reducible assumption) | exact pj9 (by with_reducible assumption) | exact pj10 (by with_reducible assumption) | exact pj11 (by with_reducible assumption) | exact pj12 (by with_reducible assumption) | exact pj13 (by with_reducible assumption) | exact pj14 (by with_reducible assumption) | exact pj15 (by with_reducible assumption) | exact pj16 (by with_reducible assumption))
  k_with "lt1" => (refine Nat.lt_trans (by k_extra "lt0") ?_; first | k_extra "lt0" | k_extra "lt1")
  k_with "om" => (first | with_reducible assumption | with_reducible exact Nat.le_of_ble_eq_true (by decide) | with_reducible exact ci0 | with_reducible exact ci1 | with_reducible exact cz0 (by with_reducible assumption) | with_reducible exact cz1 (by with_reducible assumption) | with_reducible exact cz2 (by with_reducible assumption) | with_reducible exact cz3 (by with_reducible assumption) | with_reducible exact lb1 (by with_reducible assumption) (by decide) | with_reducible exact lb4 (by with_reducible assumption) (by decide) | with_reducible exact lb2 (by with_reducible assumption) (by with_reducible assumption) (by decide) | with_reducible exact lb5 (by with_reducible assumption) (by with_reducible assumption) (by decide) | with_reducible exact ci4 (by with_reducible assumption) (by decide) | with_reducible exact ci5 (by with_reducible assumption) (by decide) | with_reducible exact cz4 (by with_reducible assumption) (by with_reducible assumption) | with_reducible exact cz5 (by with_reducible assumption) (by with_reducible assumption) | with_reducible exact cz6 (by with_reducible assumption) (by with_reducible assumption) (by with_reducible assumption) (by decide) | with_reducible exact lp1 (by with_reducible assumption) (by decide) | with_reducible exact le1 (by with_reducible assumption) | with_reducible exact le2 (by with_reducible assumption) | with_reducible exact Nat.le_succ _ | with_reducible exact leu (by with_reducible assumption) | with_reducible exact leu2 (by with_reducible assumption) | with_reducible exact zb1 (by with_reducible assumption) (by decide) | with_reducible exact zb2 (by with_reducible assumption) | with_reducible exact zb3 (by with_reducible assumption) (by decide) | with_reducible exact un1 (by with_reducible assumption) | with_reducible exact sl1 | with_reducible exact sl2 | with_reducible exact sl3 | with_reducible exact sl4 | with_reducible exact sl5 | with_reducible exact Nat.le_of_lt (by k_extra "lt0") | omega)
  k_with "lt" => (first | k_extra "lt0" | k_extra "lt1")
  trivial
theorem cellIn_narrow {news : Led} {c e : Addr} {k : Int} {t tw : Tok} {vp vq : Value} (hk : k ≠ 19968) (h0 : k ≠ 0) (m1 : (c, tupOf [.ref e, .int 1 tw, vp, vq]) ∈ news) (m2 : (e, tupOf [.int k t]) ∈ news) : CellIn news (.ref c) (some k) :=
  ⟨c, e, vp, vq, tw, _, rfl, by unfold wdOf; dsimp only; rw [if_neg hk]; exact m1, m2, by unfold EsOf; dsimp only; rw [if_neg h0]; exact ⟨t, rfl⟩⟩
theorem cellIn_wide {news : Led} {c e : Addr} {k : Int} {t tw : Tok} {vp vq : Value} (hk : k = 19968) (m1 : (c, tupOf [.ref e, .int 2 tw, vp, vq]) ∈ news) (m2 : (e, tupOf [.int k t]) ∈ news) : CellIn news (.ref c) (some k) :=
  ⟨c, e, vp, vq, tw, _, rfl, by unfold wdOf; dsimp only; rw [if_pos hk]; exact m1, m2, by unfold EsOf; dsimp only; rw [if_neg (by k_extra "om")]; exact ⟨t, rfl⟩⟩
theorem cellIn_half {news : Led} {c e : Addr} {tw : Tok} {vp vq : Value} (m1 : (c, tupOf [.ref e, .int 0 tw, vp, vq]) ∈ news) (m2 : (e, tupOf []) ∈ news) : CellIn news (.ref c) none :=
  ⟨c, e, vp, vq, tw, _, rfl, m1, m2, rfl⟩
theorem cellIn_blank {news : Led} {c e : Addr} {tw : Tok} {vp vq : Value} (m1 : (c, tupOf [.ref e, .int 1 tw, vp, vq]) ∈ news) (m2 : (e, tupOf []) ∈ news) : CellIn news (.ref c) (some 0) :=
  ⟨c, e, vp, vq, tw, _, rfl, m1, m2, rfl⟩
/-- the state at the head of the law's while over the columns -/
inductive LineInv (w : World) (g : Heap) (L : Addr) (s : Shared) (dk lf ln cl sg : Addr) (svs : List Value) (n3 : Nat) (START rest : Led) (c : Nat) (S' : Shared) : Prop
  | mk (xs : List (Option Int)) (cs tv bs : List Value) (tl : Addr) (nt : Nat) (ci : Int) (tc : Tok) (u : Str → Option Value) (h : Heap) (tk : Nat) (ol' od' : Obj) (n2' : Nat) (rest' : Led)
    (f0 : S' = { s with heap := h, toks := tk })
    (f1 : xs.length = c)
    (f2 : ci = (c : Int))
    (f3 : All2 (CellIn rest') cs xs)
    (f4 : All2 TellV tv xs)
    (f5 : c + bs.length = 4)
    (f6 : (∀ b ∈ bs, CellIn rest' b (some 0)))
    (f7 : Deck w lf ol' od')
    (f8 : AllLt tl START)
    (f9 : (∀ p ∈ rest, p ∈ rest'))
    (f10 : (∀ p ∈ rest', p ∈ rest ∨ AllLt p.1 START))
    (f11 : Fr g L h (fun y => if y = Str.ofString "told" then some (.ref tl) else if y = Str.ofString "column" then some (.int ci tc) else if y = Str.ofString "deck" then some (.ref dk) else if y = Str.ofString "line" then some (.ref ln) else if y = Str.ofString "signs" then some (.ref sg) else u y))
    (f12 : News g L h ((tl, listOf tv.toArray nt) :: (lf, ol') :: (dk, od') :: (cl, listOf (cs ++ bs).toArray n2') :: (sg, listOf svs.toArray n3) :: rest')) : LineInv w g L s dk lf ln cl sg svs n3 START rest c S'
theorem hp_mono {ci : Int} {vs : List Value} {rest news : Led} (h : ∀ i x, ci ≤ i → i < vs.length → vs[i.toNat]? = some x → CellIn rest x (some 0)) (hs : ∀ p ∈ rest, p ∈ news) :
    ∀ i x, ci ≤ i → i < vs.length → vs[i.toNat]? = some x → CellIn news x (some 0) := fun i x a b d => (h i x a b d).mono hs
theorem All2.snoc {α β : Type} {R : α → β → Prop} {l : List α} {r : List β} {a : α} {b : β} (h : All2 R l r) (hab : R a b) : All2 R (l ++ [a]) (r ++ [b]) := by
  induction h with
  | nil => exact .cons hab .nil
  | cons a _ ih => exact .cons a ih
theorem set_mid {cs bs : List Value} {b v : Value} {k : Nat} (hk : cs.length = k) : (cs ++ b :: bs).set k v = (cs ++ [v]) ++ bs := by
  subst hk
  induction cs with
  | nil => rfl
  | cons c cs ih => simp [ih]
theorem set_mid2 {cs bs : List Value} {b b' v v' : Value} {k k' : Nat} (hk : cs.length = k) (hk' : k' = k + 1) : ((cs ++ b :: b' :: bs).set k v).set k' v' = ((cs ++ [v]) ++ [v']) ++ bs := by
  rw [set_mid hk, hk']
  exact set_mid (by simp [hk])
theorem up_cons {START rest r : Led} {p : Addr × Obj} (h : AllLt p.1 START) (hr : ∀ q ∈ r, q ∈ rest ∨ AllLt q.1 START) : ∀ q ∈ p :: r, q ∈ rest ∨ AllLt q.1 START := fun q hq => by
  rcases List.mem_cons.mp hq with rfl | hq
  · exact .inr h
  · exact hr q hq
theorem start_up {D lf dk cl sg : Addr} {ol od oc os : Obj} {rest rest' : Led} (hsub : ∀ p ∈ rest, p ∈ rest') (h5 : AllLt D rest') (h1 : @LT.lt Nat _ lf D) (h2 : @LT.lt Nat _ dk D) (h3 : @LT.lt Nat _ cl D) (h4 : @LT.lt Nat _ sg D) :
    AllLt D ((lf, ol) :: (dk, od) :: (cl, oc) :: (sg, os) :: rest) := ⟨h1, h2, h3, h4, allLt_of fun p hp => allLt_mem h5 p (hsub p hp)⟩
theorem line_next {w : World} {g : Heap} {L : Addr} {s : Shared} {dk lf ln cl sg : Addr} {svs : List Value} {n3 : Nat} {START rest : Led} {c : Nat} {G : Shared → Prop} {h : Heap} {tk : Nat} {tl : Addr} {nt n2 : Nat} {ci : Int} {tc : Tok} {m : Str → Option Value} {ol od : Obj}
    {all r1 r2 r3 r4 r5 : Led} {X cs tv bs : List Value} {xs : List (Option Int)} (c' : Nat)
    (ih : ∀ j S'', 4 - j < 4 - c → LineInv w g L s dk lf ln cl sg svs n3 START rest j S'' → G S'') (N : News g L h all) (F : Fr g L h m) (hlt : 4 - c' < 4 - c)
    (f1 : m (Str.ofString "told") = some (.ref tl)) (f2 : m (Str.ofString "column") = some (.int ci tc)) (f3 : m (Str.ofString "deck") = some (.ref dk)) (f4 : m (Str.ofString "line") = some (.ref ln)) (f5 : m (Str.ofString "signs") = some (.ref sg))
    (e1 : Del tl (listOf tv.toArray nt) all r1) (e2 : Del lf ol r1 r2) (e3 : Del dk od r2 r3) (e4 : Del cl (listOf X.toArray n2) r3 r4) (e5 : Del sg (listOf svs.toArray n3) r4 r5)
    (hX : X = cs ++ bs) (hxs : xs.length = c') (hci : ci = (c' : Int)) (hbs : c' + bs.length = 4) (D : Deck w lf ol od) (htl : AllLt tl START) (sub : ∀ p ∈ rest, p ∈ r5) (up : ∀ p ∈ r5, p ∈ rest ∨ AllLt p.1 START)
    (hcs : All2 (CellIn r5) cs xs) (htv : All2 TellV tv xs) (hb : ∀ b ∈ bs, CellIn r5 b (some 0)) : G { s with heap := h, toks := tk } := by
  subst hX
  refine ih c' _ hlt ⟨xs, cs, tv, bs, tl, nt, ci, tc, m, h, tk, ol, od, n2, r5, rfl, hxs, hci, hcs, htv, hbs, hb, D, htl, sub, up, fr_name (fr_name (fr_name (fr_name (fr_name F (Str.ofString "signs") f5) (Str.ofString "line") f4) (Str.ofString "deck") f3) (Str.ofString "column") f2) (Str.ofString "told") f1, fun p hp => N p ?_⟩
  rcases List.mem_cons.mp hp with rfl | hp
  · exact e1.sub _ (.head _)
  refine e1.sub' _ ?_
  rcases List.mem_cons.mp hp with rfl | hp
  · exact e2.sub _ (.head _)
  refine e2.sub' _ ?_
  rcases List.mem_cons.mp hp with rfl | hp
  · exact e3.sub _ (.head _)
  refine e3.sub' _ ?_
  rcases List.mem_cons.mp hp with rfl | hp
  · exact e4.sub _ (.head _)
  refine e4.sub' _ ?_
  rcases List.mem_cons.mp hp with rfl | hp
  · exact e5.sub _ (.head _)
  exact e5.sub' _ hp
theorem two_of {c : Nat} {bs : List Value} (h : c + bs.length = 4) (hc : c < 3) : ∃ b b' r, bs = b :: b' :: r := by
  match bs, h with
  | [], h => exact absurd h (Nat.ne_of_lt (Nat.lt_succ_of_lt hc))
  | [_], h => exact absurd h (Nat.ne_of_lt (Nat.succ_lt_succ hc))
  | b :: b' :: r, _ => exact ⟨b, b', r, rfl⟩
theorem one_of {c : Nat} {bs : List Value} (h : c + bs.length = 4) (hc : c < 4) : ∃ b r, bs = b :: r := by
  match bs, h with
  | [], h => exact absurd h (Nat.ne_of_lt hc)
  | b :: r, _ => exact ⟨b, r, rfl⟩
theorem ar20 {c : Nat} {ci : Int} (h : ci = (c : Int)) (h4 : ci < 4) : c < 4 := Int.ofNat_lt.mp (h ▸ h4)
theorem ar20w {c : Nat} {ci : Int} (h : ci = (c : Int)) (h3 : ci < 3) : c < 3 := Int.ofNat_lt.mp (h ▸ h3)
theorem ar20n {c : Nat} {ci : Int} (h : ci = (c : Int)) (h4 : ¬ ci < 4) : 4 ≤ c := Nat.le_of_not_lt fun k => h4 (h ▸ Int.ofNat_lt.mpr k)
theorem ar20s {c : Nat} {ci : Int} (h : ci = (c : Int)) : (ci + 1).toNat = ci.toNat + 1 := by subst h; rfl
theorem ar20t {c n : Nat} {ci : Int} (h : ci = (c : Int)) (e : n = c) : n = ci.toNat := by subst h; exact e
theorem ar20l {c k : Nat} (h : c < 4) (hk : 0 < k) : 4 - (c + k) < 4 - c := Nat.sub_lt_sub_left h (Nat.lt_add_of_pos_right hk)
theorem ar20c {c k : Nat} {ci : Int} (h : ci = (c : Int)) : ci + (k : Int) = ((c + k : Nat) : Int) := by subst h; rfl
theorem ar20b {c n : Nat} (h : c + (n + 1 + 1) = 4) : c + 2 + n = 4 := by rw [Nat.add_right_comm]; exact h
theorem ar20d {c n : Nat} (h : c + (n + 1) = 4) : c + 1 + n = 4 := by rw [Nat.add_right_comm]; exact h
theorem ar20z {c n : Nat} (h : c + n = 4) (h4 : 4 ≤ c) : n = 0 := by k_extra "om"
section
variable {w : World} {loose : List Str} {mean : ExcName → Option Value} {mg mb : Str → Option Value}
theorem rules20_1 : True := by
  k_with "k_enter" => ((refine' code_def ?q19k1 ?q19k2 ?q19k3 ?q19k4 ?q19k5 ?q19kA ?q19kF ?q19kK ?q19k6 ?q19k7 ?q19k8 ?q19k9 ?q19kB ?_ ?q19c2 ?q19c3 ?q19c4 ?q19c5; (case q19kA => exact rfl); (case q19kF => assumption); (case q19kK => assumption); (case q19k1 => k_asm); (case q19k2 => k_asm); (case q19k3 => k_asm); (case q19k4 => k_asm); (case q19k5 => k_asm); (case q19k6 => k_is); (case q19k7 => k_is); (case q19k8 => k_room); (case q19k9 => first | exact BindsTo.of_eq rfl | exact binds_K (by k_in) rfl (by k_is) rfl rfl rfl); (case q19c5 => decide); (case q19kB => exact locs rfl); (case q19c2 => exact rfl); (case q19c3 => exact rfl); (case q19c4 => exact rfl); k_whole; intro _ _ _ _ _ _ B' _ _; (try dsimp only); (try k_lift B'); (try k_fold)))
  k_with "eval Name" => ((k_dflt (first
  | (refine' nameX_L ?q20F ?q20v ?_ ?q20a ?q20b; (case q20F => k_asm); (case q20a => exact rfl); (case q20b => exact rfl); (case q20v => exact rfl); k_whole)
  | (refine' nameX_K ?q20F ?q20X ?q20T ?q20e ?_ ?q20a ?q20b; (case q20F => k_asm); (case q20X => k_asm); (case q20T => k_asm); (case q20a => exact rfl); (case q20b => exact rfl); (case q20e => k_is); k_whole))))
  k_with "k_mem" => (((repeat (refine' List.mem_cons_of_mem _ ?_)); with_reducible assumption))
  k_with "subscriptTail Name Constant ref int" => ((k_dflt (refine tup_at (by k_asm) (by k_mem) (by decide) (by decide) (by rfl) ?_)))
  k_with "subscriptTail Subscript Constant ref int" => ((k_dflt (refine tup_at (by k_asm) (by k_mem) (by decide) (by decide) (by rfl) ?_)))
  k_with "ite" => ((first | (refine ite_pos (by with_reducible assumption) ?_) | (refine ite_neg (by with_reducible assumption) ?_) | (refine ite_pos (by simp only [beq_iff_eq, bne_iff_ne, beq_eq_false_iff_ne, decide_eq_true_eq, decide_eq_false_iff_not, Bool.not_eq_true', Bool.not_eq_false']; omega) ?_) | (refine ite_neg (by simp only [beq_iff_eq, bne_iff_ne, beq_eq_false_iff_ne, decide_eq_true_eq, decide_eq_false_iff_not, Bool.not_eq_true', Bool.not_eq_false']; omega) ?_)))
  k_with "k_all" => (assumption)
  k_with "k_updF" => (first | exact Del.head | (refine' Del.tail ?q26a ?q26b; (case q26a => k_ne); (case q26b => k_updF)))
  k_with "ktr_rel" => (((repeat (refine List.mem_cons_of_mem _ ?_)); assumption))
  k_with "ktr_unf" => (first
  | with_reducible assumption
  | (refine start_up (by with_reducible assumption) ?q28a9 ?q28b9 ?q28c9 ?q28d9 ?q28e9; (case q28b9 => first | k_extra "lt" | k_extra "om"); (case q28c9 => first | k_extra "lt" | k_extra "om"); (case q28d9 => first | k_extra "lt" | k_extra "om"); (case q28e9 => first | k_extra "lt" | k_extra "om"); (case q28a9 => first | with_reducible assumption | exact andr1 (by with_reducible assumption) | exact andr2 (by with_reducible assumption) | exact andr3 (by with_reducible assumption) | exact andr4 (by with_reducible assumption) | exact andr5 (by with_reducible assumption) | exact andr6 (by with_reducible assumption) | exact andr7 (by with_reducible assumption) | exact andr8 (by with_reducible assumption) | exact andr9 (by with_reducible assumption) | exact andr10 (by with_reducible assumption) | exact andr11 (by with_reducible assumption) | exact andr12 (by with_reducible assumption) | exact andr13 (by with_reducible assumption) | exact andr14 (by with_reducible assumption) | exact andr15 (by with_reducible assumption) | exact andr16 (by with_reducible assumption))))
  k_with "k_tabat" => (((repeat (refine up_cons ?q29a8 ?_; (case q29a8 => ktr_unf))); assumption))
  k_with "call ref" => ((k_here; k_dflt (first
  | (refine' put1_use ?q30U ?q30hl ?q30h0 ?q30h4 ?q30m1 ?q30m2 ?q30m3 ?q30kC ?q30d1 ?q30d2 ?q30d3 ?q30kA ?q30kF ?q30kK ?q30k1 ?q30k2 ?q30k3 ?q30k4 ?q30k5 ?_
     (case q30kA => exact rfl); (case q30kF => first | exact rfl | assumption); (case q30kK => first | exact rfl | assumption); (case q30d3 => exact rfl); (case q30k1 => k_asm); (case q30k2 => k_asm); (case q30k3 => k_asm); (case q30k4 => k_asm); (case q30k5 => k_asm); (case q30d1 => exact Nat.le_of_ble_eq_true rfl); (case q30d2 => exact Nat.le_of_ble_eq_true rfl)
     (case q30m3 => k_mem); (case q30m1 => k_mem); (case q30m2 => k_mem)
     (case q30U => k_updF); (case q30hl => assumption); (case q30h0 => k_extra "om"); (case q30h4 => k_extra "om")
     (case q30kC => exact hp_mono (by assumption) (fun _ _ => by ktr_rel))
     intro _ _ _ _; kaf_suf; (try k_sweep))
  | (refine' put2_use ?q30U ?q30hl ?q30h0 ?q30h4 ?q30m1 ?q30m2 ?q30m3 ?q30kC ?q30d1 ?q30d2 ?q30d3 ?q30kA ?q30kF ?q30kK ?q30k1 ?q30k2 ?q30k3 ?q30k4 ?q30k5 ?_
     (case q30kA => exact rfl); (case q30kF => first | exact rfl | assumption); (case q30kK => first | exact rfl | assumption); (case q30d3 => exact rfl); (case q30k1 => k_asm); (case q30k2 => k_asm); (case q30k3 => k_asm); (case q30k4 => k_asm); (case q30k5 => k_asm); (case q30d1 => exact Nat.le_of_ble_eq_true rfl); (case q30d2 => exact Nat.le_of_ble_eq_true rfl)
     (case q30m3 => k_mem); (case q30m1 => k_mem); (case q30m2 => k_mem)
     (case q30U => k_updF); (case q30hl => assumption); (case q30h0 => k_extra "om"); (case q30h4 => k_extra "om")
     (case q30kC => exact hp_mono (by assumption) (fun _ _ => by ktr_rel))
     intro _ _ _ _ _; kbt_split; (try k_sweep)))))
  k_with "call ref" => ((k_here; k_dflt (
  refine' draw_use ?q31kD ?q31kn ?q31U1 ?q31U2 ?q31m1 ?q31m2 ?q31d1 ?q31d2 ?q31d3 ?q31kA ?q31kF ?q31kK ?q31k1 ?q31k2 ?q31k3 ?q31k4 ?q31k5 ?_
  (case q31kA => exact rfl); (case q31kF => first | exact rfl | assumption); (case q31kK => first | exact rfl | assumption); (case q31d3 => exact rfl); (case q31k1 => k_asm); (case q31k2 => k_asm); (case q31k3 => k_asm); (case q31k4 => k_asm); (case q31k5 => k_asm); (case q31d1 => exact Nat.le_of_ble_eq_true rfl); (case q31d2 => exact Nat.le_of_ble_eq_true rfl)
  (case q31kD => assumption); (case q31kn => k_ne); (case q31U1 => k_updF); (case q31U2 => (intro _; k_updF)); (case q31m1 => decide); (case q31m2 => decide)
  intro _ _ _ _ _ _ _ _ _ _ _; kaf_suf; (try k_sweep))))
  k_with "exec While" => ((refine halt ?_))
  k_with "exec While Compare" => ((refine halt ?_))
  k_with "exec While Compare cons nil" => ((refine halt ?_))
  k_with "call builtin:list.append" => ((k_here; k_dflt (refine' list_push ?q35F ?q35N ?q35U ?q35z ?_; (case q35F => k_asm); (case q35N => k_asm); (case q35U => k_upd); (case q35z => assumption)); intro _ _ _; (try k_sweep)))
  k_with "WhlRest" => ((refine halt ?_))
  k_with "WhlIf" => ((first | (refine WhlIf.yes (by simp only [decide_eq_true_eq, decide_eq_false_iff_not]; k_extra "om") ?_) | (refine WhlIf.no (by simp only [decide_eq_true_eq, decide_eq_false_iff_not]; k_extra "om") ?_)))
  k_with "subscriptTail" => ((k_here; (with_reducible show wpAny _ _ (subscriptTail _ _ (Value.ref _) (Value.int _ _)) _ _ _); k_dflt (refine menuK (by k_asm) (by k_mem) (by first | exact ints7 | exact ints6 | exact ints5) (by assumption) (by assumption) (by decide) ?_; intro _ _ _)))
  k_with "binaryOp Add ref ref" => ((k_here; k_dflt (refine' list_cat ?q39F ?q39N ?q39a ?q39b ?q39z ?_; (case q39F => k_asm); (case q39N => k_asm); (case q39a => k_mem); (case q39b => k_mem); (case q39z => (simp only [List.length_append, List.length_cons, List.length_nil]; k_extra "om"))); intro _ _ _ _; kaf_pre; (try k_sweep)))
  trivial

theorem law_line_spec {dk lf ln dl cl sg : Addr} {ol od : Obj} {svs : List Value} {b0 b1 b2 b3 sz : Value} {t1 t2 t3 : Tok} {bw : Bool} {n1 n2 n3 : Nat} {rest : Led} (D : Deck w lf ol od) (hsv : svs.length ≤ 100)
    (hb0 : CellIn rest b0 (some 0)) (hb1 : CellIn rest b1 (some 0)) (hb2 : CellIn rest b2 (some 0)) (hb3 : CellIn rest b3 (some 0))
    (hln : (ln, instObj 338 dl) ∈ rest) (hdl : (dl, dictOf (lineDict w.params t1 t2 t3 cl bw sz) n1) ∈ rest)
    (r1 : ∀ p ∈ rest, p.1 ≠ lf) (r2 : ∀ p ∈ rest, p.1 ≠ dk) (r3 : ∀ p ∈ rest, p.1 ≠ cl) (r4 : ∀ p ∈ rest, p.1 ≠ sg)
    (d1 : @Ne Nat lf dk) (d2 : @Ne Nat lf cl) (d3 : @Ne Nat lf sg) (d4 : @Ne Nat dk cl) (d5 : @Ne Nat dk sg) (d6 : @Ne Nat cl sg) :
    Spec w loose mean mg mb 560 560 582 [.ref dk, .ref ln, .ref sg] ((lf, ol) :: (dk, od) :: (cl, listOf [b0, b1, b2, b3].toArray n2) :: (sg, listOf svs.toArray n3) :: rest)
      (fun v n' => ∃ (xs : List (Option Int)) (cs tv : List Value) (tl : Addr) (nt n2' : Nat) (ol' od' : Obj) (rest' : Led), v = .none ∧ xs.length = 4 ∧ All2 (CellIn rest') cs xs ∧ All2 TellV tv xs ∧ Deck w lf ol' od' ∧ (tl, listOf tv.toArray nt) ∈ rest' ∧ AllLt tl ((lf, ol) :: (dk, od) :: (cl, listOf [b0, b1, b2, b3].toArray n2) :: (sg, listOf svs.toArray n3) :: rest) ∧ (∀ p ∈ rest, p ∈ rest') ∧
        (∀ p ∈ rest', p ∈ rest ∨ AllLt p.1 ((lf, ol) :: (dk, od) :: (cl, listOf [b0, b1, b2, b3].toArray n2) :: (sg, listOf svs.toArray n3) :: rest)) ∧
        n' = (lf, ol') :: (dk, od') :: (cl, listOf cs.toArray n2') :: (sg, listOf (svs ++ [Value.ref tl]).toArray (n3 + 1)) :: rest') := by
  intro gd env outer A₀ base h₀ L m s Q E hf hk B F X N T hret
  refine wpAny_call ?_
  k_dflt (refine' code_def ?k1 ?k2 ?k3 ?k4 ?k5 ?kA ?kF ?kK ?k6 ?k7 ?k8 ?k9 ?kB ?_ ?c2 ?c3 ?c4 ?c5; (case kA => exact rfl); (case kF => assumption); (case kK => assumption); (case k1 => k_asm); (case k2 => k_asm); (case k3 => k_asm); (case k4 => k_asm); (case k5 => k_asm); (case k6 => k_is); (case k7 => k_is); (case k8 => k_room); (case k9 => first | exact BindsTo.of_eq rfl | exact binds_K (by k_in) rfl (by k_is) rfl rfl rfl); (case c5 => decide); (case kB => exact locs rfl); (case c2 => exact rfl); (case c3 => exact rfl); (case c4 => exact rfl); k_whole); intro g1 L1 h1 FG1 F1 N1 B1 X1 T1; (try dsimp only); (try k_lift B1); (try k_fold)
  k_steps
  rename Fr g1 L1 _ _ => F2
  rename News g1 L1 _ _ => N2
  refine Halt.go (whl_start 0 (whl_ind (LineInv w g1 L1 s dk lf ln cl sg svs n3 ((lf, ol) :: (dk, od) :: (cl, listOf [b0, b1, b2, b3].toArray n2) :: (sg, listOf svs.toArray n3) :: rest) rest) (fun c => 4 - c) 0 ?_ ?_))
  · refine ⟨[], [], [], [b0, b1, b2, b3], _, _, _, _, _, _, _, ol, od, n2, rest, rfl, rfl, rfl, .nil, .nil, rfl, ?_, D, ?_, fun _ h => h, fun _ h => .inl h, fr_name (fr_name (fr_name (fr_name (fr_name F2 (Str.ofString "signs") rfl) (Str.ofString "line") rfl) (Str.ofString "deck") rfl) (Str.ofString "column") rfl) (Str.ofString "told") rfl, cb_drop N2 fun p hp => .tail _ hp⟩
    intro b hb
    simp only [List.mem_cons, List.not_mem_nil, or_false] at hb
    rcases hb with rfl | rfl | rfl | rfl <;> assumption
    refine ⟨?_, ?_, ?_, ?_, ?_⟩ <;> first | k_extra "lt0" | k_extra "om" | (rename (_ ∧ _ ∧ _ ∧ _ ∧ AllLt _ rest) => l9; exact l9.2.2.2.2)
  · clear F2 N2
    rintro c S' ⟨xs, cs, tv, bs, tl, nt, ci, tc, u, h2, tk2, ol', od', n2', rest', rfl, hc, hci, hcs, htv, hbs, hb, D', htl, hsub, hup, F2, N2⟩ ih
    clear D N hb0 hb1 hb2 hb3
    have htl9 := htl
    obtain ⟨l1, l2, l3, l4, l5⟩ := htl
    replace l1 := ltN l1
    replace l2 := ltN l2
    replace l3 := ltN l3
    replace l4 := ltN l4
    have q1 : ∀ p ∈ rest', p.1 ≠ lf := fun p hp => (hup p hp).elim (r1 p) fun q => by have := q.1; exact Nat.ne_of_gt this
    have q2 : ∀ p ∈ rest', p.1 ≠ dk := fun p hp => (hup p hp).elim (r2 p) fun q => by have := q.2.1; exact Nat.ne_of_gt this
    have q3 : ∀ p ∈ rest', p.1 ≠ cl := fun p hp => (hup p hp).elim (r3 p) fun q => by have := q.2.2.1; exact Nat.ne_of_gt this
    have q4 : ∀ p ∈ rest', p.1 ≠ sg := fun p hp => (hup p hp).elim (r4 p) fun q => by have := q.2.2.2.1; exact Nat.ne_of_gt this
    replace hln := hsub _ hln
    replace hdl := hsub _ hdl
    have hcl := hcs.length
    have htl := htv.length
    have hsc : cs.length = c := hcl.trans hc
    have hL : (cs ++ bs).length = 4 := by rw [List.length_append, hsc]; exact hbs
    have hT : tv.length ≤ 4 := by rw [htl, hc]; exact Nat.le.intro hbs
    have h0 : 0 ≤ ci := by rw [hci]; exact Int.natCast_nonneg c
    have hck := ar20t hci hsc
    have hP : ∀ i x, ci ≤ i → i < (cs ++ bs).length → (cs ++ bs)[i.toNat]? = some x → CellIn rest' x (some 0) := by
      intro i x hi h1 hx
      rw [List.getElem?_append_right (by rw [hck]; exact Int.toNat_le_toNat hi)] at hx
      exact hb x (List.mem_of_getElem? hx)
    refine whl_turn (k := 0) ?hE ?_
    case hE => first | passes_own | with_unfolding_all passes_own
    by_cases h4 : ci < 4
    · k_steps
      · -- a wide sign
        obtain ⟨b, b', bs, rfl⟩ : ∃ b b' r, bs = b :: b' :: r := two_of hbs (ar20w hci (by assumption))
        have hcc : c < 4 := ar20 hci h4
        have hcn := ar20s hci
        simp only [List.length_cons] at hbs
        refine Halt.go ?_
        refine' line_next (c + 2) ih ?N ?F ?lt ?f1 ?f2 ?f3 ?f4 ?f5 ?e1 ?e2 ?e3 ?e4 ?e5 ?X ?xs ?ci ?bs ?D ?tl ?sub ?up ?cs ?tv ?b
        case N => k_asm
        case F => k_asm
        case f1 => exact rfl
        case f2 => exact rfl
        case f3 => exact rfl
        case f4 => exact rfl
        case f5 => exact rfl
        case e1 => k_updF
        case e2 => k_updF
        case e3 => k_updF
        case e4 => k_updF
        case e5 => k_updF
        case X => exact set_mid2 hck hcn
        case D => assumption
        case cs => exact .snoc (.snoc (hcs.mono fun _ _ h => h.mono fun _ _ => by ktr_rel) (cellIn_wide (by assumption) (by k_mem) (by k_mem))) (cellIn_half (by k_mem) (by k_mem))
        case xs => rw [List.length_append, List.length_append, hc]; rfl
        case lt => exact ar20l hcc (Nat.le_of_ble_eq_true rfl)
        case ci => exact ar20c (k := 2) hci
        case bs => exact ar20b hbs
        case sub => exact fun p hp => by have := hsub p hp; ktr_rel
        case tv => rw [List.append_cons]; exact .snoc (.snoc htv ⟨_, rfl⟩) rfl
        case b => exact fun b hb' => (hb b (.tail _ (.tail _ hb'))).mono fun _ _ => by ktr_rel
        case tl => ktr_unf
        case up => k_tabat
      · -- no room for a wide sign
        obtain ⟨b, bs, rfl⟩ : ∃ b r, bs = b :: r := one_of hbs (ar20 hci h4)
        have hcc : c < 4 := ar20 hci h4
        simp only [List.length_cons] at hbs
        refine Halt.go ?_
        refine' line_next (c + 1) ih ?Nq0 ?Fq0 ?ltq0 ?f1q0 ?f2q0 ?f3q0 ?f4q0 ?f5q0 ?e1q0 ?e2q0 ?e3q0 ?e4q0 ?e5q0 ?Xq0 ?xsq0 ?ciq0 ?bsq0 ?Dq0 ?tlq0 ?subq0 ?upq0 ?csq0 ?tvq0 ?bq0
        case Nq0 => k_asm
        case Fq0 => k_asm
        case f1q0 => exact rfl
        case f2q0 => exact rfl
        case f3q0 => exact rfl
        case f4q0 => exact rfl
        case f5q0 => exact rfl
        case e1q0 => k_updF
        case e2q0 => k_updF
        case e3q0 => k_updF
        case e4q0 => k_updF
        case e5q0 => k_updF
        case Xq0 => exact set_mid hck
        case Dq0 => assumption
        case csq0 => exact .snoc (hcs.mono fun _ _ h => h.mono fun _ _ => by ktr_rel) (cellIn_narrow (k := 98) (by first | assumption | decide) (by first | assumption | decide) (by k_mem) (by k_mem))
        case xsq0 => rw [List.length_append, hc]; rfl
        case ltq0 => exact ar20l hcc (Nat.le_of_ble_eq_true rfl)
        case ciq0 => exact ar20c (k := 1) hci
        case bsq0 => exact ar20d hbs
        case subq0 => exact fun p hp => by have := hsub p hp; ktr_rel
        case tvq0 => exact .snoc htv ⟨_, rfl⟩
        case bq0 => exact fun b hb' => (hb b (.tail _ hb')).mono fun _ _ => by ktr_rel
        case tlq0 => ktr_unf
        case upq0 => k_tabat
      · -- a blank
        obtain ⟨b, bs, rfl⟩ : ∃ b r, bs = b :: r := one_of hbs (ar20 hci h4)
        have hcc : c < 4 := ar20 hci h4
        simp only [List.length_cons] at hbs
        refine Halt.go ?_
        refine' line_next (c + 1) ih ?Nq1 ?Fq1 ?ltq1 ?f1q1 ?f2q1 ?f3q1 ?f4q1 ?f5q1 ?e1q1 ?e2q1 ?e3q1 ?e4q1 ?e5q1 ?Xq1 ?xsq1 ?ciq1 ?bsq1 ?Dq1 ?tlq1 ?subq1 ?upq1 ?csq1 ?tvq1 ?bq1
        case Nq1 => k_asm
        case Fq1 => k_asm
        case f1q1 => exact rfl
        case f2q1 => exact rfl
        case f3q1 => exact rfl
        case f4q1 => exact rfl
        case f5q1 => exact rfl
        case e1q1 => k_updF
        case e2q1 => k_updF
        case e3q1 => k_updF
        case e4q1 => k_updF
        case e5q1 => k_updF
        case Xq1 => exact List.append_cons ..
        case Dq1 => assumption
        case csq1 => exact .snoc (hcs.mono fun _ _ h => h.mono fun _ _ => by ktr_rel) ((hb b (.head _)).mono fun _ _ => by ktr_rel)
        case xsq1 => rw [List.length_append, hc]; rfl
        case ltq1 => exact ar20l hcc (Nat.le_of_ble_eq_true rfl)
        case ciq1 => exact ar20c (k := 1) hci
        case bsq1 => exact ar20d hbs
        case subq1 => exact fun p hp => by have := hsub p hp; ktr_rel
        case tvq1 => exact .snoc htv ⟨_, rfl⟩
        case bq1 => exact fun b hb' => (hb b (.tail _ hb')).mono fun _ _ => by ktr_rel
        case tlq1 => ktr_unf
        case upq1 => k_tabat
      · -- a narrow sign
        obtain ⟨b, bs, rfl⟩ : ∃ b r, bs = b :: r := one_of hbs (ar20 hci h4)
        have hcc : c < 4 := ar20 hci h4
        simp only [List.length_cons] at hbs
        refine Halt.go ?_
        refine' line_next (c + 1) ih ?Nq2 ?Fq2 ?ltq2 ?f1q2 ?f2q2 ?f3q2 ?f4q2 ?f5q2 ?e1q2 ?e2q2 ?e3q2 ?e4q2 ?e5q2 ?Xq2 ?xsq2 ?ciq2 ?bsq2 ?Dq2 ?tlq2 ?subq2 ?upq2 ?csq2 ?tvq2 ?bq2
        case Nq2 => k_asm
        case Fq2 => k_asm
        case f1q2 => exact rfl
        case f2q2 => exact rfl
        case f3q2 => exact rfl
        case f4q2 => exact rfl
        case f5q2 => exact rfl
        case e1q2 => k_updF
        case e2q2 => k_updF
        case e3q2 => k_updF
        case e4q2 => k_updF
        case e5q2 => k_updF
        case Xq2 => exact set_mid hck
        case Dq2 => assumption
        case csq2 => exact .snoc (hcs.mono fun _ _ h => h.mono fun _ _ => by ktr_rel) (cellIn_narrow (by first | assumption | decide) (by first | assumption | decide) (by k_mem) (by k_mem))
        case xsq2 => rw [List.length_append, hc]; rfl
        case ltq2 => exact ar20l hcc (Nat.le_of_ble_eq_true rfl)
        case ciq2 => exact ar20c (k := 1) hci
        case bsq2 => exact ar20d hbs
        case subq2 => exact fun p hp => by have := hsub p hp; ktr_rel
        case tvq2 => exact .snoc htv ⟨_, rfl⟩
        case bq2 => exact fun b hb' => (hb b (.tail _ hb')).mono fun _ _ => by ktr_rel
        case tlq2 => ktr_unf
        case upq2 => k_tabat
    · obtain rfl : bs = [] := List.length_eq_zero_iff.mp (ar20z hbs (ar20n hci h4))
      rw [List.append_nil] at N2
      k_steps
      refine hret _ _ _ _ ⟨xs, cs, tv, tl, nt, n2', ol', od', (tl, listOf tv.toArray nt) :: rest', rfl, by k_extra "om", hcs.mono fun _ _ h => h.mono fun _ h => .tail _ h, htv, D', .head _, htl9, fun p hp => .tail _ (hsub p hp), up_cons htl9 hup, rfl⟩ (by k_asm) (cb_drop (by k_asm) fun p hp => ?_)
      simp only [List.mem_cons] at hp ⊢
      rcases hp with h | h | h | h | h | h
      · exact .inr (.inl h)
      · exact .inr (.inr (.inl h))
      · exact .inr (.inr (.inr (.inl h)))
      · exact .inr (.inr (.inr (.inr (.inl h))))
      · exact .inl h
      · exact .inr (.inr (.inr (.inr (.inr h))))
end

end
end Mine
namespace Mine
section
theorem base21 : True := by
  k_with_none
  k_with "execs cons" => (k_here; (with_reducible refine wpAny_execs_cons ?_); (try dsimp only); k_fold)
  k_with "ne" => (first | with_reducible assumption | with_reducible exact Ne.symm (by with_reducible assumption) | with_reducible exact Nat.ne_of_gt (by with_reducible assumption) | with_reducible exact Nat.ne_of_lt (by with_reducible assumption) | with_reducible exact neu (by with_reducible assumption) | with_reducible exact neu' (by with_reducible assumption) | with_reducible exact neu2 (by with_reducible assumption) | with_reducible exact neu2' (by with_reducible assumption) | with_reducible exact Nat.ne_of_lt sl1 | with_reducible exact Nat.ne_of_lt sl2 | with_reducible exact Nat.ne_of_lt sl3 | with_reducible exact Nat.ne_of_lt sl4 | with_reducible exact Nat.ne_of_lt sl5 | with_reducible exact Nat.ne_of_gt sl1 | with_reducible exact Nat.ne_of_gt sl2 | with_reducible exact Nat.ne_of_gt sl3 | with_reducible exact Nat.ne_of_gt sl4 | with_reducible exact Nat.ne_of_gt sl5 | omega)
  k_with "lt2" => omega
  k_with "lt0" => (first | with_reducible assumption | omega)
  k_with "lt1" => omega
  k_with "om" => (first | with_reducible assumption | with_reducible exact Nat.le_of_ble_eq_true (by decide) | with_reducible exact ci0 | with_reducible exact ci1 | with_reducible exact cz0 (by with_reducible assumption) | with_reducible exact cz1 (by with_reducible assumption) | with_reducible exact cz2 (by with_reducible assumption) | with_reducible exact cz3 (by with_reducible assumption) | with_reducible exact lb1 (by with_reducible assumption) (by decide) | with_reducible exact lb4 (by with_reducible assumption) (by decide) | with_reducible exact lb2 (by with_reducible assumption) (by with_reducible assumption) (by decide) | with_reducible exact lb5 (by with_reducible assumption) (by with_reducible assumption) (by decide) | with_reducible exact ci4 (by with_reducible assumption) (by decide) | with_reducible exact ci5 (by with_reducible assumption) (by decide) | with_reducible exact cz4 (by with_reducible assumption) (by with_reducible assumption) | with_reducible exact cz5 (by with_reducible assumption) (by with_reducible assumption) | with_reducible exact cz6 (by with_reducible assumption) (by with_reducible assumption) (by with_reducible assumption) (by decide) | with_reducible exact lp1 (by with_reducible assumption) (by decide) | with_reducible exact le1 (by with_reducible assumption) | with_reducible exact le2 (by with_reducible assumption) | with_reducible exact Nat.le_succ _ | with_reducible exact leu (by with_reducible assumption) | with_reducible exact leu2 (by with_reducible assumption) | with_reducible exact zb1 (by with_reducible assumption) (by decide) | with_reducible exact zb2 (by with_reducible assumption) | with_reducible exact zb3 (by with_reducible assumption) (by decide) | with_reducible exact un1 (by with_reducible assumption) | with_reducible exact sl1 | with_reducible exact sl2 | with_reducible exact sl3 | with_reducible exact sl4 | with_reducible exact sl5 | omega)
  k_with "lt" => (first | with_reducible assumption | omega)
  trivial
theorem pick4 {a b c d : Addr} {oa ob oc od : Obj} {news : Led} {g₁ : Obj → Led} {g₂ : Obj → Obj → Led} {g₃ : Obj → Obj → Obj → Led} {g₄ : Obj → Obj → Obj → Obj → Led}
    (n1 : a ≠ b) (n2 : a ≠ c) (n3 : a ≠ d) (n4 : b ≠ c) (n5 : b ≠ d) (n6 : c ≠ d)
    (U₁ : UpdF a oa news g₁) (U₂ : ∀ x, UpdF b ob (g₁ x) (g₂ x)) (U₃ : ∀ x y, UpdF c oc (g₂ x y) (g₃ x y)) (U₄ : ∀ x y z, UpdF d od (g₃ x y z) (g₄ x y z)) :
    (∀ p ∈ (a, oa) :: (b, ob) :: (c, oc) :: (d, od) :: less news [a, b, c, d], p ∈ news) ∧
    (∀ x y z u, ∀ p ∈ g₄ x y z u, p ∈ (a, x) :: (b, y) :: (c, z) :: (d, u) :: less news [a, b, c, d]) ∧
    (∀ x y z u, ∀ p ∈ less news [a, b, c, d], p ∈ g₄ x y z u) := by
  have A1 := UpdF.pick U₁
  have A2 := fun x => UpdF.pick (U₂ x)
  have A3 := fun x y => UpdF.pick (U₃ x y)
  have A4 := fun x y z => UpdF.pick (U₄ x y z)
  have hb : (b, ob) ∈ news := by
    rcases A1.2.1 oa _ (A2 oa).1 with e | e
    · exact absurd (congrArg Prod.fst e).symm n1
    · exact e.1
  have hc : (c, oc) ∈ news := by
    rcases (A2 oa).2.1 ob _ (A3 oa ob).1 with e | e
    · exact absurd (congrArg Prod.fst e).symm n4
    · rcases A1.2.1 oa _ e.1 with e | e
      · exact absurd (congrArg Prod.fst e).symm n2
      · exact e.1
  have hd : (d, od) ∈ news := by
    rcases (A3 oa ob).2.1 oc _ (A4 oa ob oc).1 with e | e
    · exact absurd (congrArg Prod.fst e).symm n6
    · rcases (A2 oa).2.1 ob _ e.1 with e | e
      · exact absurd (congrArg Prod.fst e).symm n5
      · rcases A1.2.1 oa _ e.1 with e | e
        · exact absurd (congrArg Prod.fst e).symm n3
        · exact e.1
  refine ⟨fun p hp => ?_, fun x y z u p hp => ?_, fun x y z u p hp => ?_⟩
  · simp only [List.mem_cons] at hp
    rcases hp with rfl | rfl | rfl | rfl | hp
    · exact A1.1
    · exact hb
    · exact hc
    · exact hd
    · exact (mem_less.mp hp).1
  · simp only [List.mem_cons]
    rcases (A4 x y z).2.1 u p hp with e | ⟨hp, q4⟩
    · exact .inr (.inr (.inr (.inl e)))
    rcases (A3 x y).2.1 z p hp with e | ⟨hp, q3⟩
    · exact .inr (.inr (.inl e))
    rcases (A2 x).2.1 y p hp with e | ⟨hp, q2⟩
    · exact .inr (.inl e)
    rcases A1.2.1 x p hp with e | ⟨hp, q1⟩
    · exact .inl e
    exact .inr (.inr (.inr (.inr (mem_less.mpr ⟨hp, by simp [q1, q2, q3, q4]⟩))))
  · obtain ⟨hp, hq⟩ := mem_less.mp hp
    simp only [List.mem_cons, List.not_mem_nil, or_false, not_or] at hq
    exact (A4 x y z).2.2.1 u p ((A3 x y).2.2.1 z p ((A2 x).2.2.1 y p (A1.2.2.1 x p hp hq.1) hq.2.1) hq.2.2.1) hq.2.2.2

theorem mem_lessN {h₀ h : Heap} {L a : Addr} {oa : Obj} {news : Led} {as : List Addr} (N : News h₀ L h news) (ha : (a, oa) ∈ news) (hne : ∀ b ∈ as, ∃ ob, (b, ob) ∈ news ∧ oa.cls ≠ ob.cls) : (a, oa) ∈ less news as :=
  mem_less.mpr ⟨ha, fun hm => let ⟨_, m, c⟩ := hne a hm; news_ne N ha m c rfl⟩
theorem CellIn.lessN {h₀ h : Heap} {L : Addr} {news : Led} {as : List Addr} {v : Value} {x : Option Int} (N : News h₀ L h news) (hne : ∀ b ∈ as, ∃ ob, (b, ob) ∈ news ∧ Value.type "tuple" ≠ ob.cls) (hc : CellIn news v x) : CellIn (less news as) v x := by
  obtain ⟨c, e, vp, vq, tw, es, a, m1, m2, r⟩ := hc
  exact ⟨c, e, vp, vq, tw, es, a, mem_lessN N m1 hne, mem_lessN N m2 hne, r⟩
def above (news : Led) (p : Addr × Obj) : Bool := news.all fun q => Nat.blt q.1 p.1
theorem above_iff {news : Led} {p : Addr × Obj} : above news p = true ↔ AllLt p.1 news := by
  unfold above
  rw [List.all_eq_true]
  exact ⟨fun h => allLt_of fun q hq => Nat.le_of_ble_eq_true (h q hq), fun h q hq => Nat.ble_eq_true_of_le (allLt_mem h q hq)⟩

section
variable {w : World} {loose : List Str} {mean : ExcName → Option Value} {mg mb : Str → Option Value}
variable {A A₀ : Around} {env : Env} {outer : List Env} {base h₀ : Heap} {L : Addr} {m : Str → Option Value} {s : Shared} {Q E : Value → Shared → Prop} {news : Led}
theorem law_line_use {g₁ : Obj → Led} {g₂ : Obj → Obj → Led} {g₃ : Obj → Obj → Obj → Led} {g₄ : Obj → Obj → Obj → Obj → Led} {dk lf ln dl cl sg : Addr} {ol od : Obj} {svs : List Value} {b0 b1 b2 b3 sz : Value} {t1 t2 t3 : Tok} {bw : Bool} {n1 n2 n3 : Nat} (D : Deck w lf ol od) (hsv : svs.length ≤ 100)
    (U₁ : UpdF lf ol news g₁) (U₂ : ∀ x, UpdF dk od (g₁ x) (g₂ x)) (U₃ : ∀ x y, UpdF cl (listOf [b0, b1, b2, b3].toArray n2) (g₂ x y) (g₃ x y)) (U₄ : ∀ x y z, UpdF sg (listOf svs.toArray n3) (g₃ x y z) (g₄ x y z))
    (d1 : @Ne Nat lf dk) (d2 : @Ne Nat lf cl) (d3 : @Ne Nat lf sg) (d4 : @Ne Nat dk cl) (d5 : @Ne Nat dk sg) (d6 : @Ne Nat cl sg)
    (hb0 : CellIn news b0 (some 0)) (hb1 : CellIn news b1 (some 0)) (hb2 : CellIn news b2 (some 0)) (hb3 : CellIn news b3 (some 0))
    (hln : (ln, instObj 338 dl) ∈ news) (hdl : (dl, dictOf (lineDict w.params t1 t2 t3 cl bw sz) n1) ∈ news) (hdk : dk ≠ dl)
    (hdp : A.depth ≤ 560) (hu : A.units ≤ 560) (hh : A.handled = none) (hA : A.frames = some (env :: outer)) (hf : env.frame = some L) (hk : env.scope.kind = .function)
    (B : Below A₀ base outer h₀) (F : Fr h₀ L s.heap m) (X : (hd.heap_1 w.params).In h₀) (N : News h₀ L s.heap news) (T : Top hd.view_1 loose mean mg mb h₀)
    (ret : ∀ (xs : List (Option Int)) (cs tv : List Value) (tl : Addr) (nt n2' : Nat) (ol' od' : Obj) (own : Led) h' tk', xs.length = 4 → Deck w lf ol' od' → (∀ p ∈ own, AllLt p.1 news) →
      All2 (CellIn (g₄ ol' od' (listOf cs.toArray n2') (listOf (svs ++ [Value.ref tl]).toArray (n3 + 1)) ++ own)) cs xs → All2 TellV tv xs → (tl, listOf tv.toArray nt) ∈ own →
      Fr h₀ L h' m → News h₀ L h' (g₄ ol' od' (listOf cs.toArray n2') (listOf (svs ++ [Value.ref tl]).toArray (n3 + 1)) ++ own) → Q .none { s with heap := h', toks := tk' }) :
    wpAny (model theProg w) A (call (.ref 582) [.ref dk, .ref ln, .ref sg]) Q E s := by
  obtain ⟨p1, p2, p3⟩ := pick4 d1 d2 d3 d4 d5 d6 U₁ U₂ U₃ U₄
  have D' := D
  obtain ⟨vs, ns, n, M, t, rfl, -, -, hdd, -, -⟩ := D'
  have hdc : od.cls = .type "dict" := hdd.choose_spec.choose_spec.1.1
  have m1 : (lf, listOf vs.toArray n) ∈ news := p1 _ (.head _)
  have m2 : (dk, od) ∈ news := p1 _ (.tail _ (.head _))
  have m3 : (cl, listOf [b0, b1, b2, b3].toArray n2) ∈ news := p1 _ (.tail _ (.tail _ (.head _)))
  have m4 : (sg, listOf svs.toArray n3) ∈ news := p1 _ (.tail _ (.tail _ (.tail _ (.head _))))
  have hne : ∀ b ∈ [lf, dk, cl, sg], ∃ ob, (b, ob) ∈ news ∧ Value.type "tuple" ≠ ob.cls := by
    intro b hb
    simp only [List.mem_cons, List.not_mem_nil, or_false] at hb
    rcases hb with rfl | rfl | rfl | rfl
    · exact ⟨_, m1, by simp⟩
    · exact ⟨_, m2, by rw [hdc]; simp⟩
    · exact ⟨_, m3, by simp⟩
    · exact ⟨_, m4, by simp⟩
  have hnI : ∀ b ∈ [lf, dk, cl, sg], ∃ ob, (b, ob) ∈ news ∧ (instObj 338 dl).cls ≠ ob.cls := by
    intro b hb
    simp only [List.mem_cons, List.not_mem_nil, or_false] at hb
    rcases hb with rfl | rfl | rfl | rfl
    · exact ⟨_, m1, by simp⟩
    · exact ⟨_, m2, by rw [hdc]; simp⟩
    · exact ⟨_, m3, by simp⟩
    · exact ⟨_, m4, by simp⟩
  have hdl' : (dl, dictOf (lineDict w.params t1 t2 t3 cl bw sz) n1) ∈ less news [lf, dk, cl, sg] := by
    refine mem_less.mpr ⟨hdl, fun hm => ?_⟩
    simp only [List.mem_cons, List.not_mem_nil, or_false] at hm
    rcases hm with e | e | e | e
    · exact news_ne N hdl m1 (by simp) e
    · exact hdk e.symm
    · exact news_ne N hdl m3 (by simp) e
    · exact news_ne N hdl m4 (by simp) e
  have off : ∀ a ∈ [lf, dk, cl, sg], ∀ p ∈ less news [lf, dk, cl, sg], p.1 ≠ a := fun a ha p hp e => (mem_less.mp hp).2 (e ▸ ha)
  refine Spec.use (law_line_spec (rest := less news [lf, dk, cl, sg]) D hsv (hb0.lessN N hne) (hb1.lessN N hne) (hb2.lessN N hne) (hb3.lessN N hne) (mem_lessN N hln hnI) hdl' (off lf (by simp)) (off dk (by simp)) (off cl (by simp)) (off sg (by simp)) d1 d2 d3 d4 d5 d6)
    hdp hu hh hA hf hk B F X (fun p hp => N p (p1 p hp)) T ?_
  rintro v n' h' tk' ⟨xs, cs, tv, tl, nt, n2', ol', od', rest', rfl, hx, hcs, htv, D', htl, htl9, hsub, hup, rfl⟩ F' N'
  have ltA : ∀ x : Addr, AllLt x ((lf, listOf vs.toArray n) :: (dk, od) :: (cl, listOf [b0, b1, b2, b3].toArray n2) :: (sg, listOf svs.toArray n3) :: less news [lf, dk, cl, sg]) → above news (x, listOf tv.toArray nt) = true := by
    rintro x ⟨q1, q2, q3, q4, q5⟩
    refine above_iff.mpr (allLt_of fun q hq => ?_)
    by_cases hm : q.1 ∈ [lf, dk, cl, sg]
    · simp only [List.mem_cons, List.not_mem_nil, or_false] at hm
      rcases hm with e | e | e | e <;> rw [e] <;> assumption
    · exact allLt_mem q5 q (mem_less.mpr ⟨hq, hm⟩)
  have sp : ∀ p ∈ rest', p ∈ less news [lf, dk, cl, sg] ∨ above news p = true := by
    intro p hp
    rcases hup p hp with h | ⟨q1, q2, q3, q4, q5⟩
    · exact .inl h
    · refine .inr (above_iff.mpr (allLt_of fun q hq => ?_))
      by_cases hm : q.1 ∈ [lf, dk, cl, sg]
      · simp only [List.mem_cons, List.not_mem_nil, or_false] at hm
        rcases hm with e | e | e | e <;> rw [e] <;> assumption
      · exact allLt_mem q5 q (mem_less.mpr ⟨hq, hm⟩)
  have to : ∀ (x y z u : Obj), ∀ p ∈ rest', p ∈ g₄ x y z u ++ rest'.filter (above news) := by
    intro x y z u p hp
    rcases sp p hp with h | h
    · exact List.mem_append_left _ (p3 x y z u p h)
    · exact List.mem_append_right _ (List.mem_filter.mpr ⟨hp, h⟩)
  refine ret xs cs tv tl nt n2' ol' od' (rest'.filter (above news)) h' tk' hx D' (fun p hp => above_iff.mp (List.mem_filter.mp hp).2) (hcs.mono fun _ _ h => h.mono (to _ _ _ _)) htv (List.mem_filter.mpr ⟨htl, ltA _ htl9⟩) F' fun p hp => ?_
  rcases List.mem_append.mp hp with hp | hp
  · have := p2 _ _ _ _ p hp
    simp only [List.mem_cons] at this
    rcases this with h | h | h | h | h
    · exact N' p (h ▸ .head _)
    · exact N' p (h ▸ .tail _ (.head _))
    · exact N' p (h ▸ .tail _ (.tail _ (.head _)))
    · exact N' p (h ▸ .tail _ (.tail _ (.tail _ (.head _))))
    · exact N' p (.tail _ (.tail _ (.tail _ (.tail _ (hsub p h)))))
  · exact N' p (.tail _ (.tail _ (.tail _ (.tail _ (List.mem_filter.mp hp).1))))
end

end
end Mine
namespace Mine
section
theorem base30 : True := by
  k_with_none
  k_with "execs cons" => (k_here; (with_reducible refine wpAny_execs_cons ?_); (try dsimp only); k_fold)
  k_with "ne" => (first | with_reducible assumption | with_reducible exact Ne.symm (by with_reducible assumption) | with_reducible exact Nat.ne_of_gt (by with_reducible assumption) | with_reducible exact Nat.ne_of_lt (by with_reducible assumption) | with_reducible exact neu (by with_reducible assumption) | with_reducible exact neu' (by with_reducible assumption) | with_reducible exact neu2 (by with_reducible assumption) | with_reducible exact neu2' (by with_reducible assumption) | with_reducible exact Nat.ne_of_lt sl1 | with_reducible exact Nat.ne_of_lt sl2 | with_reducible exact Nat.ne_of_lt sl3 | with_reducible exact Nat.ne_of_lt sl4 | with_reducible exact Nat.ne_of_lt sl5 | with_reducible exact Nat.ne_of_gt sl1 | with_reducible exact Nat.ne_of_gt sl2 | with_reducible exact Nat.ne_of_gt sl3 | with_reducible exact Nat.ne_of_gt sl4 | with_reducible exact Nat.ne_of_gt sl5 | omega)
  k_with "lt2" => omega
  k_with "lt0" => (first | with_reducible assumption | omega)
  k_with "lt1" => omega
  k_with "om" => (first | with_reducible assumption | with_reducible exact Nat.le_of_ble_eq_true (by decide) | with_reducible exact ci0 | with_reducible exact ci1 | with_reducible exact cz0 (by with_reducible assumption) | with_reducible exact cz1 (by with_reducible assumption) | with_reducible exact cz2 (by with_reducible assumption) | with_reducible exact cz3 (by with_reducible assumption) | with_reducible exact lb1 (by with_reducible assumption) (by decide) | with_reducible exact lb4 (by with_reducible assumption) (by decide) | with_reducible exact lb2 (by with_reducible assumption) (by with_reducible assumption) (by decide) | with_reducible exact lb5 (by with_reducible assumption) (by with_reducible assumption) (by decide) | with_reducible exact ci4 (by with_reducible assumption) (by decide) | with_reducible exact ci5 (by with_reducible assumption) (by decide) | with_reducible exact cz4 (by with_reducible assumption) (by with_reducible assumption) | with_reducible exact cz5 (by with_reducible assumption) (by with_reducible assumption) | with_reducible exact cz6 (by with_reducible assumption) (by with_reducible assumption) (by with_reducible assumption) (by decide) | with_reducible exact lp1 (by with_reducible assumption) (by decide) | with_reducible exact le1 (by with_reducible assumption) | with_reducible exact le2 (by with_reducible assumption) | with_reducible exact Nat.le_succ _ | with_reducible exact leu (by with_reducible assumption) | with_reducible exact leu2 (by with_reducible assumption) | with_reducible exact zb1 (by with_reducible assumption) (by decide) | with_reducible exact zb2 (by with_reducible assumption) | with_reducible exact zb3 (by with_reducible assumption) (by decide) | with_reducible exact un1 (by with_reducible assumption) | with_reducible exact sl1 | with_reducible exact sl2 | with_reducible exact sl3 | with_reducible exact sl4 | with_reducible exact sl5 | omega)
  k_with "lt" => (first | with_reducible assumption | omega)
  trivial
theorem CellIn.ways {news : Led} {v : Value} {x : Option Int} (h : CellIn news v x) : ∃ c e vp vq tw, v = .ref c ∧
    ((x = none ∧ (c, tupOf [.ref e, .int 0 tw, vp, vq]) ∈ news ∧ (e, tupOf []) ∈ news) ∨ (x = some 0 ∧ (c, tupOf [.ref e, .int 1 tw, vp, vq]) ∈ news ∧ (e, tupOf []) ∈ news) ∨
      ∃ k t wd, x = some k ∧ k ≠ 0 ∧ wd ≠ 0 ∧ wd = wdOf (some k) ∧ (c, tupOf [.ref e, .int wd tw, vp, vq]) ∈ news ∧ (e, tupOf [.int k t]) ∈ news) := by
  obtain ⟨c, e, vp, vq, tw, es, rfl, m1, m2, hes⟩ := h
  refine ⟨c, e, vp, vq, tw, rfl, ?_⟩
  cases x with
  | none =>
    obtain rfl : es = [] := hes
    exact .inl ⟨rfl, m1, m2⟩
  | some k =>
    unfold EsOf at hes
    dsimp only at hes
    by_cases hk : k = 0
    · subst hk
      rw [if_pos rfl] at hes
      subst hes
      exact .inr (.inl ⟨rfl, m1, m2⟩)
    · rw [if_neg hk] at hes
      obtain ⟨t, rfl⟩ := hes
      refine .inr (.inr ⟨k, t, _, rfl, hk, ?_, rfl, m1, m2⟩)
      unfold wdOf
      dsimp only
      split <;> decide
section
variable {w : World} {loose : List Str} {mean : ExcName → Option Value} {mg mb : Str → Option Value}
theorem rules30_1 : True := by
  k_with "k_enter" => ((refine' code_def ?q40k1 ?q40k2 ?q40k3 ?q40k4 ?q40k5 ?q40kA ?q40kF ?q40kK ?q40k6 ?q40k7 ?q40k8 ?q40k9 ?q40kB ?_ ?q40c2 ?q40c3 ?q40c4 ?q40c5; (case q40kA => exact rfl); (case q40kF => assumption); (case q40kK => assumption); (case q40k1 => k_asm); (case q40k2 => k_asm); (case q40k3 => k_asm); (case q40k4 => k_asm); (case q40k5 => k_asm); (case q40k6 => k_is); (case q40k7 => k_is); (case q40k8 => k_room); (case q40k9 => first | exact BindsTo.of_eq rfl | exact binds_K (by k_in) rfl (by k_is) rfl rfl rfl); (case q40c5 => decide); (case q40kB => exact locs rfl); (case q40c2 => exact rfl); (case q40c3 => exact rfl); (case q40c4 => exact rfl); k_whole; intro _ _ _ _ _ _ B' _ _; (try dsimp only); (try k_lift B'); (try k_fold)))
  k_with "eval Name" => ((k_dflt (first
  | (refine' nameX_L ?q41F ?q41v ?_ ?q41a ?q41b; (case q41F => k_asm); (case q41a => exact rfl); (case q41b => exact rfl); (case q41v => exact rfl); k_whole)
  | (refine' nameX_K ?q41F ?q41X ?q41T ?q41e ?_ ?q41a ?q41b; (case q41F => k_asm); (case q41X => k_asm); (case q41T => k_asm); (case q41a => exact rfl); (case q41b => exact rfl); (case q41e => k_is); k_whole))))
  k_with "k_mem" => (((repeat (refine' List.mem_cons_of_mem _ ?_)); with_reducible assumption))
  k_with "subscriptTail Name Constant ref int" => ((k_dflt (refine tup_at (by k_asm) (by k_mem) (by decide) (by decide) (by rfl) ?_)))
  k_with "subscriptTail Subscript Constant ref int" => ((k_dflt (refine tup_at (by k_asm) (by k_mem) (by decide) (by decide) (by rfl) ?_)))
  k_with "ite" => ((first | (refine ite_pos (by with_reducible assumption) ?_) | (refine ite_neg (by with_reducible assumption) ?_) | (refine ite_pos (by simp only [beq_iff_eq, bne_iff_ne, beq_eq_false_iff_ne, decide_eq_true_eq, decide_eq_false_iff_not, Bool.not_eq_true', Bool.not_eq_false']; omega) ?_) | (refine ite_neg (by simp only [beq_iff_eq, bne_iff_ne, beq_eq_false_iff_ne, decide_eq_true_eq, decide_eq_false_iff_not, Bool.not_eq_true', Bool.not_eq_false']; omega) ?_)))
  trivial
theorem blank_spec {news : Led} {v : Value} {x : Option Int} (hc : CellIn news v x) : Spec w loose mean mg mb 590 590 76 [v] news (fun v n' => v = .bool (decide (x = some 0)) ∧ n' = news) := by
  intro gd env outer A₀ base h₀ L m s Q E hf hk B F X N T hret
  obtain ⟨c, e, vp, vq, tw, rfl, ⟨rfl, m1, m2⟩ | ⟨rfl, m1, m2⟩ | ⟨k, t, wd, rfl, h0, hw, -, m1, m2⟩⟩ := hc.ways <;> clear hc
  · refine wpAny_call ?_
    k_dflt k_enter
    k_steps
    exact hret _ _ _ _ ⟨rfl, rfl⟩ (by k_asm) (cb_drop (by k_asm) fun p hp => .tail _ hp)
  · refine wpAny_call ?_
    k_dflt k_enter
    k_steps
    exact hret _ _ _ _ ⟨rfl, rfl⟩ (by k_asm) (cb_drop (by k_asm) fun p hp => .tail _ hp)
  · refine wpAny_call ?_
    k_dflt k_enter
    k_steps
    exact hret _ _ _ _ ⟨by rw [decide_eq_false (by simpa using h0)], rfl⟩ (by k_asm) (cb_drop (by k_asm) fun p hp => .tail _ hp)
/-- the codes that a cell shows -/
def CodesOf : Option Int → List Value → Prop
  | none, es => es = []
  | some k, es => ∃ t, es = [.int (if k = 0 then 32 else k) t]
theorem codes_spec {news : Led} {v : Value} {x : Option Int} (hc : CellIn news v x) : Spec w loose mean mg mb 590 590 153 [v] news (fun v n' => ∃ e es, v = .ref e ∧ CodesOf x es ∧ n' = (e, tupOf es) :: news) := by
  intro gd env outer A₀ base h₀ L m s Q E hf hk B F X N T hret
  obtain ⟨c, e, vp, vq, tw, rfl, ⟨rfl, m1, m2⟩ | ⟨rfl, m1, m2⟩ | ⟨k, t, wd, rfl, h0, hw, -, m1, m2⟩⟩ := hc.ways <;> clear hc
  · refine wpAny_call ?_
    k_dflt k_enter
    k_steps
    exact hret _ _ _ _ ⟨_, _, rfl, rfl, rfl⟩ (by k_asm) (cb_drop (by k_asm) fun p hp => hp)
  · refine wpAny_call ?_
    k_dflt k_enter
    k_steps
    exact hret (.ref _) ((_, tupOf [.int 32 _]) :: news) _ _ ⟨_, _, rfl, ⟨_, by rw [if_pos rfl]⟩, rfl⟩ (by k_asm) (cb_drop (by k_asm) fun p hp => (List.mem_cons.mp hp).elim (fun e => by rw [e]; exact List.Mem.head _) fun h => .tail _ (.tail _ h))
  · refine wpAny_call ?_
    k_dflt k_enter
    k_steps
    exact hret _ _ _ _ ⟨_, _, rfl, ⟨t, by rw [if_neg h0]⟩, rfl⟩ (by k_asm) (cb_drop (by k_asm) fun p hp => (List.mem_cons.mp hp).elim (fun e => .tail _ (by rw [e]; exact m2)) fun h => .tail _ h)
end

end
end Mine
namespace Mine
section
theorem base32 : True := by
  k_with_none
  k_with "execs cons" => (k_here; (with_reducible refine wpAny_execs_cons ?_); (try dsimp only); k_fold)
  k_with "ne" => (first | with_reducible assumption | with_reducible exact Ne.symm (by with_reducible assumption) | with_reducible exact Nat.ne_of_gt (by with_reducible assumption) | with_reducible exact Nat.ne_of_lt (by with_reducible assumption) | with_reducible exact neu (by with_reducible assumption) | with_reducible exact neu' (by with_reducible assumption) | with_reducible exact neu2 (by with_reducible assumption) | with_reducible exact neu2' (by with_reducible assumption) | with_reducible exact Nat.ne_of_lt sl1 | with_reducible exact Nat.ne_of_lt sl2 | with_reducible exact Nat.ne_of_lt sl3 | with_reducible exact Nat.ne_of_lt sl4 | with_reducible exact Nat.ne_of_lt sl5 | with_reducible exact Nat.ne_of_gt sl1 | with_reducible exact Nat.ne_of_gt sl2 | with_reducible exact Nat.ne_of_gt sl3 | with_reducible exact Nat.ne_of_gt sl4 | with_reducible exact Nat.ne_of_gt sl5 | omega)
  k_with "lt2" => omega
  k_with "lt0" => (first | with_reducible assumption | omega)
  k_with "lt1" => omega
  k_with "om" => (first | with_reducible assumption | with_reducible exact Nat.le_of_ble_eq_true (by decide) | with_reducible exact ci0 | with_reducible exact ci1 | with_reducible exact cz0 (by with_reducible assumption) | with_reducible exact cz1 (by with_reducible assumption) | with_reducible exact cz2 (by with_reducible assumption) | with_reducible exact cz3 (by with_reducible assumption) | with_reducible exact lb1 (by with_reducible assumption) (by decide) | with_reducible exact lb4 (by with_reducible assumption) (by decide) | with_reducible exact lb2 (by with_reducible assumption) (by with_reducible assumption) (by decide) | with_reducible exact lb5 (by with_reducible assumption) (by with_reducible assumption) (by decide) | with_reducible exact ci4 (by with_reducible assumption) (by decide) | with_reducible exact ci5 (by with_reducible assumption) (by decide) | with_reducible exact cz4 (by with_reducible assumption) (by with_reducible assumption) | with_reducible exact cz5 (by with_reducible assumption) (by with_reducible assumption) | with_reducible exact cz6 (by with_reducible assumption) (by with_reducible assumption) (by with_reducible assumption) (by decide) | with_reducible exact lp1 (by with_reducible assumption) (by decide) | with_reducible exact le1 (by with_reducible assumption) | with_reducible exact le2 (by with_reducible assumption) | with_reducible exact Nat.le_succ _ | with_reducible exact leu (by with_reducible assumption) | with_reducible exact leu2 (by with_reducible assumption) | with_reducible exact zb1 (by with_reducible assumption) (by decide) | with_reducible exact zb2 (by with_reducible assumption) | with_reducible exact zb3 (by with_reducible assumption) (by decide) | with_reducible exact un1 (by with_reducible assumption) | with_reducible exact sl1 | with_reducible exact sl2 | with_reducible exact sl3 | with_reducible exact sl4 | with_reducible exact sl5 | omega)
  k_with "lt" => (first | with_reducible assumption | omega)
  trivial
section
variable {prog : Program} {w : World} {A : Around} {E : Value → Shared → Prop} {h₀ : Heap} {env : Env} {body : List Stmt} {Q : Flow → Shared → Prop} {s : Shared}
theorem allObj_of : ∀ {ws : List (Addr × String)} {k : Led → Prop}, (∀ its, Objs ws its → k its) → AllObj ws k := by
  intro ws
  induction ws with
  | nil => exact fun h => h [] trivial
  | cons w r ih => exact fun h o ho => ih fun its hi => h ((w.1, o) :: its) ⟨⟨rfl, ho⟩, hi⟩
/-- a for over a list of items, by an invariant over what is left -/
theorem items_ind {target : PySem.Expr} {ws : List (Addr × String)} {keep : Led} (Inv : List Itm → (Str → Option Value) → Led → Prop)
    (step : ∀ a r m news v h tk its, Inv (a :: r) m news → a.Is v h → Objs ws its → Fr h₀ env.locals h m → News h₀ env.locals h (its ++ news) →
      wpAny (model prog w) A (assign target env v) (fun _ s₂ => wpAny (model prog w) A (execs body env) (UnrPostW h₀ env.locals { s with heap := h, toks := tk } its (fun m' n' => SubL keep n' ∧ Inv r m' n') Q) E s₂) E { s with heap := h, toks := tk })
    (done : ∀ m news h tk, Inv [] m news → Fr h₀ env.locals h m → News h₀ env.locals h news → Q .next { s with heap := h, toks := tk }) :
    ∀ xs m news, Inv xs m news → ItemsRest prog w A E h₀ env target body Q s ws keep xs m news := by
  intro xs
  induction xs with
  | nil => exact fun m news hi h tk F N => done m news h tk hi F N
  | cons a r ih =>
    intro m news hi v h tk ha F
    refine allObj_of fun its ho N => wpAny_mono (step a r m news v h tk its hi ha ho F N) (fun _ s₂ h₂ => wpAny_mono h₂ (fun f s₃ h₃ => ?_) fun _ _ x => x) fun _ _ x => x
    have up : ∀ {s₃}, UnrEndW h₀ env.locals { s with heap := h, toks := tk } its (fun m' n' => SubL keep n' ∧ Inv r m' n') s₃ → UnrEndW h₀ env.locals { s with heap := h, toks := tk } its (fun m' n' => SubL keep n' ∧ ItemsRest prog w A E h₀ env target body Q s ws keep r m' n') s₃ :=
      fun ⟨h', tk', m', n', e, F', N', off, sub, hi'⟩ => ⟨h', tk', m', n', e, F', N', off, sub, ih m' n' hi'⟩
    cases f with
    | ret v => exact h₃
    | brk => exact h₃
    | next => exact up h₃
    | cont => exact up h₃
/-- a for over a range by ones, by an invariant over the turn's number -/
theorem range_ind {x : Str} {I : Addr} {a : Int} {n : Nat} (Inv : Nat → (Str → Option Value) → Led → Prop)
    (step : ∀ i m news t h tk, i < n → Inv i m news → Fr h₀ env.locals h (fun y => if y = x then some (.int (a + (i : Int)) t) else m y) →
      News h₀ env.locals h ((I, itR (a + ((i + 1 : Nat) : Int)) ((n : Int) - ((i + 1 : Nat) : Int))) :: news) →
      wpAny (model prog w) A (execs body env) (UnrPost h₀ env.locals { s with heap := h, toks := tk } I (itR (a + ((i + 1 : Nat) : Int)) ((n : Int) - ((i + 1 : Nat) : Int))) (fun m' n' => Inv (i + 1) m' n') Q) E { s with heap := h, toks := tk })
    (done : ∀ m news h tk, Inv n m news → Fr h₀ env.locals h m → News h₀ env.locals h news → Q .next { s with heap := h, toks := tk }) :
    ∀ k i m news, i + k = n → Inv i m news → RangeRest prog w A E h₀ env x body Q s I a n k i m news := by
  intro k
  induction k with
  | zero =>
    intro i m news e hi h tk F N
    have : i = n := by omega
    subst this
    exact done m news h tk hi F N
  | succ k ih =>
    intro i m news e hi t h tk F N
    refine wpAny_mono (step i m news t h tk (by omega) hi F N) (fun f s₃ h₃ => ?_) fun _ _ x => x
    have up : ∀ {s₃}, UnrEnd h₀ env.locals { s with heap := h, toks := tk } I (itR (a + ((i + 1 : Nat) : Int)) ((n : Int) - ((i + 1 : Nat) : Int))) (fun m' n' => Inv (i + 1) m' n') s₃ →
        UnrEnd h₀ env.locals { s with heap := h, toks := tk } I (itR (a + ((i + 1 : Nat) : Int)) ((n : Int) - ((i + 1 : Nat) : Int))) (RangeRest prog w A E h₀ env x body Q s I a n k (i + 1)) s₃ :=
      fun ⟨h', tk', m', n', e', F', N', off, hi'⟩ => ⟨h', tk', m', n', e', F', N', off, ih (i + 1) m' n' (by omega) hi'⟩
    cases f with
    | ret v => exact h₃
    | brk => exact h₃
    | next => exact up h₃
    | cont => exact up h₃
end
section
variable {prog : Program} {w : World} {A : Around} {h₀ : Heap} {L : Addr} {m : Str → Option Value} {env : Env} {elt : PySem.Expr} {x : Str} {scope : Scope} {cl : List (Str × Addr)} {s : Shared} {S : Led → Prop} {P : Nat → Value → Prop} {Fin : List Value → Led → Prop}
/-- a list comprehension, by an invariant over what is made -/
theorem comp_ind {n : Nat} (Inv : Nat → List Value → Led → Prop)
    (step : ∀ i ys news v I oI C oC D m₂ h tk (E' : Value → Shared → Prop), i < n → Inv i ys news → P i v → LCg.NsObj oC m₂ → m₂ x = some v → Fr h₀ L h m → News h₀ L h ((I, oI) :: (C, oC) :: (D, LCg.lst ys) :: news) → LCg.Off3 I C D news → ((@Ne Nat I C) ∧ (@Ne Nat I D) ∧ (@Ne Nat C D)) →
      wpAny (model prog w) A (eval elt (compEnvC scope cl C env)) (LCg.CompEnd h₀ L m { s with heap := h, toks := tk } I oI C oC D (LCg.lst ys) S (fun y news' => Inv (i + 1) (ys ++ [y]) news')) E' { s with heap := h, toks := tk })
    (done : ∀ ys news, Inv n ys news → Fin ys news) :
    ∀ k i ys news, i + k = n → Inv i ys news → LCg.CompRest prog w A h₀ L m env elt x scope cl s S P Fin k i ys news := by
  intro k
  induction k with
  | zero =>
    intro i ys news e hi
    have : i = n := by omega
    subst this
    exact done ys news hi
  | succ k ih =>
    intro i ys news e hi v I oI C oC D m₂ h tk E' hP hns hx F N off ne
    exact wpAny_mono (step i ys news v I oI C oC D m₂ h tk E' (by omega) hi hP hns hx F N off ne)
      (fun y s₂ ⟨h', tk', n', e', F', N', o', hS, r⟩ => ⟨h', tk', n', e', F', N', o', hS, ih (i + 1) _ n' (by omega) r⟩) fun _ _ x => x
end

end
end Mine
namespace Mine
section
theorem base33 : True := by
  k_with_none
  k_with "execs cons" => (k_here; (with_reducible refine wpAny_execs_cons ?_); (try dsimp only); k_fold)
  k_with "ne" => (first | with_reducible assumption | with_reducible exact Ne.symm (by with_reducible assumption) | with_reducible exact Nat.ne_of_gt (by with_reducible assumption) | with_reducible exact Nat.ne_of_lt (by with_reducible assumption) | with_reducible exact neu (by with_reducible assumption) | with_reducible exact neu' (by with_reducible assumption) | with_reducible exact neu2 (by with_reducible assumption) | with_reducible exact neu2' (by with_reducible assumption) | with_reducible exact Nat.ne_of_lt sl1 | with_reducible exact Nat.ne_of_lt sl2 | with_reducible exact Nat.ne_of_lt sl3 | with_reducible exact Nat.ne_of_lt sl4 | with_reducible exact Nat.ne_of_lt sl5 | with_reducible exact Nat.ne_of_gt sl1 | with_reducible exact Nat.ne_of_gt sl2 | with_reducible exact Nat.ne_of_gt sl3 | with_reducible exact Nat.ne_of_gt sl4 | with_reducible exact Nat.ne_of_gt sl5 | omega)
  k_with "lt2" => omega
  k_with "lt0" => (first | with_reducible assumption | omega)
  k_with "lt1" => omega
  k_with "om" => (first | with_reducible assumption | with_reducible exact Nat.le_of_ble_eq_true (by decide) | with_reducible exact ci0 | with_reducible exact ci1 | with_reducible exact cz0 (by with_reducible assumption) | with_reducible exact cz1 (by with_reducible assumption) | with_reducible exact cz2 (by with_reducible assumption) | with_reducible exact cz3 (by with_reducible assumption) | with_reducible exact lb1 (by with_reducible assumption) (by decide) | with_reducible exact lb4 (by with_reducible assumption) (by decide) | with_reducible exact lb2 (by with_reducible assumption) (by with_reducible assumption) (by decide) | with_reducible exact lb5 (by with_reducible assumption) (by with_reducible assumption) (by decide) | with_reducible exact ci4 (by with_reducible assumption) (by decide) | with_reducible exact ci5 (by with_reducible assumption) (by decide) | with_reducible exact cz4 (by with_reducible assumption) (by with_reducible assumption) | with_reducible exact cz5 (by with_reducible assumption) (by with_reducible assumption) | with_reducible exact cz6 (by with_reducible assumption) (by with_reducible assumption) (by with_reducible assumption) (by decide) | with_reducible exact lp1 (by with_reducible assumption) (by decide) | with_reducible exact le1 (by with_reducible assumption) | with_reducible exact le2 (by with_reducible assumption) | with_reducible exact Nat.le_succ _ | with_reducible exact leu (by with_reducible assumption) | with_reducible exact leu2 (by with_reducible assumption) | with_reducible exact zb1 (by with_reducible assumption) (by decide) | with_reducible exact zb2 (by with_reducible assumption) | with_reducible exact zb3 (by with_reducible assumption) (by decide) | with_reducible exact un1 (by with_reducible assumption) | with_reducible exact sl1 | with_reducible exact sl2 | with_reducible exact sl3 | with_reducible exact sl4 | with_reducible exact sl5 | omega)
  k_with "lt" => (first | with_reducible assumption | omega)
  trivial
/-- a line of the view: its cells, whether it is joined with the next one -/
inductive LineIn (P : Params) (news : Led) (v : Value) (x : List (Option Int) × Bool) : Prop
  | mk (ln dl cl n1 n2 sz t1 t2 t3 cs)
    (f0 : v = .ref ln)
    (f1 : (ln, instObj 338 dl) ∈ news)
    (f2 : (dl, dictOf (lineDict P t1 t2 t3 cl x.2 sz) n1) ∈ news)
    (f3 : (cl, listOf cs.toArray n2) ∈ news)
    (f4 : All2 (CellIn news) cs x.1) : LineIn P news v x
theorem LineIn.mono {P : Params} {news news' : Led} {v : Value} {x : List (Option Int) × Bool} (h : LineIn P news v x) (hs : ∀ p ∈ news, p ∈ news') : LineIn P news' v x :=
  let ⟨ln, dl, cl, n1, n2, sz, t1, t2, t3, cs, e, m1, m2, m3, m4⟩ := h
  ⟨ln, dl, cl, n1, n2, sz, t1, t2, t3, cs, e, hs _ m1, hs _ m2, hs _ m3, m4.mono fun _ _ c => c.mono hs⟩
abbrev viewDict (P : Params) (t₁ t₂ : Tok) (hi gr : Addr) : List DictEntry :=
  [⟨PyData.keyHash P (Str.ofString "history"), .str (Str.ofString "history") t₁, .ref hi⟩, ⟨PyData.keyHash P (Str.ofString "grid"), .str (Str.ofString "grid") t₂, .ref gr⟩]
abbrev histDict (P : Params) (t₁ t₂ t₃ : Tok) (v1 v3 : Value) (hl : Addr) : List DictEntry :=
  [⟨PyData.keyHash P (Str.ofString "most"), .str (Str.ofString "most") t₁, v1⟩, ⟨PyData.keyHash P (Str.ofString "lines"), .str (Str.ofString "lines") t₂, .ref hl⟩, ⟨PyData.keyHash P (Str.ofString "gone"), .str (Str.ofString "gone") t₃, v3⟩]
abbrev gridDict (P : Params) (t₁ t₂ t₃ : Tok) (v1 v2 : Value) (gl : Addr) : List DictEntry :=
  [⟨PyData.keyHash P (Str.ofString "rows"), .str (Str.ofString "rows") t₁, v1⟩, ⟨PyData.keyHash P (Str.ofString "columns"), .str (Str.ofString "columns") t₂, v2⟩, ⟨PyData.keyHash P (Str.ofString "lines"), .str (Str.ofString "lines") t₃, .ref gl⟩]
abbrev Rows := List (List (Option Int) × Bool)
inductive ViewIn (P : Params) (news : Led) (vw : Addr) (rows : Rows) : Prop
  | mk (dv hi dh hl gr dg gl hvs gvs n1 n2 n3 n4 n5 t1 t2 t3 t4 t5 t6 t7 t8 v1 v3 v4 v5)
    (f0 : (vw, instObj 135 dv) ∈ news)
    (f1 : (dv, dictOf (viewDict P t1 t2 hi gr) n1) ∈ news)
    (f2 : (hi, instObj 559 dh) ∈ news)
    (f3 : (dh, dictOf (histDict P t3 t4 t5 v1 v3 hl) n2) ∈ news)
    (f4 : (hl, listOf hvs.toArray n3) ∈ news)
    (f5 : (gr, instObj 489 dg) ∈ news)
    (f6 : (dg, dictOf (gridDict P t6 t7 t8 v4 v5 gl) n4) ∈ news)
    (f7 : (gl, listOf gvs.toArray n5) ∈ news)
    (f8 : All2 (LineIn P news) (hvs ++ gvs) rows)
    (f9 : rows.length ≤ 4)
    (f10 : gvs.length = 2) : ViewIn P news vw rows
theorem ViewIn.mono {P : Params} {news news' : Led} {vw : Addr} {rows : Rows} (h : ViewIn P news vw rows) (hs : ∀ p ∈ news, p ∈ news') : ViewIn P news' vw rows := by
  obtain ⟨dv, hi, dh, hl, gr, dg, gl, hvs, gvs, n1, n2, n3, n4, n5, t1, t2, t3, t4, t5, t6, t7, t8, v1, v3, v4, v5, m1, m2, m3, m4, m5, m6, m7, m8, a, b, c⟩ := h
  exact ⟨dv, hi, dh, hl, gr, dg, gl, hvs, gvs, n1, n2, n3, n4, n5, t1, t2, t3, t4, t5, t6, t7, t8, v1, v3, v4, v5, hs _ m1, hs _ m2, hs _ m3, hs _ m4, hs _ m5, hs _ m6, hs _ m7, hs _ m8, a.mono fun _ _ q => q.mono hs, b, c⟩
theorem All2.at {α β : Type} {R : α → β → Prop} {l : List α} {r : List β} (h : All2 R l r) : ∀ (i : Nat) b, r[i]? = some b → ∃ a, l[i]? = some a ∧ R a b := by
  induction h with
  | nil => intro i b e; simp at e
  | cons hab _ ih =>
    intro i b e
    cases i with
    | zero => simp at e; exact ⟨_, rfl, e ▸ hab⟩
    | succ i => simp at e; simpa using ih i b e
section
variable {w : World} {loose : List Str} {mean : ExcName → Option Value} {mg mb : Str → Option Value}
theorem rules33_1 : True := by
  k_with "k_enter" => ((refine' code_def ?q46k1 ?q46k2 ?q46k3 ?q46k4 ?q46k5 ?q46kA ?q46kF ?q46kK ?q46k6 ?q46k7 ?q46k8 ?q46k9 ?q46kB ?_ ?q46c2 ?q46c3 ?q46c4 ?q46c5; (case q46kA => exact rfl); (case q46kF => assumption); (case q46kK => assumption); (case q46k1 => k_asm); (case q46k2 => k_asm); (case q46k3 => k_asm); (case q46k4 => k_asm); (case q46k5 => k_asm); (case q46k6 => k_is); (case q46k7 => k_is); (case q46k8 => k_room); (case q46k9 => first | exact BindsTo.of_eq rfl | exact binds_K (by k_in) rfl (by k_is) rfl rfl rfl); (case q46c5 => decide); (case q46kB => exact locs rfl); (case q46c2 => exact rfl); (case q46c3 => exact rfl); (case q46c4 => exact rfl); k_whole; intro _ _ _ _ _ _ B' _ _; (try dsimp only); (try k_lift B'); (try k_fold)))
  k_with "eval Name" => ((k_dflt (first
  | (refine' nameX_L ?q47F ?q47v ?_ ?q47a ?q47b; (case q47F => k_asm); (case q47a => exact rfl); (case q47b => exact rfl); (case q47v => exact rfl); k_whole)
  | (refine' nameX_K ?q47F ?q47X ?q47T ?q47e ?_ ?q47a ?q47b; (case q47F => k_asm); (case q47X => k_asm); (case q47T => k_asm); (case q47a => exact rfl); (case q47b => exact rfl); (case q47e => k_is); k_whole))))
  k_with "k_mem" => (((repeat (refine' List.mem_cons_of_mem _ ?_)); with_reducible assumption))
  k_with "subscriptTail Name Constant ref int" => ((k_dflt (refine tup_at (by k_asm) (by k_mem) (by decide) (by decide) (by rfl) ?_)))
  k_with "subscriptTail Subscript Constant ref int" => ((k_dflt (refine tup_at (by k_asm) (by k_mem) (by decide) (by decide) (by rfl) ?_)))
  k_with "ite" => ((first | (refine ite_pos (by with_reducible assumption) ?_) | (refine ite_neg (by with_reducible assumption) ?_) | (refine ite_pos (by simp only [beq_iff_eq, bne_iff_ne, beq_eq_false_iff_ne, decide_eq_true_eq, decide_eq_false_iff_not, Bool.not_eq_true', Bool.not_eq_false']; omega) ?_) | (refine ite_neg (by simp only [beq_iff_eq, bne_iff_ne, beq_eq_false_iff_ne, decide_eq_true_eq, decide_eq_false_iff_not, Bool.not_eq_true', Bool.not_eq_false']; omega) ?_)))
  k_with "call builtin:len" => ((k_here; (with_reducible show wpAny _ _ (call (Value.builtin "len") [Value.ref _]) _ _ _); k_dflt (refine len_listK (by k_asm) (by k_mem) (by omega) ?_); intro _ _))
  trivial
theorem view_above {news : Led} {vw : Addr} {dv hi dh hl : Addr} {gr : Addr} {hvs : List Value} {n1 n2 n3 : Nat} {t1 t2 t3 t4 t5 : Tok} {v1 v3 : Value}
    (m1 : (vw, instObj 135 dv) ∈ news) (m2 : (dv, dictOf (viewDict w.params t1 t2 hi gr) n1) ∈ news) (m3 : (hi, instObj 559 dh) ∈ news) (m4 : (dh, dictOf (histDict w.params t3 t4 t5 v1 v3 hl) n2) ∈ news) (m5 : (hl, listOf hvs.toArray n3) ∈ news) (hz : hvs.length ≤ 4) :
    Spec w loose mean mg mb 590 590 97 [.ref vw] news (fun v n' => ∃ t, v = .int hvs.length t ∧ n' = news) := by
  intro gd env outer A₀ base h₀ L m s Q E hf hk B F X N T hret
  refine wpAny_call ?_
  k_dflt k_enter
  k_steps
  exact hret _ _ _ _ ⟨_, rfl, rfl⟩ (by k_asm) (by k_asm)
theorem above_use {news : Led} {vw : Addr} {rows : Rows} (H : ViewIn w.params news vw rows) : ∃ a : Nat, a ≤ rows.length ∧ rows.length = a + 2 ∧ Spec w loose mean mg mb 590 590 97 [.ref vw] news (fun v n' => ∃ t, v = .int a t ∧ n' = news) := by
  obtain ⟨dv, hi, dh, hl, gr, dg, gl, hvs, gvs, n1, n2, n3, n4, n5, t1, t2, t3, t4, t5, t6, t7, t8, v1, v3, v4, v5, m1, m2, m3, m4, m5, m6, m7, m8, a, b, c⟩ := H
  have e := a.length
  rw [List.length_append] at e
  exact ⟨hvs.length, by omega, by omega, view_above m1 m2 m3 m4 m5 (by omega)⟩
end

end
end Mine
namespace Mine
section
theorem base34 : True := by
  k_with_none
  k_with "execs cons" => (k_here; (with_reducible refine wpAny_execs_cons ?_); (try dsimp only); k_fold)
  k_with "ne" => (first | with_reducible assumption | with_reducible exact Ne.symm (by with_reducible assumption) | with_reducible exact Nat.ne_of_gt (by with_reducible assumption) | with_reducible exact Nat.ne_of_lt (by with_reducible assumption) | with_reducible exact neu (by with_reducible assumption) | with_reducible exact neu' (by with_reducible assumption) | with_reducible exact neu2 (by with_reducible assumption) | with_reducible exact neu2' (by with_reducible assumption) | with_reducible exact Nat.ne_of_lt sl1 | with_reducible exact Nat.ne_of_lt sl2 | with_reducible exact Nat.ne_of_lt sl3 | with_reducible exact Nat.ne_of_lt sl4 | with_reducible exact Nat.ne_of_lt sl5 | with_reducible exact Nat.ne_of_gt sl1 | with_reducible exact Nat.ne_of_gt sl2 | with_reducible exact Nat.ne_of_gt sl3 | with_reducible exact Nat.ne_of_gt sl4 | with_reducible exact Nat.ne_of_gt sl5 | omega)
  k_with "lt2" => omega
  k_with "lt0" => (first | with_reducible assumption | omega)
  k_with "lt1" => omega
  k_with "om" => (first | with_reducible assumption | with_reducible exact Nat.le_of_ble_eq_true (by decide) | with_reducible exact ci0 | with_reducible exact ci1 | with_reducible exact cz0 (by with_reducible assumption) | with_reducible exact cz1 (by with_reducible assumption) | with_reducible exact cz2 (by with_reducible assumption) | with_reducible exact cz3 (by with_reducible assumption) | with_reducible exact lb1 (by with_reducible assumption) (by decide) | with_reducible exact lb4 (by with_reducible assumption) (by decide) | with_reducible exact lb2 (by with_reducible assumption) (by with_reducible assumption) (by decide) | with_reducible exact lb5 (by with_reducible assumption) (by with_reducible assumption) (by decide) | with_reducible exact ci4 (by with_reducible assumption) (by decide) | with_reducible exact ci5 (by with_reducible assumption) (by decide) | with_reducible exact cz4 (by with_reducible assumption) (by with_reducible assumption) | with_reducible exact cz5 (by with_reducible assumption) (by with_reducible assumption) | with_reducible exact cz6 (by with_reducible assumption) (by with_reducible assumption) (by with_reducible assumption) (by decide) | with_reducible exact lp1 (by with_reducible assumption) (by decide) | with_reducible exact le1 (by with_reducible assumption) | with_reducible exact le2 (by with_reducible assumption) | with_reducible exact Nat.le_succ _ | with_reducible exact leu (by with_reducible assumption) | with_reducible exact leu2 (by with_reducible assumption) | with_reducible exact zb1 (by with_reducible assumption) (by decide) | with_reducible exact zb2 (by with_reducible assumption) | with_reducible exact zb3 (by with_reducible assumption) (by decide) | with_reducible exact un1 (by with_reducible assumption) | with_reducible exact sl1 | with_reducible exact sl2 | with_reducible exact sl3 | with_reducible exact sl4 | with_reducible exact sl5 | omega)
  k_with "lt" => (first | with_reducible assumption | omega)
  trivial
section
variable {w : World} {loose : List Str} {mean : ExcName → Option Value} {mg mb : Str → Option Value}
theorem rules34_1 : True := by
  k_with "k_enter" => ((refine' code_def ?q53k1 ?q53k2 ?q53k3 ?q53k4 ?q53k5 ?q53kA ?q53kF ?q53kK ?q53k6 ?q53k7 ?q53k8 ?q53k9 ?q53kB ?_ ?q53c2 ?q53c3 ?q53c4 ?q53c5; (case q53kA => exact rfl); (case q53kF => assumption); (case q53kK => assumption); (case q53k1 => k_asm); (case q53k2 => k_asm); (case q53k3 => k_asm); (case q53k4 => k_asm); (case q53k5 => k_asm); (case q53k6 => k_is); (case q53k7 => k_is); (case q53k8 => k_room); (case q53k9 => first | exact BindsTo.of_eq rfl | exact binds_K (by k_in) rfl (by k_is) rfl rfl rfl); (case q53c5 => decide); (case q53kB => exact locs rfl); (case q53c2 => exact rfl); (case q53c3 => exact rfl); (case q53c4 => exact rfl); k_whole; intro _ _ _ _ _ _ B' _ _; (try dsimp only); (try k_lift B'); (try k_fold)))
  k_with "eval Name" => ((k_dflt (first
  | (refine' nameX_L ?q54F ?q54v ?_ ?q54a ?q54b; (case q54F => k_asm); (case q54a => exact rfl); (case q54b => exact rfl); (case q54v => exact rfl); k_whole)
  | (refine' nameX_K ?q54F ?q54X ?q54T ?q54e ?_ ?q54a ?q54b; (case q54F => k_asm); (case q54X => k_asm); (case q54T => k_asm); (case q54a => exact rfl); (case q54b => exact rfl); (case q54e => k_is); k_whole))))
  k_with "k_mem" => (((repeat (refine' List.mem_cons_of_mem _ ?_)); with_reducible assumption))
  k_with "subscriptTail Name Constant ref int" => ((k_dflt (refine tup_at (by k_asm) (by k_mem) (by decide) (by decide) (by rfl) ?_)))
  k_with "subscriptTail Subscript Constant ref int" => ((k_dflt (refine tup_at (by k_asm) (by k_mem) (by decide) (by decide) (by rfl) ?_)))
  k_with "ite" => ((first | (refine ite_pos (by with_reducible assumption) ?_) | (refine ite_neg (by with_reducible assumption) ?_) | (refine ite_pos (by simp only [beq_iff_eq, bne_iff_ne, beq_eq_false_iff_ne, decide_eq_true_eq, decide_eq_false_iff_not, Bool.not_eq_true', Bool.not_eq_false']; omega) ?_) | (refine ite_neg (by simp only [beq_iff_eq, bne_iff_ne, beq_eq_false_iff_ne, decide_eq_true_eq, decide_eq_false_iff_not, Bool.not_eq_true', Bool.not_eq_false']; omega) ?_)))
  k_with "call builtin:len" => ((k_here; (with_reducible show wpAny _ _ (call (Value.builtin "len") [Value.ref _]) _ _ _); k_dflt (refine len_listK (by k_asm) (by k_mem) (by k_extra "om") ?_); intro _ _))
  k_with "call ref" => ((k_here; k_dflt (
  refine' Spec.use ?q60C ?q60d1 ?q60d2 ?q60d3 ?q60kA ?q60kF ?q60kK ?q60k1 ?q60k2 ?q60k3 ?q60k4 ?q60k5 ?_
  (case q60kA => exact rfl); (case q60kF => first | exact rfl | assumption); (case q60kK => first | exact rfl | assumption); (case q60k1 => k_asm); (case q60k2 => k_asm); (case q60k3 => k_asm); (case q60k4 => k_asm); (case q60k5 => k_asm)
  (case q60C => (with_reducible assumption))
  (case q60d3 => exact rfl); (case q60d1 => exact Nat.le_of_ble_eq_true rfl); (case q60d2 => exact Nat.le_of_ble_eq_true rfl)
  intro v' n' h' tk' po F' N'; obtain ⟨t', e1, e2⟩ := po; subst e1; subst n'; (try dsimp only at N'); (try k_sweep))))
  k_with "subscriptTail" => ((k_here; (with_reducible show wpAny _ _ (subscriptTail _ _ (Value.ref _) (Value.int _ _)) _ _ _); k_dflt (refine list_at (by k_asm) (by k_mem) (by k_extra "om") (by k_extra "om") (by assumption) ?_)))
  trivial
theorem view_rows {news : Led} {vw : Addr} {rows : Rows} (H : ViewIn w.params news vw rows) : Spec w loose mean mg mb 585 585 104 [.ref vw] news (fun v n' => ∃ t, v = .int rows.length t ∧ n' = news) := by
  obtain ⟨dv, hi, dh, hl, gr, dg, gl, hvs, gvs, n1, n2, n3, n4, n5, t1, t2, t3, t4, t5, t6, t7, t8, v1, v3, v4, v5, m1, m2, m3, m4, m5, m6, m7, m8, a, b, c⟩ := H
  have e := a.length
  rw [List.length_append] at e
  have SA := view_above (w := w) (loose := loose) (mean := mean) (mg := mg) (mb := mb) m1 m2 m3 m4 m5 (by k_extra "om")
  have e' : (rows.length : Int) = (hvs.length : Int) + gvs.length := by k_extra "om"
  rw [e']
  clear a
  intro gd env outer A₀ base h₀ L m s Q E hf hk B F X N T hret
  refine wpAny_call ?_
  k_dflt k_enter
  k_steps
  exact hret _ _ _ _ ⟨_, rfl, rfl⟩ (by k_asm) (by k_asm)
theorem view_line2 {old news : Led} {vw : Addr} {rows : Rows} (H : ViewIn w.params old vw rows) (hs : ∀ p ∈ old, p ∈ news) {i : Int} {t : Tok} {x : List (Option Int) × Bool} (h0 : 0 ≤ i) (hx : rows[i.toNat]? = some x) :
    Spec w loose mean mg mb 585 585 111 [.ref vw, .int i t] news (fun v n' => LineIn w.params old v x ∧ n' = news) := by
  obtain ⟨dv, hi, dh, hl, gr, dg, gl, hvs, gvs, n1, n2, n3, n4, n5, t1, t2, t3, t4, t5, t6, t7, t8, v1, v3, v4, v5, m1, m2, m3, m4, m5, m6, m7, m8, a, b, c⟩ := H
  replace m1 := hs _ m1
  replace m2 := hs _ m2
  replace m3 := hs _ m3
  replace m4 := hs _ m4
  replace m5 := hs _ m5
  replace m6 := hs _ m6
  replace m7 := hs _ m7
  replace m8 := hs _ m8
  have e := a.length
  rw [List.length_append] at e
  have SA := view_above (w := w) (loose := loose) (mean := mean) (mg := mg) (mb := mb) m1 m2 m3 m4 m5 (by k_extra "om")
  obtain ⟨v, hv, hin⟩ := a.at _ _ hx
  have hb : i.toNat < rows.length := by
    rcases Nat.lt_or_ge i.toNat rows.length with q | q
    · exact q
    · rw [List.getElem?_eq_none q] at hx; cases hx
  clear a hx
  by_cases hlt : i < hvs.length
  · have hv' : hvs[i.toNat]? = some v := by rw [List.getElem?_append_left (by k_extra "om")] at hv; exact hv
    clear hv
    intro gd env outer A₀ base h₀ L m s Q E hf hk B F X N T hret
    refine wpAny_call ?_
    k_dflt k_enter
    k_steps
    exact hret _ _ _ _ ⟨hin, rfl⟩ (by k_asm) (by k_asm)
  · have hv' : gvs[(i - hvs.length).toNat]? = some v := by
      rw [List.getElem?_append_right (by k_extra "om")] at hv
      rw [← hv]; congr 1; k_extra "om"
    clear hv
    intro gd env outer A₀ base h₀ L m s Q E hf hk B F X N T hret
    refine wpAny_call ?_
    k_dflt k_enter
    k_steps
    exact hret _ _ _ _ ⟨hin, rfl⟩ (by k_asm) (by k_asm)
theorem view_line {news : Led} {vw : Addr} {rows : Rows} (H : ViewIn w.params news vw rows) {i : Int} {t : Tok} {x : List (Option Int) × Bool} (h0 : 0 ≤ i) (hx : rows[i.toNat]? = some x) :
    Spec w loose mean mg mb 585 585 111 [.ref vw, .int i t] news (fun v n' => LineIn w.params news v x ∧ n' = news) := view_line2 H (fun _ h => h) h0 hx
end
theorem ViewIn.obj {P : Params} {news : Led} {vw : Addr} {rows : Rows} (H : ViewIn P news vw rows) : ∃ dv hi gr n1 t1 t2, (vw, instObj 135 dv) ∈ news ∧ (dv, dictOf (viewDict P t1 t2 hi gr) n1) ∈ news := by
  obtain ⟨dv, hi, dh, hl, gr, dg, gl, hvs, gvs, n1, n2, n3, n4, n5, t1, t2, t3, t4, t5, t6, t7, t8, v1, v3, v4, v5, m1, m2, -⟩ := H
  exact ⟨dv, hi, gr, n1, t1, t2, m1, m2⟩
def joined (rows : Rows) (i : Int) : Bool := decide (i + 1 < rows.length) && ((rows[i.toNat]?).map (·.2)).getD false
section
variable {w : World} {loose : List Str} {mean : ExcName → Option Value} {mg mb : Str → Option Value}
theorem rules34_2 : True := by
  k_with_none
  k_with "execs cons" => (k_here; (with_reducible refine wpAny_execs_cons ?_); (try dsimp only); k_fold)
  k_with "ne" => (first | with_reducible assumption | with_reducible exact Ne.symm (by with_reducible assumption) | with_reducible exact Nat.ne_of_gt (by with_reducible assumption) | with_reducible exact Nat.ne_of_lt (by with_reducible assumption) | with_reducible exact neu (by with_reducible assumption) | with_reducible exact neu' (by with_reducible assumption) | with_reducible exact neu2 (by with_reducible assumption) | with_reducible exact neu2' (by with_reducible assumption) | with_reducible exact Nat.ne_of_lt sl1 | with_reducible exact Nat.ne_of_lt sl2 | with_reducible exact Nat.ne_of_lt sl3 | with_reducible exact Nat.ne_of_lt sl4 | with_reducible exact Nat.ne_of_lt sl5 | with_reducible exact Nat.ne_of_gt sl1 | with_reducible exact Nat.ne_of_gt sl2 | with_reducible exact Nat.ne_of_gt sl3 | with_reducible exact Nat.ne_of_gt sl4 | with_reducible exact Nat.ne_of_gt sl5 | omega)
  k_with "lt2" => omega
  k_with "lt0" => (first | with_reducible assumption | omega)
  k_with "lt1" => omega
  k_with "om" => (first | with_reducible assumption | with_reducible exact Nat.le_of_ble_eq_true (by decide) | with_reducible exact ci0 | with_reducible exact ci1 | with_reducible exact cz0 (by with_reducible assumption) | with_reducible exact cz1 (by with_reducible assumption) | with_reducible exact cz2 (by with_reducible assumption) | with_reducible exact cz3 (by with_reducible assumption) | with_reducible exact lb1 (by with_reducible assumption) (by decide) | with_reducible exact lb4 (by with_reducible assumption) (by decide) | with_reducible exact lb2 (by with_reducible assumption) (by with_reducible assumption) (by decide) | with_reducible exact lb5 (by with_reducible assumption) (by with_reducible assumption) (by decide) | with_reducible exact ci4 (by with_reducible assumption) (by decide) | with_reducible exact ci5 (by with_reducible assumption) (by decide) | with_reducible exact cz4 (by with_reducible assumption) (by with_reducible assumption) | with_reducible exact cz5 (by with_reducible assumption) (by with_reducible assumption) | with_reducible exact cz6 (by with_reducible assumption) (by with_reducible assumption) (by with_reducible assumption) (by decide) | with_reducible exact lp1 (by with_reducible assumption) (by decide) | with_reducible exact le1 (by with_reducible assumption) | with_reducible exact le2 (by with_reducible assumption) | with_reducible exact Nat.le_succ _ | with_reducible exact leu (by with_reducible assumption) | with_reducible exact leu2 (by with_reducible assumption) | with_reducible exact zb1 (by with_reducible assumption) (by decide) | with_reducible exact zb2 (by with_reducible assumption) | with_reducible exact zb3 (by with_reducible assumption) (by decide) | with_reducible exact un1 (by with_reducible assumption) | with_reducible exact sl1 | with_reducible exact sl2 | with_reducible exact sl3 | with_reducible exact sl4 | with_reducible exact sl5 | omega)
  k_with "lt" => (first | with_reducible assumption | omega)
  k_with "k_enter" => ((refine' code_def ?q62k1 ?q62k2 ?q62k3 ?q62k4 ?q62k5 ?q62kA ?q62kF ?q62kK ?q62k6 ?q62k7 ?q62k8 ?q62k9 ?q62kB ?_ ?q62c2 ?q62c3 ?q62c4 ?q62c5; (case q62kA => exact rfl); (case q62kF => assumption); (case q62kK => assumption); (case q62k1 => k_asm); (case q62k2 => k_asm); (case q62k3 => k_asm); (case q62k4 => k_asm); (case q62k5 => k_asm); (case q62k6 => k_is); (case q62k7 => k_is); (case q62k8 => k_room); (case q62k9 => first | exact BindsTo.of_eq rfl | exact binds_K (by k_in) rfl (by k_is) rfl rfl rfl); (case q62c5 => decide); (case q62kB => exact locs rfl); (case q62c2 => exact rfl); (case q62c3 => exact rfl); (case q62c4 => exact rfl); k_whole; intro _ _ _ _ _ _ B' _ _; (try dsimp only); (try k_lift B'); (try k_fold)))
  k_with "eval Name" => ((k_dflt (first
  | (refine' nameX_L ?q63F ?q63v ?_ ?q63a ?q63b; (case q63F => k_asm); (case q63a => exact rfl); (case q63b => exact rfl); (case q63v => exact rfl); k_whole)
  | (refine' nameX_K ?q63F ?q63X ?q63T ?q63e ?_ ?q63a ?q63b; (case q63F => k_asm); (case q63X => k_asm); (case q63T => k_asm); (case q63a => exact rfl); (case q63b => exact rfl); (case q63e => k_is); k_whole))))
  k_with "k_mem" => (((repeat (refine' List.mem_cons_of_mem _ ?_)); with_reducible assumption))
  k_with "subscriptTail Name Constant ref int" => ((k_dflt (refine tup_at (by k_asm) (by k_mem) (by decide) (by decide) (by rfl) ?_)))
  k_with "subscriptTail Subscript Constant ref int" => ((k_dflt (refine tup_at (by k_asm) (by k_mem) (by decide) (by decide) (by rfl) ?_)))
  k_with "ite" => ((first | (refine ite_pos (by with_reducible assumption) ?_) | (refine ite_neg (by with_reducible assumption) ?_) | (refine ite_pos (by simp only [beq_iff_eq, bne_iff_ne, beq_eq_false_iff_ne, decide_eq_true_eq, decide_eq_false_iff_not, Bool.not_eq_true', Bool.not_eq_false']; omega) ?_) | (refine ite_neg (by simp only [beq_iff_eq, bne_iff_ne, beq_eq_false_iff_ne, decide_eq_true_eq, decide_eq_false_iff_not, Bool.not_eq_true', Bool.not_eq_false']; omega) ?_)))
  k_with "call ref" => ((k_here; k_dflt (first
  | (refine' Spec.use (f := 104) ?q68C ?q68d1 ?q68d2 ?q68d3 ?q68kA ?q68kF ?q68kK ?q68k1 ?q68k2 ?q68k3 ?q68k4 ?q68k5 ?_; (case q68kA => exact rfl); (case q68kF => first | exact rfl | assumption); (case q68kK => first | exact rfl | assumption); (case q68k1 => k_asm); (case q68k2 => k_asm); (case q68k3 => k_asm); (case q68k4 => k_asm); (case q68k5 => k_asm); (case q68C => exact view_rows (by assumption)); (case q68d3 => exact rfl); (case q68d1 => exact Nat.le_of_ble_eq_true rfl); (case q68d2 => exact Nat.le_of_ble_eq_true rfl); intro v' n' _ _ po _ _; refine cutP fun R' hR' => ?_; obtain ⟨t', e1, e2⟩ := po; subst e1; subst n'; refine hR' ?_; clear hR' R'; kaf_suf; (try k_sweep))
  | (refine' Spec.use (f := 111) ?q68C ?q68d1 ?q68d2 ?q68d3 ?q68kA ?q68kF ?q68kK ?q68k1 ?q68k2 ?q68k3 ?q68k4 ?q68k5 ?_; (case q68kA => exact rfl); (case q68kF => first | exact rfl | assumption); (case q68kK => first | exact rfl | assumption); (case q68k1 => k_asm); (case q68k2 => k_asm); (case q68k3 => k_asm); (case q68k4 => k_asm); (case q68k5 => k_asm); (case q68C => exact view_line (by assumption) (by assumption) (by assumption)); (case q68d3 => exact rfl); (case q68d1 => exact Nat.le_of_ble_eq_true rfl); (case q68d2 => exact Nat.le_of_ble_eq_true rfl); intro v' n' _ _ po _ _; refine cutP fun R' hR' => ?_; obtain ⟨⟨q1, q2, q3, q4, q5, q6, q7, q8, q9, q10, e1, f1, f2, f3, f4⟩, e2⟩ := po; subst e1; subst n'; refine hR' ?_; clear hR' R'; kaf_suf; (try k_sweep)))))
  trivial
theorem view_joined {news : Led} {vw : Addr} {rows : Rows} (H : ViewIn w.params news vw rows) {i : Int} {t : Tok} (h0 : 0 ≤ i) (h1 : i < rows.length) :
    Spec w loose mean mg mb 580 580 118 [.ref vw, .int i t] news (fun v n' => v = .bool (joined rows i) ∧ n' = news) := by
  obtain ⟨dv, hi, gr, n1, t1, t2, m1, m2⟩ := H.obj
  obtain ⟨x, hx⟩ : ∃ x, rows[i.toNat]? = some x := ⟨_, List.getElem?_eq_getElem (by k_extra "om")⟩
  intro gd env outer A₀ base h₀ L m s Q E hf hk B F X N T hret
  by_cases hlt : i + 1 < rows.length
  · have e : joined rows i = x.2 := by unfold joined; rw [hx]; simp [hlt]
    rw [e] at hret
    refine wpAny_call ?_
    k_dflt k_enter
    k_steps
    exact hret _ _ _ _ ⟨rfl, rfl⟩ (by k_asm) (by k_asm)
  · have e : joined rows i = false := by unfold joined; rw [decide_eq_false hlt]; rfl
    rw [e] at hret
    refine wpAny_call ?_
    k_dflt k_enter
    k_steps
    exact hret _ _ _ _ ⟨by rw [decide_eq_false (by k_extra "om")], rfl⟩ (by k_asm) (by k_asm)
end

end
end Mine
namespace Mine
section
theorem base35 : True := by
  k_with_none
  k_with "execs cons" => (k_here; (with_reducible refine wpAny_execs_cons ?_); (try dsimp only); k_fold)
  k_with "ne" => (first | with_reducible assumption | with_reducible exact Ne.symm (by with_reducible assumption) | with_reducible exact Nat.ne_of_gt (by with_reducible assumption) | with_reducible exact Nat.ne_of_lt (by with_reducible assumption) | with_reducible exact neu (by with_reducible assumption) | with_reducible exact neu' (by with_reducible assumption) | with_reducible exact neu2 (by with_reducible assumption) | with_reducible exact neu2' (by with_reducible assumption) | with_reducible exact Nat.ne_of_lt sl1 | with_reducible exact Nat.ne_of_lt sl2 | with_reducible exact Nat.ne_of_lt sl3 | with_reducible exact Nat.ne_of_lt sl4 | with_reducible exact Nat.ne_of_lt sl5 | with_reducible exact Nat.ne_of_gt sl1 | with_reducible exact Nat.ne_of_gt sl2 | with_reducible exact Nat.ne_of_gt sl3 | with_reducible exact Nat.ne_of_gt sl4 | with_reducible exact Nat.ne_of_gt sl5 | omega)
  k_with "lt2" => omega
  k_with "lt0" => (first | with_reducible assumption | omega)
  k_with "lt1" => omega
  k_with "om" => (first | with_reducible assumption | with_reducible exact Nat.le_of_ble_eq_true (by decide) | with_reducible exact ci0 | with_reducible exact ci1 | with_reducible exact cz0 (by with_reducible assumption) | with_reducible exact cz1 (by with_reducible assumption) | with_reducible exact cz2 (by with_reducible assumption) | with_reducible exact cz3 (by with_reducible assumption) | with_reducible exact lb1 (by with_reducible assumption) (by decide) | with_reducible exact lb4 (by with_reducible assumption) (by decide) | with_reducible exact lb2 (by with_reducible assumption) (by with_reducible assumption) (by decide) | with_reducible exact lb5 (by with_reducible assumption) (by with_reducible assumption) (by decide) | with_reducible exact ci4 (by with_reducible assumption) (by decide) | with_reducible exact ci5 (by with_reducible assumption) (by decide) | with_reducible exact cz4 (by with_reducible assumption) (by with_reducible assumption) | with_reducible exact cz5 (by with_reducible assumption) (by with_reducible assumption) | with_reducible exact cz6 (by with_reducible assumption) (by with_reducible assumption) (by with_reducible assumption) (by decide) | with_reducible exact lp1 (by with_reducible assumption) (by decide) | with_reducible exact le1 (by with_reducible assumption) | with_reducible exact le2 (by with_reducible assumption) | with_reducible exact Nat.le_succ _ | with_reducible exact leu (by with_reducible assumption) | with_reducible exact leu2 (by with_reducible assumption) | with_reducible exact zb1 (by with_reducible assumption) (by decide) | with_reducible exact zb2 (by with_reducible assumption) | with_reducible exact zb3 (by with_reducible assumption) (by decide) | with_reducible exact un1 (by with_reducible assumption) | with_reducible exact sl1 | with_reducible exact sl2 | with_reducible exact sl3 | with_reducible exact sl4 | with_reducible exact sl5 | omega)
  k_with "lt" => (first | with_reducible assumption | omega)
  trivial
theorem All2.four {α β : Type} {R : α → β → Prop} {cs : List α} {x0 x1 x2 x3 : β} (h : All2 R cs [x0, x1, x2, x3]) : ∃ c0 c1 c2 c3, cs = [c0, c1, c2, c3] ∧ R c0 x0 ∧ R c1 x1 ∧ R c2 x2 ∧ R c3 x3 := by
  cases h with | cons a h => cases h with | cons b h => cases h with | cons c h => cases h with | cons d h => cases h; exact ⟨_, _, _, _, rfl, a, b, c, d⟩
theorem LineIn.four {P : Params} {news : Led} {v : Value} {x0 x1 x2 x3 : Option Int} {j : Bool} (h : LineIn P news v ([x0, x1, x2, x3], j)) :
    ∃ ln dl cl n1 n2 sz t1 t2 t3 c0 c1 c2 c3, v = .ref ln ∧ (ln, instObj 338 dl) ∈ news ∧ (dl, dictOf (lineDict P t1 t2 t3 cl j sz) n1) ∈ news ∧ (cl, listOf [c0, c1, c2, c3].toArray n2) ∈ news ∧ CellIn news c0 x0 ∧ CellIn news c1 x1 ∧ CellIn news c2 x2 ∧ CellIn news c3 x3 := by
  obtain ⟨ln, dl, cl, n1, n2, sz, t1, t2, t3, cs, e, m1, m2, m3, m4⟩ := h
  obtain ⟨c0, c1, c2, c3, rfl, a, b, c, d⟩ := m4.four
  exact ⟨ln, dl, cl, n1, n2, sz, t1, t2, t3, c0, c1, c2, c3, e, m1, m2, m3, a, b, c, d⟩
theorem CellIn.wide {news : Led} {v : Value} {x : Option Int} (h : CellIn news v x) : ∃ c e vp vq tw wd, v = .ref c ∧ (c, tupOf [.ref e, .int wd tw, vp, vq]) ∈ news ∧ (wd = 2 ↔ x = some 19968) ∧ (wd = 0 ↔ x = none) := by
  obtain ⟨c, e, vp, vq, tw, es, a, m, -, -⟩ := h
  refine ⟨c, e, vp, vq, tw, _, a, m, ?_, ?_⟩
  · unfold wdOf
    cases x with
    | none => simp
    | some k => by_cases hk : k = 19968 <;> simp [hk]
  · unfold wdOf
    cases x with
    | none => simp
    | some k => by_cases hk : k = 19968 <;> simp [hk]
section
variable {w : World} {loose : List Str} {mean : ExcName → Option Value} {mg mb : Str → Option Value}
theorem blankT {news : Led} {v : Value} {x : Option Int} (hc : CellIn news v x) (e : x = some 0) : Spec w loose mean mg mb 590 590 76 [v] news (fun v n' => v = .bool true ∧ n' = news) := by
  have := blank_spec (w := w) (loose := loose) (mean := mean) (mg := mg) (mb := mb) hc
  rw [decide_eq_true e] at this
  exact this
theorem blankF {news : Led} {v : Value} {x : Option Int} (hc : CellIn news v x) (e : x ≠ some 0) : Spec w loose mean mg mb 590 590 76 [v] news (fun v n' => v = .bool false ∧ n' = news) := by
  have := blank_spec (w := w) (loose := loose) (mean := mean) (mg := mg) (mb := mb) hc
  rw [decide_eq_false e] at this
  exact this
theorem joinedT {news : Led} {vw : Addr} {rows : Rows} (H : ViewIn w.params news vw rows) {i : Int} {t : Tok} (h0 : 0 ≤ i) (h1 : i < rows.length) (e : joined rows i = true) :
    Spec w loose mean mg mb 580 580 118 [.ref vw, .int i t] news (fun v n' => v = .bool true ∧ n' = news) := by
  have := view_joined (w := w) (loose := loose) (mean := mean) (mg := mg) (mb := mb) (t := t) H h0 h1
  rw [e] at this
  exact this
theorem joinedF {news : Led} {vw : Addr} {rows : Rows} (H : ViewIn w.params news vw rows) {i : Int} {t : Tok} (h0 : 0 ≤ i) (h1 : i < rows.length) (e : joined rows i = false) :
    Spec w loose mean mg mb 580 580 118 [.ref vw, .int i t] news (fun v n' => v = .bool false ∧ n' = news) := by
  have := view_joined (w := w) (loose := loose) (mean := mean) (mg := mg) (mb := mb) (t := t) H h0 h1
  rw [e] at this
  exact this
end
section
variable {w : World} {loose : List Str} {mean : ExcName → Option Value} {mg mb : Str → Option Value}
theorem rules35_1 : True := by
  k_with "k_enter" => ((refine' code_def ?q69k1 ?q69k2 ?q69k3 ?q69k4 ?q69k5 ?q69kA ?q69kF ?q69kK ?q69k6 ?q69k7 ?q69k8 ?q69k9 ?q69kB ?_ ?q69c2 ?q69c3 ?q69c4 ?q69c5; (case q69kA => exact rfl); (case q69kF => assumption); (case q69kK => assumption); (case q69k1 => k_asm); (case q69k2 => k_asm); (case q69k3 => k_asm); (case q69k4 => k_asm); (case q69k5 => k_asm); (case q69k6 => k_is); (case q69k7 => k_is); (case q69k8 => k_room); (case q69k9 => first | exact BindsTo.of_eq rfl | exact binds_K (by k_in) rfl (by k_is) rfl rfl rfl); (case q69c5 => decide); (case q69kB => exact locs rfl); (case q69c2 => exact rfl); (case q69c3 => exact rfl); (case q69c4 => exact rfl); k_whole; intro _ _ _ _ _ _ B' _ _; (try dsimp only); (try k_lift B'); (try k_fold)))
  k_with "eval Name" => ((k_dflt (first
  | (refine' nameX_L ?q70F ?q70v ?_ ?q70a ?q70b; (case q70F => k_asm); (case q70a => exact rfl); (case q70b => exact rfl); (case q70v => exact rfl); k_whole)
  | (refine' nameX_K ?q70F ?q70X ?q70T ?q70e ?_ ?q70a ?q70b; (case q70F => k_asm); (case q70X => k_asm); (case q70T => k_asm); (case q70a => exact rfl); (case q70b => exact rfl); (case q70e => k_is); k_whole))))
  k_with "k_mem" => (((repeat (refine' List.mem_cons_of_mem _ ?_)); with_reducible assumption))
  k_with "subscriptTail Name Constant ref int" => ((k_dflt (refine tup_at (by k_asm) (by k_mem) (by decide) (by decide) (by rfl) ?_)))
  k_with "subscriptTail Subscript Constant ref int" => ((k_dflt (refine tup_at (by k_asm) (by k_mem) (by decide) (by decide) (by rfl) ?_)))
  k_with "ite" => ((first | (refine ite_pos (by with_reducible assumption) ?_) | (refine ite_neg (by with_reducible assumption) ?_) | (refine ite_pos (by simp only [beq_iff_eq, bne_iff_ne, beq_eq_false_iff_ne, decide_eq_true_eq, decide_eq_false_iff_not, Bool.not_eq_true', Bool.not_eq_false']; omega) ?_) | (refine ite_neg (by simp only [beq_iff_eq, bne_iff_ne, beq_eq_false_iff_ne, decide_eq_true_eq, decide_eq_false_iff_not, Bool.not_eq_true', Bool.not_eq_false']; omega) ?_)))
  k_with "ktr_rel" => (((repeat (refine List.mem_cons_of_mem _ ?_)); assumption))
  k_with "call ref" => ((k_here; k_dflt (first
  | (refine' Spec.use (f := 118) ?q76C ?q76d1 ?q76d2 ?q76d3 ?q76kA ?q76kF ?q76kK ?q76k1 ?q76k2 ?q76k3 ?q76k4 ?q76k5 ?_; (case q76kA => exact rfl); (case q76kF => first | exact rfl | assumption); (case q76kK => first | exact rfl | assumption); (case q76k1 => k_asm); (case q76k2 => k_asm); (case q76k3 => k_asm); (case q76k4 => k_asm); (case q76k5 => k_asm); (case q76C => first | exact joinedT (ViewIn.mono (by assumption) (fun _ _ => by ktr_rel)) (by k_extra "om") (by k_extra "om") (by assumption) | exact joinedF (ViewIn.mono (by assumption) (fun _ _ => by ktr_rel)) (by k_extra "om") (by k_extra "om") (by assumption)); (case q76d3 => exact rfl); (case q76d1 => exact Nat.le_of_ble_eq_true rfl); (case q76d2 => exact Nat.le_of_ble_eq_true rfl); intro v' n' _ _ po _ _; refine cutP fun R' hR' => ?_; obtain ⟨e1, e2⟩ := po; subst e1; subst n'; refine hR' ?_; clear hR' R'; kaf_suf; (try k_sweep))
  | (refine' Spec.use (f := 76) ?q76C ?q76d1 ?q76d2 ?q76d3 ?q76kA ?q76kF ?q76kK ?q76k1 ?q76k2 ?q76k3 ?q76k4 ?q76k5 ?_; (case q76kA => exact rfl); (case q76kF => first | exact rfl | assumption); (case q76kK => first | exact rfl | assumption); (case q76k1 => k_asm); (case q76k2 => k_asm); (case q76k3 => k_asm); (case q76k4 => k_asm); (case q76k5 => k_asm); (case q76C => first | exact blankT (CellIn.mono (by assumption) (fun _ _ => by ktr_rel)) (by assumption) | exact blankF (CellIn.mono (by assumption) (fun _ _ => by ktr_rel)) (by assumption)); (case q76d3 => exact rfl); (case q76d1 => exact Nat.le_of_ble_eq_true rfl); (case q76d2 => exact Nat.le_of_ble_eq_true rfl); intro v' n' _ _ po _ _; refine cutP fun R' hR' => ?_; obtain ⟨e1, e2⟩ := po; subst e1; subst n'; refine hR' ?_; clear hR' R'; kaf_suf; (try k_sweep))
  | (refine' Spec.use (f := 111) ?q76C ?q76d1 ?q76d2 ?q76d3 ?q76kA ?q76kF ?q76kK ?q76k1 ?q76k2 ?q76k3 ?q76k4 ?q76k5 ?_; (case q76kA => exact rfl); (case q76kF => first | exact rfl | assumption); (case q76kK => first | exact rfl | assumption); (case q76k1 => k_asm); (case q76k2 => k_asm); (case q76k3 => k_asm); (case q76k4 => k_asm); (case q76k5 => k_asm); (case q76C => exact view_line (by assumption) (by k_extra "om") (by assumption)); (case q76d3 => exact rfl); (case q76d1 => exact Nat.le_of_ble_eq_true rfl); (case q76d2 => exact Nat.le_of_ble_eq_true rfl); intro v' n' _ _ po _ _; refine cutP fun R' hR' => ?_; obtain ⟨po, e2⟩ := po; obtain ⟨q1, q2, q3, q4, q5, q6, q7, q8, q9, c0, c1, c2, c3, e1, f1, f2, f3, g0, g1, g2, g3⟩ := po.four; clear po; subst e1; subst n'; refine hR' ?_; clear hR' R'; kaf_suf; (try k_sweep)))))
  k_with "call builtin:len" => ((k_here; (with_reducible show wpAny _ _ (call (Value.builtin "len") [Value.ref _]) _ _ _); k_dflt (refine len4K (by k_asm) (by k_mem) ?_); intro _ _))
  k_with "subscriptTail" => ((k_here; (with_reducible show wpAny _ _ (subscriptTail _ _ (Value.ref _) (Value.int _ _)) _ _ _); k_dflt (refine list_at (by k_asm) (by k_mem) (by decide) (by decide) (by rfl) ?_)))
  k_with "exec While" => ((refine halt ?_))
  k_with "exec While BoolOp" => ((refine halt ?_))
  k_with "exec While BoolOp cons nil" => ((refine halt ?_))
  trivial
theorem width_free {news : Led} {vw : Addr} {rows : Rows} (H : ViewIn w.params news vw rows) {i : Int} {t : Tok} {x0 x1 x2 x3 : Option Int} {j : Bool} (h0 : 0 ≤ i) (h1 : i < rows.length) (hx : rows[i.toNat]? = some ([x0, x1, x2, x3], j)) (e : joined rows i = false) :
    Spec w loose mean mg mb 575 575 146 [.ref vw, .int i t] news (fun v n' => ∃ t, v = .int (if x3 ≠ some 0 then 4 else if x2 ≠ some 0 then 3 else if x1 ≠ some 0 then 2 else if x0 ≠ some 0 then 1 else 0) t ∧ n' = news) := by
  obtain ⟨dv, hi, gr, n1, t1, t2, m1, m2⟩ := H.obj
  intro gd env outer A₀ base h₀ L m s Q E hf hk B F X N T hret
  refine wpAny_call ?_
  k_dflt k_enter
  k_steps
  refine Halt.go ?_
  by_cases e3 : x3 = some 0
  by_cases e2 : x2 = some 0
  by_cases e1 : x1 = some 0
  by_cases e0 : x0 = some 0
  · k_dflt (refine whl_start 10 ?_)
    k_steps
    exact hret _ _ _ _ ⟨_, congrArg (fun z => Value.int z _) (by simp [e3, e2, e1, e0]), rfl⟩ (by k_asm) (cb_drop (by k_asm) fun p hp => by ktr_rel)
  · k_dflt (refine whl_start 10 ?_)
    k_steps
    exact hret _ _ _ _ ⟨_, congrArg (fun z => Value.int z _) (by simp [e3, e2, e1, e0]), rfl⟩ (by k_asm) (cb_drop (by k_asm) fun p hp => by ktr_rel)
  · k_dflt (refine whl_start 10 ?_)
    k_steps
    exact hret _ _ _ _ ⟨_, congrArg (fun z => Value.int z _) (by simp [e3, e2, e1]), rfl⟩ (by k_asm) (cb_drop (by k_asm) fun p hp => by ktr_rel)
  · k_dflt (refine whl_start 10 ?_)
    k_steps
    exact hret _ _ _ _ ⟨_, congrArg (fun z => Value.int z _) (by simp [e3, e2]), rfl⟩ (by k_asm) (cb_drop (by k_asm) fun p hp => by ktr_rel)
  · k_dflt (refine whl_start 10 ?_)
    k_steps
    exact hret _ _ _ _ ⟨_, congrArg (fun z => Value.int z _) (by simp [e3]), rfl⟩ (by k_asm) (cb_drop (by k_asm) fun p hp => by ktr_rel)
end

end
end Mine
namespace Mine
section
theorem base36 : True := by
  k_with_none
  k_with "execs cons" => (k_here; (with_reducible refine wpAny_execs_cons ?_); (try dsimp only); k_fold)
  k_with "ne" => (first | with_reducible assumption | with_reducible exact Ne.symm (by with_reducible assumption) | with_reducible exact Nat.ne_of_gt (by with_reducible assumption) | with_reducible exact Nat.ne_of_lt (by with_reducible assumption) | with_reducible exact neu (by with_reducible assumption) | with_reducible exact neu' (by with_reducible assumption) | with_reducible exact neu2 (by with_reducible assumption) | with_reducible exact neu2' (by with_reducible assumption) | with_reducible exact Nat.ne_of_lt sl1 | with_reducible exact Nat.ne_of_lt sl2 | with_reducible exact Nat.ne_of_lt sl3 | with_reducible exact Nat.ne_of_lt sl4 | with_reducible exact Nat.ne_of_lt sl5 | with_reducible exact Nat.ne_of_gt sl1 | with_reducible exact Nat.ne_of_gt sl2 | with_reducible exact Nat.ne_of_gt sl3 | with_reducible exact Nat.ne_of_gt sl4 | with_reducible exact Nat.ne_of_gt sl5 | omega)
  k_with "lt2" => omega
  k_with "lt0" => (first | with_reducible assumption | omega)
  k_with "lt1" => omega
  k_with "om" => (first | with_reducible assumption | with_reducible exact Nat.le_of_ble_eq_true (by decide) | with_reducible exact ci0 | with_reducible exact ci1 | with_reducible exact cz0 (by with_reducible assumption) | with_reducible exact cz1 (by with_reducible assumption) | with_reducible exact cz2 (by with_reducible assumption) | with_reducible exact cz3 (by with_reducible assumption) | with_reducible exact lb1 (by with_reducible assumption) (by decide) | with_reducible exact lb4 (by with_reducible assumption) (by decide) | with_reducible exact lb2 (by with_reducible assumption) (by with_reducible assumption) (by decide) | with_reducible exact lb5 (by with_reducible assumption) (by with_reducible assumption) (by decide) | with_reducible exact ci4 (by with_reducible assumption) (by decide) | with_reducible exact ci5 (by with_reducible assumption) (by decide) | with_reducible exact cz4 (by with_reducible assumption) (by with_reducible assumption) | with_reducible exact cz5 (by with_reducible assumption) (by with_reducible assumption) | with_reducible exact cz6 (by with_reducible assumption) (by with_reducible assumption) (by with_reducible assumption) (by decide) | with_reducible exact lp1 (by with_reducible assumption) (by decide) | with_reducible exact le1 (by with_reducible assumption) | with_reducible exact le2 (by with_reducible assumption) | with_reducible exact Nat.le_succ _ | with_reducible exact leu (by with_reducible assumption) | with_reducible exact leu2 (by with_reducible assumption) | with_reducible exact zb1 (by with_reducible assumption) (by decide) | with_reducible exact zb2 (by with_reducible assumption) | with_reducible exact zb3 (by with_reducible assumption) (by decide) | with_reducible exact un1 (by with_reducible assumption) | with_reducible exact sl1 | with_reducible exact sl2 | with_reducible exact sl3 | with_reducible exact sl4 | with_reducible exact sl5 | omega)
  k_with "lt" => (first | with_reducible assumption | omega)
  trivial
theorem CellIn.isref {news : Led} {v : Value} {x : Option Int} (h : CellIn news v x) : ∃ c, v = .ref c := let ⟨c, _, _, _, _, _, e, _, _, _⟩ := h; ⟨c, e⟩
theorem cell_wd {w : World} {A : Around} {E : Value → Shared → Prop} {s : Shared} {h₀ : Heap} {L c : Addr} {news : Led} {x : Option Int} {value slice : PySem.Expr} {u : Tok} {Q : Value → Shared → Prop} (N : News h₀ L s.heap news) (hc : CellIn news (.ref c) x) (h : ∀ t, Q (.int (wdOf x) t) s)
    (hs : subscripted slice false (.ref c) (.int 1 u) = operate [.ref c, .int 1 u] (getItem (.ref c) (.int 1 u)) := by with_unfolding_all rfl) :
    wpAny (model theProg w) A (subscriptTail value slice (.ref c) (.int 1 u)) Q E s := by
  obtain ⟨c, e, vp, vq, tw, es, e1, m, -, -⟩ := hc
  cases e1
  exact tup_at N m (by decide) (by decide) rfl (h _) hs
section
variable {w : World} {loose : List Str} {mean : ExcName → Option Value} {mg mb : Str → Option Value}
theorem rules36_1 : True := by
  k_with "k_enter" => ((refine' code_def ?q82k1 ?q82k2 ?q82k3 ?q82k4 ?q82k5 ?q82kA ?q82kF ?q82kK ?q82k6 ?q82k7 ?q82k8 ?q82k9 ?q82kB ?_ ?q82c2 ?q82c3 ?q82c4 ?q82c5; (case q82kA => exact rfl); (case q82kF => assumption); (case q82kK => assumption); (case q82k1 => k_asm); (case q82k2 => k_asm); (case q82k3 => k_asm); (case q82k4 => k_asm); (case q82k5 => k_asm); (case q82k6 => k_is); (case q82k7 => k_is); (case q82k8 => k_room); (case q82k9 => first | exact BindsTo.of_eq rfl | exact binds_K (by k_in) rfl (by k_is) rfl rfl rfl); (case q82c5 => decide); (case q82kB => exact locs rfl); (case q82c2 => exact rfl); (case q82c3 => exact rfl); (case q82c4 => exact rfl); k_whole; intro _ _ _ _ _ _ B' _ _; (try dsimp only); (try k_lift B'); (try k_fold)))
  k_with "eval Name" => ((k_dflt (first
  | (refine' nameX_L ?q83F ?q83v ?_ ?q83a ?q83b; (case q83F => k_asm); (case q83a => exact rfl); (case q83b => exact rfl); (case q83v => exact rfl); k_whole)
  | (refine' nameX_K ?q83F ?q83X ?q83T ?q83e ?_ ?q83a ?q83b; (case q83F => k_asm); (case q83X => k_asm); (case q83T => k_asm); (case q83a => exact rfl); (case q83b => exact rfl); (case q83e => k_is); k_whole))))
  k_with "k_mem" => (((repeat (refine' List.mem_cons_of_mem _ ?_)); with_reducible assumption))
  k_with "subscriptTail Name Constant ref int" => ((k_dflt (refine tup_at (by k_asm) (by k_mem) (by decide) (by decide) (by rfl) ?_)))
  k_with "subscriptTail Subscript Constant ref int" => ((k_dflt (refine tup_at (by k_asm) (by k_mem) (by decide) (by decide) (by rfl) ?_)))
  k_with "ite" => ((first | (refine ite_pos (by with_reducible assumption) ?_) | (refine ite_neg (by with_reducible assumption) ?_) | (refine ite_pos (by simp only [beq_iff_eq, bne_iff_ne, beq_eq_false_iff_ne, decide_eq_true_eq, decide_eq_false_iff_not, Bool.not_eq_true', Bool.not_eq_false']; omega) ?_) | (refine ite_neg (by simp only [beq_iff_eq, bne_iff_ne, beq_eq_false_iff_ne, decide_eq_true_eq, decide_eq_false_iff_not, Bool.not_eq_true', Bool.not_eq_false']; omega) ?_)))
  k_with "ktr_rel" => (((repeat (refine List.mem_cons_of_mem _ ?_)); assumption))
  k_with "call ref" => ((k_here; k_dflt (first
  | (refine' Spec.use (f := 118) ?q89C ?q89d1 ?q89d2 ?q89d3 ?q89kA ?q89kF ?q89kK ?q89k1 ?q89k2 ?q89k3 ?q89k4 ?q89k5 ?_; (case q89kA => exact rfl); (case q89kF => first | exact rfl | assumption); (case q89kK => first | exact rfl | assumption); (case q89k1 => k_asm); (case q89k2 => k_asm); (case q89k3 => k_asm); (case q89k4 => k_asm); (case q89k5 => k_asm); (case q89C => first | exact joinedT (ViewIn.mono (by assumption) (fun _ _ => by ktr_rel)) (by k_extra "om") (by k_extra "om") (by assumption) | exact joinedF (ViewIn.mono (by assumption) (fun _ _ => by ktr_rel)) (by k_extra "om") (by k_extra "om") (by assumption)); (case q89d3 => exact rfl); (case q89d1 => exact Nat.le_of_ble_eq_true rfl); (case q89d2 => exact Nat.le_of_ble_eq_true rfl); intro v' n' _ _ po _ _; refine cutP fun R' hR' => ?_; obtain ⟨e1, e2⟩ := po; subst e1; subst n'; refine hR' ?_; clear hR' R'; kaf_suf; (try k_sweep))
  | (refine' Spec.use (f := 76) ?q89C ?q89d1 ?q89d2 ?q89d3 ?q89kA ?q89kF ?q89kK ?q89k1 ?q89k2 ?q89k3 ?q89k4 ?q89k5 ?_; (case q89kA => exact rfl); (case q89kF => first | exact rfl | assumption); (case q89kK => first | exact rfl | assumption); (case q89k1 => k_asm); (case q89k2 => k_asm); (case q89k3 => k_asm); (case q89k4 => k_asm); (case q89k5 => k_asm); (case q89C => first | exact blankT (CellIn.mono (by assumption) (fun _ _ => by ktr_rel)) (by assumption) | exact blankF (CellIn.mono (by assumption) (fun _ _ => by ktr_rel)) (by assumption)); (case q89d3 => exact rfl); (case q89d1 => exact Nat.le_of_ble_eq_true rfl); (case q89d2 => exact Nat.le_of_ble_eq_true rfl); intro v' n' _ _ po _ _; refine cutP fun R' hR' => ?_; obtain ⟨e1, e2⟩ := po; subst e1; subst n'; refine hR' ?_; clear hR' R'; kaf_suf; (try k_sweep))
  | (refine' Spec.use (f := 111) ?q89C ?q89d1 ?q89d2 ?q89d3 ?q89kA ?q89kF ?q89kK ?q89k1 ?q89k2 ?q89k3 ?q89k4 ?q89k5 ?_; (case q89kA => exact rfl); (case q89kF => first | exact rfl | assumption); (case q89kK => first | exact rfl | assumption); (case q89k1 => k_asm); (case q89k2 => k_asm); (case q89k3 => k_asm); (case q89k4 => k_asm); (case q89k5 => k_asm); (case q89C => exact view_line (by assumption) (by k_extra "om") (by assumption)); (case q89d3 => exact rfl); (case q89d1 => exact Nat.le_of_ble_eq_true rfl); (case q89d2 => exact Nat.le_of_ble_eq_true rfl); intro v' n' _ _ po _ _; refine cutP fun R' hR' => ?_; obtain ⟨po, e2⟩ := po; obtain ⟨q1, q2, q3, q4, q5, q6, q7, q8, q9, c0, c1, c2, c3, e1, f1, f2, f3, g0, g1, g2, g3⟩ := po.four; clear po; subst e1; subst n'; (obtain ⟨r0, e0⟩ := g0.isref; subst e0); (obtain ⟨r3, e3⟩ := g3.isref; subst e3); refine hR' ?_; clear hR' R'; kaf_suf; (try k_sweep)))))
  k_with "call builtin:len" => ((k_here; (with_reducible show wpAny _ _ (call (Value.builtin "len") [Value.ref _]) _ _ _); k_dflt (refine len4K (by k_asm) (by k_mem) ?_); intro _ _))
  k_with "subscriptTail" => ((k_here; (with_reducible show wpAny _ _ (subscriptTail _ _ (Value.ref _) (Value.int _ _)) _ _ _); k_dflt (first | (refine list_at (by k_asm) (by k_mem) (by decide) (by decide) (by rfl) ?_) | (refine list_neg (by k_asm) (by k_mem) (by decide) (by rfl) ?_) | (refine cell_wd (by k_asm) (CellIn.mono (by assumption) (fun _ _ => by ktr_rel)) ?_; intro _))))
  k_with "subscriptTail Subscript Constant ref int" => ((k_here; k_dflt (refine cell_wd (by k_asm) (CellIn.mono (by assumption) (fun _ _ => by ktr_rel)) ?_; intro _)))
  k_with "compareOp NotEq ref ref" => ((k_here; k_dflt (refine ne_nil (by k_asm) (by k_mem) (by k_mem) (by exact Nat.le_of_ble_eq_true rfl) ?_); (try simp only [ne_eq, reduceCtorEq, not_false_eq_true, decide_true])))
  trivial
theorem width_joined {news : Led} {vw : Addr} {rows : Rows} (H : ViewIn w.params news vw rows) {i : Int} {t : Tok} {x0 x1 x2 x3 y0 y1 y2 y3 : Option Int} {j j' : Bool} (h0 : 0 ≤ i) (h1 : i < rows.length) (hx : rows[i.toNat]? = some ([x0, x1, x2, x3], j))
    (hy : rows[(i + 1).toNat]? = some ([y0, y1, y2, y3], j')) (e : joined rows i = true) :
    Spec w loose mean mg mb 575 575 146 [.ref vw, .int i t] news (fun v n' => ∃ t, v = .int (if x3 = some 0 ∧ y0 = some 19968 then 3 else 4) t ∧ n' = news) := by
  obtain ⟨dv, hi, gr, n1, t1, t2, m1, m2⟩ := H.obj
  intro gd env outer A₀ base h₀ L m s Q E hf hk B F X N T hret
  have hw : (wdOf y0 == 2) = decide (y0 = some 19968) := by
    unfold wdOf
    cases y0 with
    | none => rfl
    | some k => by_cases hk : k = 19968 <;> simp [hk]
  by_cases e3 : x3 = some 0
  · refine wpAny_call ?_
    k_dflt k_enter
    k_steps
    exact hret _ _ _ _ ⟨_, congrArg (fun z => Value.int z _) (by rw [hw]; by_cases ey : y0 = some 19968 <;> simp [e3, ey]), rfl⟩ (by k_asm) (cb_drop (by k_asm) fun p hp => by ktr_rel)
  · refine wpAny_call ?_
    k_dflt k_enter
    k_steps
    exact hret _ _ _ _ ⟨_, congrArg (fun z => Value.int z _) (by simp [e3]), rfl⟩ (by k_asm) (cb_drop (by k_asm) fun p hp => by ktr_rel)
end

end
end Mine
namespace Mine
section
theorem base37 : True := by
  k_with_none
  k_with "execs cons" => (k_here; (with_reducible refine wpAny_execs_cons ?_); (try dsimp only); k_fold)
  k_with "ne" => (first | with_reducible assumption | with_reducible exact Ne.symm (by with_reducible assumption) | with_reducible exact Nat.ne_of_gt (by with_reducible assumption) | with_reducible exact Nat.ne_of_lt (by with_reducible assumption) | with_reducible exact neu (by with_reducible assumption) | with_reducible exact neu' (by with_reducible assumption) | with_reducible exact neu2 (by with_reducible assumption) | with_reducible exact neu2' (by with_reducible assumption) | with_reducible exact Nat.ne_of_lt sl1 | with_reducible exact Nat.ne_of_lt sl2 | with_reducible exact Nat.ne_of_lt sl3 | with_reducible exact Nat.ne_of_lt sl4 | with_reducible exact Nat.ne_of_lt sl5 | with_reducible exact Nat.ne_of_gt sl1 | with_reducible exact Nat.ne_of_gt sl2 | with_reducible exact Nat.ne_of_gt sl3 | with_reducible exact Nat.ne_of_gt sl4 | with_reducible exact Nat.ne_of_gt sl5 | omega)
  k_with "lt2" => omega
  k_with "lt0" => (first | with_reducible assumption | omega)
  k_with "lt1" => omega
  k_with "om" => (first | with_reducible assumption | with_reducible exact Nat.le_of_ble_eq_true (by decide) | with_reducible exact ci0 | with_reducible exact ci1 | with_reducible exact cz0 (by with_reducible assumption) | with_reducible exact cz1 (by with_reducible assumption) | with_reducible exact cz2 (by with_reducible assumption) | with_reducible exact cz3 (by with_reducible assumption) | with_reducible exact lb1 (by with_reducible assumption) (by decide) | with_reducible exact lb4 (by with_reducible assumption) (by decide) | with_reducible exact lb2 (by with_reducible assumption) (by with_reducible assumption) (by decide) | with_reducible exact lb5 (by with_reducible assumption) (by with_reducible assumption) (by decide) | with_reducible exact ci4 (by with_reducible assumption) (by decide) | with_reducible exact ci5 (by with_reducible assumption) (by decide) | with_reducible exact cz4 (by with_reducible assumption) (by with_reducible assumption) | with_reducible exact cz5 (by with_reducible assumption) (by with_reducible assumption) | with_reducible exact cz6 (by with_reducible assumption) (by with_reducible assumption) (by with_reducible assumption) (by decide) | with_reducible exact lp1 (by with_reducible assumption) (by decide) | with_reducible exact le1 (by with_reducible assumption) | with_reducible exact le2 (by with_reducible assumption) | with_reducible exact Nat.le_succ _ | with_reducible exact leu (by with_reducible assumption) | with_reducible exact leu2 (by with_reducible assumption) | with_reducible exact zb1 (by with_reducible assumption) (by decide) | with_reducible exact zb2 (by with_reducible assumption) | with_reducible exact zb3 (by with_reducible assumption) (by decide) | with_reducible exact un1 (by with_reducible assumption) | with_reducible exact sl1 | with_reducible exact sl2 | with_reducible exact sl3 | with_reducible exact sl4 | with_reducible exact sl5 | omega)
  k_with "lt" => (first | with_reducible assumption | omega)
  trivial
section
variable {prog : Program} {w : World} {A : Around} {E : Value → Shared → Prop} {s : Shared} {h₀ : Heap} {L : Addr} {m : Str → Option Value} {env : Env}
def TupAt (ax : Addr) (its : Array Value) (news : Led) : Prop := ∃ o, (ax, o) ∈ news ∧ o.cls = .type "tuple" ∧ ∃ n, o.data = .seq its n
theorem TupAt.tup {h : Heap} {ax : Addr} {its : Array Value} {news : Led} (x : TupAt ax its news) (N : News h₀ L h news) : h.IsTuple ax its := by
  obtain ⟨o, hm, r⟩ := x
  exact ⟨o, (N _ hm).1, r⟩
/-- a comprehension over a tuple of the ledger -/
def SrcTup (prog : Program) (w : World) (A : Around) (h₀ : Heap) (L : Addr) (m : Str → Option Value) (env : Env) (elt : PySem.Expr) (x : Str) (scope : Scope) (cl : List (Str × Addr)) (Fin : Shared → List Value → Led → Prop) (xv : Value) (s₁ : Shared) : Prop :=
  ∃ ax its news, xv = .ref ax ∧ A.handled = none ∧ Fr h₀ L s₁.heap m ∧ News h₀ L s₁.heap news ∧ TupAt ax its news ∧ its.size ≤ sizeLine ∧
    ∀ s₂ : Shared, (∃ h, s₂ = { s₁ with heap := h }) → LCg.CompRest prog w A h₀ L m env elt x scope cl s₂ (TupAt ax its) (fun i v => its[i]? = some v) (Fin s₂) its.size 0 [] news
theorem tup_st {ax I : Addr} {its : Array Value} : ∀ i (h h' : Heap) (o : Obj) (nw : Led), (h.IsTupleIter I ax i ∧ h.IsTuple ax its) → h.get? I = some o → h'.get? I = some o → (∀ b o, h₀.get? b = some o → h'.get? b = some o) → News h₀ L h' nw → TupAt ax its nw → (h'.IsTupleIter I ax i ∧ h'.IsTuple ax its) :=
  fun i h h' o nw st e e' _ N S => ⟨by obtain ⟨o', q, r⟩ := st.1; rw [e] at q; cases q; exact ⟨o, e', r⟩, S.tup N⟩
theorem ListComp_Tup {elt iter : PySem.Expr} {x : Str} {px : Pos} {scope : Scope} {cl : List (Str × Addr)} {pos : Pos} {Q : Value → Shared → Prop} (F₀ : Fr h₀ L s.heap m)
    (hclos : closureFor scope env = pure cl) (hcell : ∀ y ∈ scope.names, y.2 ≠ .cell) (hkind : scope.kind = .function)
    (hnames : ∀ y ∈ scope.names, y.2 = .local → scope.names.lookup y.1 = some .local) (hx : scope.names.lookup x = some .local)
    (h : wpAny (model prog w) A (eval iter env) (SrcTup prog w A h₀ L m env elt x scope cl (fun s₂ => LCg.FinE h₀ L m s₂ Q)) E s)
    (hs : ∀ x, foldedSetIterable iter env x = pure x := by intro _; rfl) :
    wpAny (model prog w) A (eval (.ListComp elt [⟨.Name x px, iter, [], 0⟩] scope pos) env) Q E s := by
  rw [eval_ListComp]
  refine wpAny_comprehension_free (use := none) rfl hs hclos hkind hnames (wpAny_mono h (fun xv s₁ h₁ => ?_) fun _ _ e => e)
  obtain ⟨ax, its, news, rfl, hh, F, N, S, hsz, R⟩ := h₁
  have hl := S.tup N
  have hlt : ax < s₁.heap.objs.size := by obtain ⟨_, e, _⟩ := hl; exact Heap.lt_size e
  refine wpAny_pyIter_tuple hl ?_
  have up : ∀ b o, s₁.heap.get? b = some o → (s₁.heap.push { cls := .type "tuple_iterator", data := .fields #[.ref ax, rawInt 0] }).get? b = some o := fun b o e => Heap.get?_push_of_some _ e
  refine LCg.block_U (Walks.tuple hh s₁.heap.objs.size ax (Nat.ne_of_lt hlt) its) hsz (fun i h st => by obtain ⟨o, e, _⟩ := st.1; exact ⟨o, e⟩) tup_st hcell hkind hx ⟨⟨_, Heap.get?_push_size _ rfl, rfl, rfl⟩, hl.at fun o e => Heap.get?_push_of_some _ e⟩ (fun b hb => ?_)
    (F.keeps up) (N.grown up) (Nat.ne_of_lt F.ns.lt) (next_is_new F) (fun p hp => Nat.ne_of_lt (Heap.lt_size (N p hp).1)) S (R _ ⟨_, rfl⟩) ?_
  · show b < (s₁.heap.push _).objs.size
    rw [Heap.size_push]
    rcases List.mem_cons.mp hb with rfl | hb
    · exact Nat.lt_succ_self _
    · rw [List.mem_singleton.mp hb]; exact Nat.lt_succ_of_lt hlt
  · intro D C h tk m' ys news' F' N' o1 hn hC₀ hD₀ hCL hDL hCD offC fin
    refine ⟨m', hn, fun h'' hs'' => fin D h'' tk (F'.change hs'' hCL hC₀) (fun p hp => ?_) o1⟩
    refine ⟨hs''.extBut _ _ ?_ (N' p hp).1, (N' p hp).2⟩
    rcases List.mem_cons.mp hp with rfl | hp
    · exact Ne.symm hCD
    · exact offC p hp
theorem SrcTup.intro {elt : PySem.Expr} {x : Str} {scope : Scope} {cl : List (Str × Addr)} {Fin : Shared → List Value → Led → Prop} {ax : Addr} {vs : List Value} {news : Led} {s₁ : Shared}
    (hh : A.handled = none) (F : Fr h₀ L s₁.heap m) (N : News h₀ L s₁.heap news) (hm : (ax, tupOf vs) ∈ news) (hsz : vs.length ≤ 200)
    (h : ∀ g, LCg.CompRest prog w A h₀ L m env elt x scope cl { s₁ with heap := g } (TupAt ax vs.toArray) (fun i v => vs[i]? = some v) (Fin { s₁ with heap := g }) vs.length 0 [] news) :
    SrcTup prog w A h₀ L m env elt x scope cl Fin (.ref ax) s₁ := by
  have sz : sizeLine = 16777216 := sizeLine_eq
  refine ⟨ax, vs.toArray, news, rfl, hh, F, N, ⟨_, hm, rfl, _, rfl⟩, by simp; omega, ?_⟩
  rintro s₂ ⟨g, rfl⟩
  simpa using h g
theorem compEnd_of {I C D : Addr} {s₁ : Shared} {oI oC oD : Obj} {S : Led → Prop} {rest : Value → Led → Prop} {y : Value} {h' : Heap} {tk : Nat} {all r1 r2 r3 : Led}
    (F : Fr h₀ L h' m) (N : News h₀ L h' all) (d1 : Del I oI all r1) (d2 : Del C oC r1 r2) (d3 : Del D oD r2 r3) (off : LCg.Off3 I C D r3) (hS : S r3) (r : rest y r3) :
    LCg.CompEnd h₀ L m s₁ I oI C oC D oD S rest y { s₁ with heap := h', toks := tk } := by
  refine LCg.CompEnd.intro F N r3 (fun p hp => ?_) off hS r
  rcases List.mem_cons.mp hp with rfl | hp
  · exact d1.sub _ (.head _)
  refine d1.sub' _ ?_
  rcases List.mem_cons.mp hp with rfl | hp
  · exact d2.sub _ (.head _)
  refine d2.sub' _ ?_
  rcases List.mem_cons.mp hp with rfl | hp
  · exact d3.sub _ (.head _)
  exact d3.sub' _ hp
end
/-- the ledger less some entries -/
inductive Dels : Led → Led → Led → Prop
  | nil {l} : Dels [] l l
  | cons {a o fs l r r'} : Del a o l r → Dels fs r r' → Dels ((a, o) :: fs) l r'
theorem Dels.sub {fs l r : Led} (d : Dels fs l r) : ∀ p ∈ fs ++ r, p ∈ l := by
  induction d with
  | nil => exact fun p hp => hp
  | cons d _ ih =>
    intro p hp
    rcases List.mem_cons.mp hp with rfl | hp
    · exact d.sub _ (.head _)
    · exact d.sub' _ (ih p hp)
/-- what is in the ledger: the old, or made above an address -/
def Up (B : Nat) (old rest : Led) : Prop := ∀ p ∈ rest, p ∈ old ∨ @LT.lt Nat _ B p.1
theorem Up.refl {B : Nat} {old : Led} : Up B old old := fun _ h => .inl h
theorem Up.cons {B : Nat} {old rest : Led} {p : Addr × Obj} (h : @LT.lt Nat _ B p.1) (u : Up B old rest) : Up B old (p :: rest) := fun q hq => by
  rcases List.mem_cons.mp hq with rfl | hq
  · exact .inr h
  · exact u q hq
theorem Up.cons0 {B : Nat} {old rest : Led} {p : Addr × Obj} (h : p ∈ old) (u : Up B old rest) : Up B old (p :: rest) := fun q hq => by
  rcases List.mem_cons.mp hq with rfl | hq
  · exact .inl h
  · exact u q hq
theorem Up.trans {B B' : Nat} {old mid rest : Led} (u : Up B' mid rest) (hB : B ≤ B') (v : Up B old mid) : Up B old rest := fun p hp => by
  rcases u p hp with h | h
  · exact v p h
  · exact .inr (Nat.lt_of_le_of_lt hB h)
theorem Up.ne {B a : Nat} {old rest : Led} (u : Up B old rest) (h : ∀ p ∈ old, p.1 ≠ a) (ha : a ≤ B) : ∀ p ∈ rest, p.1 ≠ a := fun p hp => by
  rcases u p hp with q | q
  · exact h p q
  · exact Nat.ne_of_gt (Nat.lt_of_le_of_lt ha q)
theorem Up.fresh {B : Nat} {old nn : Led} (h : ∀ p ∈ nn, @LT.lt Nat _ B p.1) : Up B old (nn ++ old) := fun p hp => by
  rcases List.mem_append.mp hp with hp | hp
  · exact .inr (h p hp)
  · exact .inl hp
theorem turn_end {h₀ : Heap} {L : Addr} {its fr r : Led} {rest : (Str → Option Value) → Led → Prop} {s₁ : Shared} {h' : Heap} {tk : Nat} {m' : Str → Option Value} {all : Led} {keep : Led} (F : Fr h₀ L h' m') (N : News h₀ L h' all) (d : Dels (its ++ fr) all r)
    (off : ∀ q ∈ its, ∀ p ∈ fr, p.1 ≠ q.1) (offr : ∀ q ∈ its, ∀ p ∈ r, p.1 ≠ q.1) (k : SubL keep (fr ++ r)) (h : rest m' (fr ++ r)) : UnrEndW h₀ L s₁ its (fun m' n' => SubL keep n' ∧ rest m' n') { s₁ with heap := h', toks := tk } := by
  refine ⟨h', tk, m', fr ++ r, rfl, F, fun p hp => N p (d.sub p ?_), fun p hp q hq => ?_, k, h⟩
  · rwa [List.append_assoc]
  · rcases List.mem_append.mp hp with hp | hp
    · exact off q hq p hp
    · exact offr q hq p hp
theorem named1 {m : Str → Option Value} {x : Str} {v : Value} (e : m x = some v) : m = fun y => if y = x then some v else m y := by
  funext y
  split
  · rename_i h; rw [h, e]
  · rfl
theorem named2 {m : Str → Option Value} {x x' : Str} {v v' : Value} (e : m x = some v) (e' : m x' = some v') : m = fun y => if y = x then some v else if y = x' then some v' else m y := by
  funext y
  split
  · rename_i h; rw [h, e]
  · split
    · rename_i h; rw [h, e']
    · rfl
theorem named3 {m : Str → Option Value} {x x' x'' : Str} {v v' v'' : Value} (e : m x = some v) (e' : m x' = some v') (e'' : m x'' = some v'') : m = fun y => if y = x then some v else if y = x' then some v' else if y = x'' then some v'' else m y := by
  funext y
  split
  · rename_i h; rw [h, e]
  · split
    · rename_i h; rw [h, e']
    · split
      · rename_i h; rw [h, e'']
      · rfl
theorem All2.take {α β : Type} {R : α → β → Prop} {l : List α} {r : List β} (h : All2 R l r) : ∀ n, All2 R (l.take n) (r.take n) := by
  induction h with
  | nil => intro n; simpa using All2.nil
  | cons a _ ih =>
    intro n
    cases n with
    | zero => exact .nil
    | succ n => simpa using All2.cons a (ih n)
theorem objs1 {I : Addr} {c : String} : ∀ {its : Led}, Objs [(I, c)] its → ∃ o, its = [(I, o)] ∧ o.cls = .type c
  | [], h => (show False from h).elim
  | [(a, o)], ⟨⟨e, f⟩, _⟩ => by cases e; exact ⟨o, rfl, f⟩
  | _ :: _ :: _, ⟨_, h⟩ => (show False from h).elim
theorem objs2 {I J : Addr} {c d : String} : ∀ {its : Led}, Objs [(I, c), (J, d)] its → ∃ o o', its = [(I, o), (J, o')] ∧ o.cls = .type c ∧ o'.cls = .type d
  | [], h => (show False from h).elim
  | [_], ⟨_, h⟩ => (show False from h).elim
  | [(a, o), (b, o')], ⟨⟨e, f⟩, ⟨e', f'⟩, _⟩ => by cases e; cases e'; exact ⟨o, o', rfl, f, f'⟩
  | _ :: _ :: _ :: _, ⟨_, _, h⟩ => (show False from h).elim
theorem rangeItems_cons {a : Int} {i n : Nat} {x : Itm} {r : List Itm} (h : x :: r = rangeItems a i (n - i)) (hi : i ≤ n) : i < n ∧ x = .tok (fun t => .int (a + (i : Int)) t) ∧ r = rangeItems a (i + 1) (n - (i + 1)) := by
  by_cases hlt : i < n
  · have e : n - i = (n - (i + 1)) + 1 := by omega
    rw [e, rangeItems] at h
    obtain ⟨h1, h2⟩ := List.cons.inj h
    exact ⟨hlt, h1, h2⟩
  · have e : n - i = 0 := by omega
    rw [e, rangeItems] at h
    cases h
theorem enumItems_cons {vs : List Value} {i : Nat} {x : Itm} {r : List Itm} (h : x :: r = enumItems i (vs.drop i)) : ∃ v, vs[i]? = some v ∧ x = .pair (fun t => .int (i : Int) t) v ∧ r = enumItems (i + 1) (vs.drop (i + 1)) := by
  by_cases hlt : i < vs.length
  · rw [List.drop_eq_getElem_cons hlt, enumItems] at h
    obtain ⟨h1, h2⟩ := List.cons.inj h
    exact ⟨vs[i], List.getElem?_eq_getElem hlt, h1, h2⟩
  · rw [List.drop_of_length_le (by omega), enumItems] at h
    cases h
theorem enumItems_nil {vs : List Value} {i : Nat} (h : [] = enumItems i (vs.drop i)) : vs.length ≤ i := by
  by_cases hlt : i < vs.length
  · rw [List.drop_eq_getElem_cons hlt, enumItems] at h
    cases h
  · omega
theorem rangeItems_nil {a : Int} {i n : Nat} (h : [] = rangeItems a i (n - i)) : n ≤ i := by
  by_cases hlt : i < n
  · have e : n - i = (n - (i + 1)) + 1 := by omega
    rw [e, rangeItems] at h
    cases h
  · omega
theorem All2.at' {α β : Type} {R : α → β → Prop} {l : List α} {r : List β} (h : All2 R l r) : ∀ (i : Nat) a, l[i]? = some a → ∃ b, r[i]? = some b ∧ R a b := by
  induction h with
  | nil => intro i b e; simp at e
  | cons hab _ ih =>
    intro i b e
    cases i with
    | zero => simp at e; exact ⟨_, rfl, e ▸ hab⟩
    | succ i => simp at e; simpa using ih i b e
theorem kms_upto (l : List Value) (n : Nat) : kms_pick l none (some (n : Int)) = l.take n := by
  unfold kms_pick kms_lo kms_hi
  simp only [List.drop_zero, Nat.sub_zero]
  rw [if_neg (by omega)]
  simp only [Int.toNat_natCast]
  exact kmk_take_min l n
theorem take_snoc {α : Type} {l : List α} {k : Nat} {x : α} (h : l[k]? = some x) : l.take (k + 1) = l.take k ++ [x] := by
  rw [List.take_add_one, h]
  rfl
theorem Del.drop {a : Addr} {o : Obj} {l r : Led} {h₀ h : Heap} {L : Addr} (N : News h₀ L h l) (d : Del a o l r) : News h₀ L h r := fun p hp => N p (d.sub' p hp)
theorem SubL.one {p : Addr × Obj} {l : Led} (h : p ∈ l) : SubL [p] l := ⟨h, trivial⟩
theorem Up.off {I : Nat} {old r : Led} (u : Up I old r) (h : ∀ p ∈ old, @LT.lt Nat _ p.1 I) : ∀ p ∈ r, p.1 ≠ I := u.ne (fun p hp => Nat.ne_of_lt (h p hp)) (Nat.le_refl _)

end
end Mine
namespace Mine
section
theorem base38 : True := by
  k_with_none
  k_with "execs cons" => (k_here; (with_reducible refine wpAny_execs_cons ?_); (try dsimp only); k_fold)
  k_with "ne" => (first | with_reducible assumption | with_reducible exact Ne.symm (by with_reducible assumption) | with_reducible exact Nat.ne_of_gt (by with_reducible assumption) | with_reducible exact Nat.ne_of_lt (by with_reducible assumption) | with_reducible exact neu (by with_reducible assumption) | with_reducible exact neu' (by with_reducible assumption) | with_reducible exact neu2 (by with_reducible assumption) | with_reducible exact neu2' (by with_reducible assumption) | with_reducible exact Nat.ne_of_lt sl1 | with_reducible exact Nat.ne_of_lt sl2 | with_reducible exact Nat.ne_of_lt sl3 | with_reducible exact Nat.ne_of_lt sl4 | with_reducible exact Nat.ne_of_lt sl5 | with_reducible exact Nat.ne_of_gt sl1 | with_reducible exact Nat.ne_of_gt sl2 | with_reducible exact Nat.ne_of_gt sl3 | with_reducible exact Nat.ne_of_gt sl4 | with_reducible exact Nat.ne_of_gt sl5 | omega)
  k_with "lt2" => omega
  k_with "lt0" => (first | with_reducible assumption | omega)
  k_with "lt1" => omega
  k_with "om" => (first | with_reducible assumption | with_reducible exact Nat.le_of_ble_eq_true (by decide) | with_reducible exact ci0 | with_reducible exact ci1 | with_reducible exact cz0 (by with_reducible assumption) | with_reducible exact cz1 (by with_reducible assumption) | with_reducible exact cz2 (by with_reducible assumption) | with_reducible exact cz3 (by with_reducible assumption) | with_reducible exact lb1 (by with_reducible assumption) (by decide) | with_reducible exact lb4 (by with_reducible assumption) (by decide) | with_reducible exact lb2 (by with_reducible assumption) (by with_reducible assumption) (by decide) | with_reducible exact lb5 (by with_reducible assumption) (by with_reducible assumption) (by decide) | with_reducible exact ci4 (by with_reducible assumption) (by decide) | with_reducible exact ci5 (by with_reducible assumption) (by decide) | with_reducible exact cz4 (by with_reducible assumption) (by with_reducible assumption) | with_reducible exact cz5 (by with_reducible assumption) (by with_reducible assumption) | with_reducible exact cz6 (by with_reducible assumption) (by with_reducible assumption) (by with_reducible assumption) (by decide) | with_reducible exact lp1 (by with_reducible assumption) (by decide) | with_reducible exact le1 (by with_reducible assumption) | with_reducible exact le2 (by with_reducible assumption) | with_reducible exact Nat.le_succ _ | with_reducible exact leu (by with_reducible assumption) | with_reducible exact leu2 (by with_reducible assumption) | with_reducible exact zb1 (by with_reducible assumption) (by decide) | with_reducible exact zb2 (by with_reducible assumption) | with_reducible exact zb3 (by with_reducible assumption) (by decide) | with_reducible exact un1 (by with_reducible assumption) | with_reducible exact sl1 | with_reducible exact sl2 | with_reducible exact sl3 | with_reducible exact sl4 | with_reducible exact sl5 | omega)
  k_with "lt" => (first | with_reducible assumption | omega)
  trivial
/-- how many of the first n cells are left when the blanks at the end are cut -/
def trim : Nat → List (Option Int) → Nat
  | 0, _ => 0
  | n + 1, xs => if xs[n]? = some (some 0) then trim n xs else n + 1
def wid (rows : Rows) (i : Nat) : Nat :=
  match rows[i]? with
  | none => 0
  | some (xs, _) => if joined rows i = true then (if xs[3]? = some (some 0) ∧ ((rows[i + 1]?).bind fun y => y.1[0]?) = some (some 19968) then 3 else 4) else trim 4 xs
abbrev Sign := Int × Int × Int
def shown (k : Int) : Int := if k = 0 then 32 else k
def sgn (i c : Int) : Option Int → List Sign
  | none => []
  | some k => [(shown k, i, c)]
def cellSigns (i : Int) : Int → List (Option Int) → List Sign
  | _, [] => []
  | c, x :: r => sgn i c x ++ cellSigns i (c + 1) r
theorem cellSigns_snoc (i : Int) (l : List (Option Int)) (x : Option Int) : ∀ c, cellSigns i c (l ++ [x]) = cellSigns i c l ++ sgn i (c + l.length) x := by
  induction l with
  | nil => intro c; simp [cellSigns]
  | cons y l ih =>
    intro c
    simp only [List.cons_append, cellSigns, ih, List.append_assoc, List.length_cons]
    congr 3
    omega
def cellsAt (rows : Rows) (i : Nat) : List (Option Int) := ((rows[i]?).map (·.1)).getD []
def rowSigns (rows : Rows) (i : Nat) : List Sign := cellSigns i 0 ((cellsAt rows i).take (wid rows i)) ++ (if joined rows i = true then [] else [(10, (i : Int), (wid rows i : Int))])
def flow (rows : Rows) : Nat → List Sign
  | 0 => []
  | n + 1 => flow rows n ++ rowSigns rows n
def GoodRows (rows : Rows) : Prop := (∀ x ∈ rows, x.1.length = 4) ∧ 2 ≤ rows.length ∧ rows.length ≤ 4 ∧ ∀ x, rows.getLast? = some x → x.2 = false
theorem four_of {l : List (Option Int)} (h : l.length = 4) : ∃ a b c d, l = [a, b, c, d] := by
  match l, h with
  | [a, b, c, d], _ => exact ⟨a, b, c, d, rfl⟩
theorem trim_le : ∀ (n : Nat) (xs : List (Option Int)), trim n xs ≤ n
  | 0, _ => Nat.le_refl _
  | n + 1, xs => by
    unfold trim
    split
    · exact Nat.le_succ_of_le (trim_le n xs)
    · exact Nat.le_refl _
theorem wid_le (rows : Rows) (i : Nat) : wid rows i ≤ 4 := by
  unfold wid
  split
  · omega
  · split
    · split <;> omega
    · exact trim_le _ _
section
variable {w : World} {loose : List Str} {mean : ExcName → Option Value} {mg mb : Str → Option Value}
theorem width_spec {news : Led} {vw : Addr} {rows : Rows} (H : ViewIn w.params news vw rows) (G : GoodRows rows) {i : Int} {t : Tok} (h0 : 0 ≤ i) (h1 : i < rows.length) :
    Spec w loose mean mg mb 575 575 146 [.ref vw, .int i t] news (fun v n' => ∃ t, v = .int (wid rows i.toNat) t ∧ n' = news) := by
  have hi : i.toNat < rows.length := by omega
  obtain ⟨⟨xs, j⟩, hx⟩ : ∃ x, rows[i.toNat]? = some x := ⟨_, List.getElem?_eq_getElem hi⟩
  obtain ⟨x0, x1, x2, x3, rfl⟩ := four_of (G.1 _ (List.mem_of_getElem? hx))
  have ei : ((i.toNat : Nat) : Int) = i := by omega
  by_cases e : joined rows i = true
  · have h2 : i + 1 < rows.length := by
      unfold joined at e
      rw [Bool.and_eq_true] at e
      exact of_decide_eq_true e.1
    obtain ⟨⟨ys, j'⟩, hy⟩ : ∃ x, rows[(i + 1).toNat]? = some x := ⟨_, List.getElem?_eq_getElem (by omega)⟩
    obtain ⟨y0, y1, y2, y3, rfl⟩ := four_of (G.1 _ (List.mem_of_getElem? hy))
    have hy' : rows[i.toNat + 1]? = some ([y0, y1, y2, y3], j') := by rw [← hy]; congr 1; omega
    have q := width_joined (w := w) (loose := loose) (mean := mean) (mg := mg) (mb := mb) (t := t) H h0 h1 hx hy e
    have ew : wid rows i.toNat = if x3 = some 0 ∧ y0 = some 19968 then 3 else 4 := by
      unfold wid
      rw [hx, hy', ei]
      simp [e]
    rw [ew]
    have ec : (((if x3 = some 0 ∧ y0 = some 19968 then 3 else 4 : Nat)) : Int) = if x3 = some 0 ∧ y0 = some 19968 then 3 else 4 := by split <;> rfl
    rw [ec]
    exact q
  · have e' : joined rows i = false := by simpa using e
    have q := width_free (w := w) (loose := loose) (mean := mean) (mg := mg) (mb := mb) (t := t) H h0 h1 hx e'
    have ew : wid rows i.toNat = if x3 ≠ some 0 then 4 else if x2 ≠ some 0 then 3 else if x1 ≠ some 0 then 2 else if x0 ≠ some 0 then 1 else 0 := by
      unfold wid
      rw [hx, ei]
      simp only [e', Bool.false_eq_true, if_false, trim]
      by_cases a3 : x3 = some 0 <;> by_cases a2 : x2 = some 0 <;> by_cases a1 : x1 = some 0 <;> by_cases a0 : x0 = some 0 <;> simp [a3, a2, a1, a0]
    rw [ew]
    have ec : (((if x3 ≠ some 0 then 4 else if x2 ≠ some 0 then 3 else if x1 ≠ some 0 then 2 else if x0 ≠ some 0 then 1 else 0 : Nat)) : Int) = if x3 ≠ some 0 then 4 else if x2 ≠ some 0 then 3 else if x1 ≠ some 0 then 2 else if x0 ≠ some 0 then 1 else 0 := by
      split
      · rfl
      · split
        · rfl
        · split
          · rfl
          · split <;> rfl
    rw [ec]
    exact q
end

end
end Mine
namespace Mine
section
theorem base40 : True := by
  k_with_none
  k_with "execs cons" => (k_here; (with_reducible refine wpAny_execs_cons ?_); (try dsimp only); k_fold)
  k_with "ne" => (first | with_reducible assumption | with_reducible exact Ne.symm (by with_reducible assumption) | with_reducible exact Nat.ne_of_gt (by k_extra "lt0") | with_reducible exact Nat.ne_of_lt (by k_extra "lt0") | with_reducible exact Nat.ne_of_gt (by k_extra "lt2") | with_reducible exact Nat.ne_of_lt (by k_extra "lt2") | with_reducible exact neu (by with_reducible assumption) | with_reducible exact neu' (by with_reducible assumption) | with_reducible exact neu2 (by with_reducible assumption) | with_reducible exact neu2' (by with_reducible assumption) | with_reducible exact neu (by k_extra "lt0") | with_reducible exact neu' (by k_extra "lt0") | with_reducible exact Nat.ne_of_lt sl1 | with_reducible exact Nat.ne_of_lt sl2 | with_reducible exact Nat.ne_of_lt sl3 | with_reducible exact Nat.ne_of_lt sl4 | with_reducible exact Nat.ne_of_lt sl5 | with_reducible exact Nat.ne_of_gt sl1 | with_reducible exact Nat.ne_of_gt sl2 | with_reducible exact Nat.ne_of_gt sl3 | with_reducible exact Nat.ne_of_gt sl4 | with_reducible exact Nat.ne_of_gt sl5 | k_extra "neX" | omega)
  k_with "lt2" => (refine Nat.lt_trans (by with_reducible assumption) ?_; first | with_reducible assumption | k_extra "lt2")
  k_with "lt0" => (first | with_reducible assumption | exact pj0 (by with_reducible assumption) | exact pj1 (by with_reducible assumption) | exact pj2 (by with_reducible assumption) | exact pj3 (by with_reducible assumption) | exact pj4 (by with_reducible assumption) | exact pj5 (by with_reducible assumption) | exact pj6 (by with_reducible assumption) | exact pj7 (by with_reducible assumption) | exact pj8 (by with_reducible assumption) | exact pj9 (by with_reducible assumption) | exact pj10 (by with_reducible assumption) | exact pj11 (by with_reducible assumption) | exact pj12 (by with_reducible assumption) | exact pj13 (by with_reducible assumption) | exact pj14 (by with_reducible assumption) | exact pj15 (by with_reducible assumption) | exact pj16 (by with_reducible assumption))
  k_with "lt1" => (refine Nat.lt_trans (by k_extra "lt0") ?_; first | k_extra "lt0" | k_extra "lt1")
  k_with "om" => (first | with_reducible assumption | with_reducible exact Nat.le_of_ble_eq_true (by decide) | with_reducible exact ci0 | with_reducible exact ci1 | with_reducible exact cz0 (by with_reducible assumption) | with_reducible exact cz1 (by with_reducible assumption) | with_reducible exact cz2 (by with_reducible assumption) | with_reducible exact cz3 (by with_reducible assumption) | with_reducible exact lb1 (by with_reducible assumption) (by decide) | with_reducible exact lb4 (by with_reducible assumption) (by decide) | with_reducible exact lb2 (by with_reducible assumption) (by with_reducible assumption) (by decide) | with_reducible exact lb5 (by with_reducible assumption) (by with_reducible assumption) (by decide) | with_reducible exact ci4 (by with_reducible assumption) (by decide) | with_reducible exact ci5 (by with_reducible assumption) (by decide) | with_reducible exact cz4 (by with_reducible assumption) (by with_reducible assumption) | with_reducible exact cz5 (by with_reducible assumption) (by with_reducible assumption) | with_reducible exact cz6 (by with_reducible assumption) (by with_reducible assumption) (by with_reducible assumption) (by decide) | with_reducible exact lp1 (by with_reducible assumption) (by decide) | with_reducible exact le1 (by with_reducible assumption) | with_reducible exact le2 (by with_reducible assumption) | with_reducible exact Nat.le_succ _ | with_reducible exact leu (by with_reducible assumption) | with_reducible exact leu2 (by with_reducible assumption) | with_reducible exact zb1 (by with_reducible assumption) (by decide) | with_reducible exact zb2 (by with_reducible assumption) | with_reducible exact zb3 (by with_reducible assumption) (by decide) | with_reducible exact un1 (by with_reducible assumption) | with_reducible exact sl1 | with_reducible exact sl2 | with_reducible exact sl3 | with_reducible exact sl4 | with_reducible exact sl5 | with_reducible exact Nat.le_of_lt (by k_extra "lt0") | omega)
  k_with "lt" => (first | k_extra "lt0" | k_extra "lt1")
  trivial
abbrev dS (x : Sign) : Dat := .tuple [.int x.1, .int x.2.1, .int x.2.2]
section
variable {w : World} {loose : List Str} {mean : ExcName → Option Value} {mg mb : Str → Option Value}
theorem rules40_1 : True := by
  k_with "k_enter" => ((refine' code_def ?q94k1 ?q94k2 ?q94k3 ?q94k4 ?q94k5 ?q94kA ?q94kF ?q94kK ?q94k6 ?q94k7 ?q94k8 ?q94k9 ?q94kB ?_ ?q94c2 ?q94c3 ?q94c4 ?q94c5; (case q94kA => exact rfl); (case q94kF => assumption); (case q94kK => assumption); (case q94k1 => k_asm); (case q94k2 => k_asm); (case q94k3 => k_asm); (case q94k4 => k_asm); (case q94k5 => k_asm); (case q94k6 => k_is); (case q94k7 => k_is); (case q94k8 => k_room); (case q94k9 => first | exact BindsTo.of_eq rfl | exact binds_K (by k_in) rfl (by k_is) rfl rfl rfl); (case q94c5 => decide); (case q94kB => exact locs rfl); (case q94c2 => exact rfl); (case q94c3 => exact rfl); (case q94c4 => exact rfl); k_whole; intro _ _ _ _ _ _ B' _ _; (try dsimp only); (try k_lift B'); (try k_fold)))
  k_with "eval Name" => ((k_dflt (first
  | (refine' nameX_L ?q95F ?q95v ?_ ?q95a ?q95b; (case q95F => k_asm); (case q95a => exact rfl); (case q95b => exact rfl); (case q95v => exact rfl); k_whole)
  | (refine' nameX_K ?q95F ?q95X ?q95T ?q95e ?_ ?q95a ?q95b; (case q95F => k_asm); (case q95X => k_asm); (case q95T => k_asm); (case q95a => exact rfl); (case q95b => exact rfl); (case q95e => k_is); k_whole))))
  k_with "k_mem" => (((repeat (refine' List.mem_cons_of_mem _ ?_)); with_reducible assumption))
  k_with "subscriptTail Name Constant ref int" => ((k_dflt (refine tup_at (by k_asm) (by k_mem) (by decide) (by decide) (by rfl) ?_)))
  k_with "subscriptTail Subscript Constant ref int" => ((k_dflt (refine tup_at (by k_asm) (by k_mem) (by decide) (by decide) (by rfl) ?_)))
  k_with "ite" => ((first | (refine ite_pos (by with_reducible assumption) ?_) | (refine ite_neg (by with_reducible assumption) ?_) | (refine ite_pos (by simp only [beq_iff_eq, bne_iff_ne, beq_eq_false_iff_ne, decide_eq_true_eq, decide_eq_false_iff_not, Bool.not_eq_true', Bool.not_eq_false']; omega) ?_) | (refine ite_neg (by simp only [beq_iff_eq, bne_iff_ne, beq_eq_false_iff_ne, decide_eq_true_eq, decide_eq_false_iff_not, Bool.not_eq_true', Bool.not_eq_false']; omega) ?_)))
  k_with "ktr_rel" => (((repeat (refine List.mem_cons_of_mem _ ?_)); assumption))
  k_with "k_all" => (assumption)
  k_with "call ref" => ((k_here; k_dflt (first
  | (refine' Spec.use (f := 104) ?q102C ?q102d1 ?q102d2 ?q102d3 ?q102kA ?q102kF ?q102kK ?q102k1 ?q102k2 ?q102k3 ?q102k4 ?q102k5 ?_; (case q102kA => exact rfl); (case q102kF => first | exact rfl | assumption); (case q102kK => first | exact rfl | assumption); (case q102k1 => k_asm); (case q102k2 => k_asm); (case q102k3 => k_asm); (case q102k4 => k_asm); (case q102k5 => k_asm); (case q102C => exact view_rows (ViewIn.mono (by assumption) (fun _ _ => by ktr_rel))); (case q102d3 => exact rfl); (case q102d1 => exact Nat.le_of_ble_eq_true rfl); (case q102d2 => exact Nat.le_of_ble_eq_true rfl); intro v' n' _ _ po _ _; refine cutP fun R' hR' => ?_; obtain ⟨t9, e1, e2⟩ := po; subst e1; subst n'; refine hR' ?_; clear hR' R'; kaf_suf; (try k_sweep))
  | (refine' Spec.use (f := 146) ?q102C ?q102d1 ?q102d2 ?q102d3 ?q102kA ?q102kF ?q102kK ?q102k1 ?q102k2 ?q102k3 ?q102k4 ?q102k5 ?_; (case q102kA => exact rfl); (case q102kF => first | exact rfl | assumption); (case q102kK => first | exact rfl | assumption); (case q102k1 => k_asm); (case q102k2 => k_asm); (case q102k3 => k_asm); (case q102k4 => k_asm); (case q102k5 => k_asm); (case q102C => exact width_spec (ViewIn.mono (by assumption) (fun _ _ => by ktr_rel)) (by assumption) (by k_extra "om") (by k_extra "om")); (case q102d3 => exact rfl); (case q102d1 => exact Nat.le_of_ble_eq_true rfl); (case q102d2 => exact Nat.le_of_ble_eq_true rfl); intro v' n' _ _ po _ _; refine cutP fun R' hR' => ?_; obtain ⟨t9, e1, e2⟩ := po; subst e1; subst n'; refine hR' ?_; clear hR' R'; kaf_suf; (try k_sweep))
  | (refine' Spec.use (f := 118) ?q102C ?q102d1 ?q102d2 ?q102d3 ?q102kA ?q102kF ?q102kK ?q102k1 ?q102k2 ?q102k3 ?q102k4 ?q102k5 ?_; (case q102kA => exact rfl); (case q102kF => first | exact rfl | assumption); (case q102kK => first | exact rfl | assumption); (case q102k1 => k_asm); (case q102k2 => k_asm); (case q102k3 => k_asm); (case q102k4 => k_asm); (case q102k5 => k_asm); (case q102C => first | exact joinedT (ViewIn.mono (by assumption) (fun _ _ => by ktr_rel)) (by k_extra "om") (by k_extra "om") (by assumption) | exact joinedF (ViewIn.mono (by assumption) (fun _ _ => by ktr_rel)) (by k_extra "om") (by k_extra "om") (by assumption)); (case q102d3 => exact rfl); (case q102d1 => exact Nat.le_of_ble_eq_true rfl); (case q102d2 => exact Nat.le_of_ble_eq_true rfl); intro v' n' _ _ po _ _; refine cutP fun R' hR' => ?_; obtain ⟨e1, e2⟩ := po; subst e1; subst n'; refine hR' ?_; clear hR' R'; kaf_suf; (try k_sweep))
  | (refine' Spec.use (f := 153) ?q102C ?q102d1 ?q102d2 ?q102d3 ?q102kA ?q102kF ?q102kK ?q102k1 ?q102k2 ?q102k3 ?q102k4 ?q102k5 ?_; (case q102kA => exact rfl); (case q102kF => first | exact rfl | assumption); (case q102kK => first | exact rfl | assumption); (case q102k1 => k_asm); (case q102k2 => k_asm); (case q102k3 => k_asm); (case q102k4 => k_asm); (case q102k5 => k_asm); (case q102C => exact codes_spec (CellIn.mono (by assumption) (fun _ _ => by ktr_rel))); (case q102d3 => exact rfl); (case q102d1 => exact Nat.le_of_ble_eq_true rfl); (case q102d2 => exact Nat.le_of_ble_eq_true rfl); intro v' n' _ _ po _ _; refine cutP fun R' hR' => ?_; obtain ⟨e9, es9, e1, ce9, e2⟩ := po; subst e1; subst n'; refine hR' ?_; clear hR' R'; kaf_suf; (try k_sweep))
  | (refine' Spec.use (f := 111) ?q102C ?q102d1 ?q102d2 ?q102d3 ?q102kA ?q102kF ?q102kK ?q102k1 ?q102k2 ?q102k3 ?q102k4 ?q102k5 ?_; (case q102kA => exact rfl); (case q102kF => first | exact rfl | assumption); (case q102kK => first | exact rfl | assumption); (case q102k1 => k_asm); (case q102k2 => k_asm); (case q102k3 => k_asm); (case q102k4 => k_asm); (case q102k5 => k_asm); (case q102C => exact view_line2 (by assumption) (fun _ _ => by ktr_rel) (by k_extra "om") (by assumption)); (case q102d3 => exact rfl); (case q102d1 => exact Nat.le_of_ble_eq_true rfl); (case q102d2 => exact Nat.le_of_ble_eq_true rfl); intro v' n' _ _ po _ _; refine cutP fun R' hR' => ?_; obtain ⟨po, e2⟩ := po; obtain ⟨q1, q2, q3, q4, q5, q6, q7, q8, q9, cs9, e1, f1, f2, f3, g9⟩ := po; subst e1; subst n'; (try dsimp only at g9 f2); (have g9L := g9.length); refine hR' ?_; clear hR' R'; kaf_suf; (try k_sweep)))))
  k_with "exec For Name Call cons nil" => ((k_here; kxt_pos))
  k_with "exec For Tuple Call cons nil" => ((k_here; kxt_pos))
  k_with "pyIter ref" => ((refine halt ?_))
  k_with "call type:enumerate" => ((refine halt ?_))
  k_with "SrcTup" => ((refine halt ?_))
  k_with "eval ListComp" => ((k_here; k_dflt (refine ListComp_Tup (F₀ := by k_asm) (by with_unfolding_all rfl) (by decide) (by rfl) (by decide) (by rfl) ?_)))
  k_with "k_updF" => (first | exact Del.head | (refine' Del.tail ?q109a ?q109b; (case q109a => k_ne); (case q109b => k_updF)))
  k_with "CompEnd" => ((refine halt ?_))
  k_with "FinE" => ((refine halt ?_))
  k_with "call builtin:list.extend" => ((k_here; k_dflt (refine' ext_list ?q112F ?q112N ?q112b ?q112U ?q112z ?_; (case q112F => k_asm); (case q112N => k_asm); (case q112b => k_mem); (case q112U => k_updF); (case q112z => (simp only [List.length_append, List.length_cons, List.length_nil]; k_extra "om"))); intro _ _ _ _; kaf_suf; (try k_sweep)))
  k_with "call builtin:list.append" => ((k_here; k_dflt (refine' list_push ?q113F ?q113N ?q113U ?q113z ?_; (case q113F => k_asm); (case q113N => k_asm); (case q113U => k_upd); (case q113z => k_extra "om")); intro _ _ _; (try k_sweep)))
  k_with "UnrEndW" => ((refine halt ?_))
  k_with "subscriptTail Name Slice ref ref" => ((k_here; k_dflt (refine' cut_list ?q115F ?q115N ?q115m ?q115p ?q115q ?_ ?q115s ?q115t ?q115z; (case q115F => k_asm); (case q115N => k_asm); (case q115m => k_mem); (case q115p => kmk_part); (case q115q => kmk_part); (case q115s => with_unfolding_all rfl); (case q115t => kmk_pure); (case q115z => k_extra "om")); intro _ _ _ _; kaf_pre; (try k_sweep)))
  trivial
inductive VcInv (fl c1 c2 vw : Addr) (I : Nat) (rows : Rows) (news : Led) (left : List Itm) (m : Str → Option Value) (nx : Led) : Prop
  | mk (i : Nat) (vs : List Value) (nf : Nat) (o1 o2 : Obj) (v1 v2 : Option Value) (rest : Led) (u : Str → Option Value)
    (f0 : left = rangeItems 0 i (rows.length - i))
    (f1 : i ≤ rows.length)
    (f2 : m = (fun y => if y = Str.ofString "found" then some (.ref fl) else if y = Str.ofString "view" then some (.ref vw) else u y))
    (f3 : nx = (fl, listOf vs.toArray nf) :: (c1, o1) :: (c2, o2) :: rest)
    (f4 : o1.data = .cell v1)
    (f5 : o2.data = .cell v2)
    (f6 : (∀ p ∈ news, p ∈ rest))
    (f7 : Up I news rest)
    (f8 : DatAll rest vs ((flow rows i).map dS)) : VcInv fl c1 c2 vw I rows news left m nx
inductive VcInv2 (fl c1 c2 vw I B : Nat) (oI o2 : Obj) (wv : Value) (cw : List Value) (xw : List (Option Int)) (ss : List Sign) (ci : Int) (rest0 : Led) (left : List Itm) (m : Str → Option Value) (nx : Led) : Prop
  | mk (k : Nat) (vs : List Value) (nf : Nat) (o1 : Obj) (v1 : Option Value) (rest : Led) (u : Str → Option Value)
    (f0 : left = enumItems k (cw.drop k))
    (f1 : k ≤ cw.length)
    (f2 : m = (fun y => if y = Str.ofString "found" then some (.ref fl) else if y = Str.ofString "view" then some (.ref vw) else if y = Str.ofString "width" then some wv else u y))
    (f3 : nx = (I, oI) :: (fl, listOf vs.toArray nf) :: (c1, o1) :: (c2, o2) :: rest)
    (f4 : o1.data = .cell v1)
    (f5 : (∀ p ∈ rest0, p ∈ rest))
    (f6 : Up B rest0 rest)
    (f7 : DatAll rest vs ((ss ++ cellSigns ci 0 (xw.take k)).map dS)) : VcInv2 fl c1 c2 vw I B oI o2 wv cw xw ss ci rest0 left m nx
theorem sgn_len (i c : Int) (x : Option Int) : (sgn i c x).length ≤ 1 := by
  unfold sgn; split <;> simp
theorem cellSigns_len (i : Int) : ∀ (l : List (Option Int)) c, (cellSigns i c l).length ≤ l.length
  | [], _ => Nat.le_refl _
  | x :: r, c => by
    have h1 := cellSigns_len i r (c + 1)
    have h2 := sgn_len i c x
    simp only [cellSigns, List.length_append, List.length_cons]
    k_extra "om"
theorem rowSigns_len (rows : Rows) (i : Nat) : (rowSigns rows i).length ≤ 5 := by
  unfold rowSigns
  have h1 := cellSigns_len i ((cellsAt rows i).take (wid rows i)) 0
  have h2 := wid_le rows i
  rw [List.length_take] at h1
  rw [List.length_append]
  split <;> simp <;> k_extra "om"
theorem flow_len (rows : Rows) : ∀ i, (flow rows i).length ≤ 5 * i
  | 0 => Nat.le_refl _
  | i + 1 => by
    have h1 := flow_len rows i
    have h2 := rowSigns_len rows i
    simp only [flow, List.length_append]
    k_extra "om"
theorem vc_none {rest : Led} {vs : List Value} {ss : List Sign} {ci : Int} {xw : List (Option Int)} {k : Nat} (hx : xw[k]? = some none) (h : DatAll rest vs ((ss ++ cellSigns ci 0 (xw.take k)).map dS)) : DatAll rest (vs ++ []) ((ss ++ cellSigns ci 0 (xw.take (k + 1))).map dS) := by
  rw [take_snoc hx, cellSigns_snoc]
  simpa [sgn] using h
theorem vc_some {rest : Led} {vs : List Value} {ss : List Sign} {ci kk : Int} {xw : List (Option Int)} {k a : Nat} {t1 t2 t3 : Tok} (hx : xw[k]? = some (some kk)) (h : DatAll rest vs ((ss ++ cellSigns ci 0 (xw.take k)).map dS)) :
    DatAll ((a, tupOf [.int (if kk = 0 then 32 else kk) t1, .int ci t2, .int (k : Int) t3]) :: rest) (vs ++ [.ref a]) ((ss ++ cellSigns ci 0 (xw.take (k + 1))).map dS) := by
  have hk : k < xw.length := (List.getElem?_eq_some_iff.mp hx).1
  rw [take_snoc hx, cellSigns_snoc, ← List.append_assoc, List.map_append]
  refine (h.mono fun p hp => .tail _ hp).append ?_
  rw [List.length_take, Nat.min_eq_left (Nat.le_of_lt hk), Int.zero_add]
  exact .cons (.tuple (.head _) (.cons (.int _ _) (.cons (.int _ _) (.cons (.int _ _) .nil)))) .nil
theorem vc_row1 {rest : Led} {vs : List Value} {rows : Rows} {i : Nat} {ci : Int} {xs : List (Option Int)} (hci : 0 + (i : Int) = ci) (hx : cellsAt rows i = xs) (hj : joined rows (i : Int) = true)
    (h : DatAll rest vs ((flow rows i ++ cellSigns ci 0 (xs.take (wid rows ci.toNat))).map dS)) : DatAll rest vs ((flow rows (i + 1)).map dS) := by
  obtain rfl : ci = (i : Int) := by k_extra "om"
  rw [Int.toNat_natCast] at h
  unfold flow rowSigns
  rw [hx, if_pos hj, List.append_nil]
  exact h
theorem vc_row2 {rest : Led} {vs : List Value} {rows : Rows} {i a : Nat} {ci : Int} {t1 t2 t3 : Tok} {xs : List (Option Int)} (hci : 0 + (i : Int) = ci) (hx : cellsAt rows i = xs) (hj : joined rows (i : Int) = false)
    (h : DatAll rest vs ((flow rows i ++ cellSigns ci 0 (xs.take (wid rows ci.toNat))).map dS)) : DatAll ((a, tupOf [.int 10 t1, .int ci t2, .int (wid rows ci.toNat : Int) t3]) :: rest) (vs ++ [.ref a]) ((flow rows (i + 1)).map dS) := by
  obtain rfl : ci = (i : Int) := by k_extra "om"
  rw [Int.toNat_natCast] at h ⊢
  unfold flow rowSigns
  rw [hx, if_neg (by simp [hj]), ← List.append_assoc, List.map_append]
  exact (h.mono fun p hp => .tail _ hp).append (.cons (.tuple (.head _) (.cons (.int _ _) (.cons (.int _ _) (.cons (.int _ _) .nil)))) .nil)
theorem view_codes_spec {news : Led} {vw : Addr} {rows : Rows} (H : ViewIn w.params news vw rows) (G : GoodRows rows) :
    Spec w loose mean mg mb 570 570 165 [.ref vw] news (fun v n' => ∃ l n vs nn, v = .ref l ∧ n' = (l, listOf vs.toArray n) :: nn ∧ (∀ p ∈ news, p ∈ nn) ∧ AllLt l news ∧ Up l news nn ∧ DatAll nn vs ((flow rows rows.length).map dS)) := by
  intro gd env outer A₀ base h₀ L m s Q E hf hk B F X N T hret
  obtain ⟨dv, hi, gr, n1, t1, t2, m1, m2⟩ := H.obj
  have hr4 := G.2.2.1
  refine wpAny_call ?_
  k_dflt (refine' code_defC ?k1 ?k2 ?k3 ?k4 ?k5 ?kA ?kF ?kK ?k6 ?k7 ?k8 ?k9 ?kB ?kD ?_ ?c2 ?c3 ?c4; (case kA => exact rfl); (case kF => assumption); (case kK => assumption); (case k1 => k_asm); (case k2 => k_asm); (case k3 => k_asm); (case k4 => k_asm); (case k5 => k_asm); (case k6 => k_is); (case k7 => k_is); (case k8 => k_room); (case k9 => first | exact BindsTo.of_eq rfl | exact binds_K (by k_in) rfl (by k_is) rfl rfl rfl); (case kB => exact rfl); (case kD => decide +kernel); (case c2 => exact rfl); (case c3 => exact rfl); (case c4 => exact rfl); k_whole); intro g1 L1 h1 tk1 cells1 FG1 F1 N1 Y1 B1 X1 T1 l1; (try k_lt l1); k_cells Y1; (try simp only [List.cons_append, List.nil_append] at N1); (try dsimp only); (try k_lift B1); (try k_fold)
  k_steps
  rename IsRange _ _ _ _ _ _ _ _ => hR
  rename Fr g1 L1 _ _ => F2
  rename News g1 L1 _ _ => N2
  rename (_ ∧ _ ∧ AllLt _ news) => l2
  rename (∀ p : Addr × Obj, p ∈ news → p.1 < L1) => lN
  obtain ⟨fl, hfl, l2⟩ : ∃ fl : Nat, fl = _ ∧ (L1 + 1 + 1 < fl ∧ L1 + 1 < fl ∧ AllLt fl news) := ⟨_, rfl, l2⟩
  subst hfl
  clear N
  refine Halt.go (iter_rangeTurns (n := rows.length) rfl hR (rng_small (by k_extra "om")) (rng_size _) F2 N2 (fun I hI => items_ind (VcInv _ _ _ vw I rows news) ?_ ?_ _ _ _ ⟨0, [], _, _, _, _, _, news, _, rfl, Nat.zero_le _, named2 rfl rfl, rfl, by assumption, by assumption, fun _ h => h, Up.refl, .nil⟩))
  · clear N2 F2 hR
    replace hI := allLt_of hI
    simp only [AllLt] at hI
    rintro a r m3 nx v h tk its ⟨i, vs, nf, o1, o2, v1, v2, rest, u, hleft, hi, rfl, rfl, d1, d2, hsub, hup, hda⟩ hv hits F3 N3
    obtain ⟨hin, rfl, rfl⟩ := rangeItems_cons hleft hi
    obtain ⟨t, rfl⟩ := hv
    obtain ⟨oI, rfl, hcI⟩ := objs1 hits
    obtain ⟨ci, hci⟩ : ∃ ci : Int, 0 + (i : Int) = ci := ⟨_, rfl⟩
    simp only [List.cons_append, List.nil_append] at N3
    replace N3 : News g1 L1 h _ := N3
    replace F3 : Fr g1 L1 h _ := F3
    show wpAny _ _ (assign _ _ (Value.int (0 + (i : Int)) t)) _ _ _
    rw [hci]
    obtain ⟨b1, b2, b3⟩ := l2
    obtain ⟨b4, b5, b6, -⟩ := hI
    replace b1 := ltN b1
    replace b2 := ltN b2
    replace b4 := ltN b4
    replace b5 := ltN b5
    replace b6 := ltN b6
    have r1 : ∀ p ∈ rest, p.1 ≠ fl := hup.ne (fun p hp => Nat.ne_of_lt (allLt_mem b3 p hp)) (Nat.le_of_lt b4)
    have r2 : ∀ p ∈ rest, p.1 ≠ L1 + 1 + 1 := hup.ne (fun p hp => Nat.ne_of_lt (Nat.lt_trans (lN p hp) (by k_extra "om"))) (Nat.le_of_lt b5)
    have r3 : ∀ p ∈ rest, p.1 ≠ L1 + 1 := hup.ne (fun p hp => Nat.ne_of_lt (Nat.lt_trans (lN p hp) (by k_extra "om"))) (Nat.le_of_lt b6)
    have r4 : ∀ p ∈ rest, p.1 ≠ I := hup.ne (fun p hp => Nat.ne_of_lt (Nat.lt_trans (lN p hp) (by k_extra "om"))) (Nat.le_refl _)
    have hci0 : 0 ≤ ci := by k_extra "om"
    have hci1 : ci < rows.length := by k_extra "om"
    have H3 := H.mono hsub
    obtain ⟨⟨xs, jn⟩, hx⟩ : ∃ x, rows[ci.toNat]? = some x := ⟨_, List.getElem?_eq_getElem (by k_extra "om")⟩
    replace m1 := hsub _ m1
    replace m2 := hsub _ m2
    have hxl : xs.length = 4 := G.1 _ (List.mem_of_getElem? hx)
    k_steps
    obtain ⟨D, hD, l3⟩ : ∃ D : Nat, D = _ ∧ (I < D ∧ fl < D ∧ L1 + 1 + 1 < D ∧ L1 + 1 < D ∧ AllLt D rest) := ⟨_, rfl, by assumption⟩
    subst hD
    rename Fr g1 L1 _ _ => F4
    rename News g1 L1 _ _ => N4
    rename All2 (CellIn rest) _ xs => hcells
    obtain ⟨cs, hcs, hcells⟩ : ∃ cs, cs = _ ∧ All2 (CellIn rest) cs xs := ⟨_, rfl, hcells⟩
    subst hcs
    obtain ⟨ob2, hob2, dd2⟩ : ∃ ob2 : Obj, ob2 = _ ∧ ob2.data = .cell (some (.int ci t)) := ⟨_, rfl, by assumption⟩
    subst hob2
    obtain ⟨b7, b8, b9, b10, b11⟩ := l3
    rw [kms_upto] at N4
    have hcw := hcells.take (wid rows ci.toNat)
    have hcwl := hcw.length
    obtain ⟨cw, hcwe⟩ : ∃ cw, cw = List.take (wid rows ci.toNat) cs := ⟨_, rfl⟩
    rw [← hcwe] at N4 hcw hcwl
    have low : ∀ p ∈ (D, listOf cw.toArray 0) :: rest, p.1 ≠ fl ∧ p.1 ≠ I ∧ p.1 ≠ L1 + 1 + 1 ∧ p.1 ≠ L1 + 1 := by
      intro p hp
      rcases List.mem_cons.mp hp with rfl | hp
      · exact ⟨Nat.ne_of_gt b8, Nat.ne_of_gt b7, Nat.ne_of_gt b9, Nat.ne_of_gt b10⟩
      · exact ⟨r1 p hp, r4 p hp, r2 p hp, r3 p hp⟩
    refine Halt.go (ktu_enum (l := D) (vs := cw) (xs := enumItems 0 cw) rfl F4 (news := (I, oI) :: (fl, listOf vs.toArray nf) :: (L1 + 1 + 1, o1) :: (L1 + 1, ob2) :: (D, listOf cw.toArray 0) :: rest) (fun p hp => N4 p ?_) (.tail _ (.tail _ (.tail _ (.tail _ (.head _))))) rfl rfl rfl (fun I2 hI2 => items_ind (VcInv2 fl (L1 + 1 + 1) (L1 + 1) vw I (I2 + 1) oI ob2 _ cw (xs.take (wid rows ci.toNat)) (flow rows i) ci ((D, listOf cw.toArray 0) :: rest)) ?_ ?_ _ _ _ ⟨0, vs, nf, _, _, _, _, rfl, Nat.zero_le _, named3 rfl rfl rfl, rfl, by assumption, fun _ h => h, Up.refl, ?_⟩))
    · simp only [List.mem_cons] at hp ⊢
      rcases hp with h | h | h | h | h | h <;> simp [h]
    · clear N4 F4
      rintro a r m3 nx v h' tk' its ⟨k, vs2, nf2, o3, v3, rest2, u2, hleft, hk, rfl, rfl, d3, hsub2, hup2, hda2⟩ hv hits F5 N5
      obtain ⟨v', hv', rfl, rfl⟩ := enumItems_cons hleft
      obtain ⟨T, tT, rfl, hT⟩ := hv
      dsimp only at hT
      obtain ⟨oe, ol, rfl, hce, hcl⟩ := objs2 hits
      simp only [List.cons_append, List.nil_append] at N5
      replace N5 : News g1 L1 h' _ := N5
      replace F5 : Fr g1 L1 h' _ := F5
      obtain ⟨x, hx', hcell⟩ := hcw.at' _ _ hv'
      replace hcell := hcell.mono fun p hp => hsub2 p (.tail _ hp)
      replace hI2 := allLt_of hI2
      simp only [AllLt] at hI2
      obtain ⟨i1, i2, i3, i4, i5, i6⟩ := hI2
      replace i1 := ltN i1
      replace i2 := ltN i2
      replace i3 := ltN i3
      replace i4 := ltN i4
      replace i5 := ltN i5
      have s1 : ∀ p ∈ rest2, p.1 ≠ fl := hup2.ne (fun p hp => (low p hp).1) (by k_extra "om")
      have s2 : ∀ p ∈ rest2, p.1 ≠ I := hup2.ne (fun p hp => (low p hp).2.1) (by k_extra "om")
      have s3 : ∀ p ∈ rest2, p.1 ≠ L1 + 1 + 1 := hup2.ne (fun p hp => (low p hp).2.2.1) (by k_extra "om")
      have s4 : ∀ p ∈ rest2, p.1 ≠ L1 + 1 := hup2.ne (fun p hp => (low p hp).2.2.2) (by k_extra "om")
      have z : ∀ p ∈ (D, listOf cw.toArray 0) :: rest, @LT.lt Nat _ p.1 I2 := by
        intro p hp
        rcases List.mem_cons.mp hp with rfl | hp
        · exact i5
        · exact allLt_mem i6 p hp
      have s5 : ∀ p ∈ rest2, p.1 ≠ I2 := hup2.ne (fun p hp => Nat.ne_of_lt (z p hp)) (by k_extra "om")
      have s6 : ∀ p ∈ rest2, p.1 ≠ I2 + 1 := hup2.ne (fun p hp => Nat.ne_of_lt (Nat.lt_succ_of_lt (z p hp))) (by k_extra "om")
      have hvl : vs2.length ≤ 30 := by
        have e1 := hda2.length
        have e2 := flow_len rows i
        have e3 := cellSigns_len ci ((List.take (wid rows ci.toNat) xs).take k) 0
        simp only [List.length_map, List.length_append, List.length_take] at e1 e3
        k_extra "om"
      k_steps
      obtain ⟨es9, hes9, hce⟩ : ∃ es9, es9 = _ ∧ CodesOf x es9 := ⟨_, rfl, by assumption⟩
      subst hes9
      rename Fr g1 L1 _ _ => F6
      rename News g1 L1 _ _ => N6
      obtain ⟨e9, he9, N6⟩ : ∃ e9 : Nat, e9 = _ ∧ News g1 L1 _ ((e9, tupOf es9) :: _) := ⟨_, rfl, N6⟩
      subst he9
      have hk1 : k + 1 ≤ cw.length := (List.getElem?_eq_some_iff.mp hv').1
      have hne9 : es9.length ≤ 200 := by
        cases x with
        | none => rw [show es9 = [] from hce]; exact Nat.zero_le _
        | some kk => obtain ⟨tt, rfl⟩ := hce; exact Nat.le_of_ble_eq_true rfl
      refine Halt.go (SrcTup.intro rfl F6 N6 (.head _) hne9 fun g8 => ?_)
      cases x with
      | none =>
        obtain rfl : es9 = [] := hce
        refine LCg.CompRest.zero (Halt.go ?_)
        intro D7 h7 tk7 F7 N7 o7
        simp only [LCg.Off1] at o7
        replace N7 : News g1 L1 h7 _ := Del.drop (a := e9) N7 (by k_updF)
        k_steps
        rename News g1 L1 _ _ => N9
        replace N9 : News g1 L1 _ _ := Del.drop (a := D7) N9 (by k_updF)
        refine' Halt.go (turn_end (its := [(I2 + 1, oe), (I2, ol)]) (fr := [(I, oI), (fl, _), (L1 + 1 + 1, _), (L1 + 1, ob2)]) (by k_asm) N9 ?dda ?offa ?offra ?keepa ?inva)
        case dda => exact .cons (by k_updF) (.cons (by k_updF) (.cons (by k_updF) (.cons (by k_updF) (.cons (by k_updF) (.cons (by k_updF) .nil)))))
        case offa =>
            intro q hq p hp
            simp only [List.mem_cons, List.not_mem_nil, or_false] at hq hp
            rcases hq with rfl | rfl <;> rcases hp with rfl | rfl | rfl | rfl <;> k_ne
        case offra =>
            intro q hq p hp
            simp only [List.mem_cons, List.not_mem_nil, or_false] at hq
            rcases hq with rfl | rfl
            · exact s6 p hp
            · exact s5 p hp
        case keepa => exact SubL.one (.tail _ (.tail _ (.tail _ (.tail _ (hsub2 _ (.head _))))))
        case inva => exact ⟨k + 1, vs2 ++ [], _, _, _, rest2, _, rfl, hk1, named3 rfl rfl rfl, rfl, by assumption, hsub2, hup2, vc_none hx' hda2⟩
      | some kk =>
        obtain ⟨tt, rfl⟩ := hce
        refine LCg.CompRest.succ ?_
        intro v8 I8 oI8 C8 oC8 D8 m8 h8 tk8 E8 hv8 hC8 hx8 F8 N8 off8 ne8
        obtain rfl : v8 = _ := (Option.some.inj hv8).symm
        have off9 := off8
        simp only [LCg.Off3] at off8
        k_steps
        refine' Halt.go (compEnd_of ?ce1 ?ce2 ?ce3 ?ce4 ?ce5 ?ce6 ?ce7 (LCg.CompRest.zero (Halt.go ?_)))
        case ce1 => k_asm
        case ce2 => k_asm
        case ce3 => k_updF
        case ce4 => k_updF
        case ce5 => k_updF
        case ce6 => exact ⟨⟨by k_ne, by k_ne, by k_ne⟩, off9⟩
        case ce7 => exact ⟨_, .tail _ (.head _), rfl, _, rfl⟩
        clear off8 off9
        intro D7 h7 tk7 F7 N7 o7
        simp only [LCg.Off1] at o7
        replace N7 : News g1 L1 h7 _ := Del.drop (a := e9) N7 (by k_updF)
        k_steps
        rename News g1 L1 _ _ => N9
        replace N9 : News g1 L1 _ _ := Del.drop (a := D7) N9 (by k_updF)
        refine' Halt.go (turn_end (its := [(I2 + 1, oe), (I2, ol)]) (fr := [(I, oI), (fl, _), (L1 + 1 + 1, _), (L1 + 1, ob2)]) (by k_asm) N9 ?ddb ?offb ?offrb ?keepb ?invb)
        case ddb => exact .cons (by k_updF) (.cons (by k_updF) (.cons (by k_updF) (.cons (by k_updF) (.cons (by k_updF) (.cons (by k_updF) .nil)))))
        case offb =>
            intro q hq p hp
            simp only [List.mem_cons, List.not_mem_nil, or_false] at hq hp
            rcases hq with rfl | rfl <;> rcases hp with rfl | rfl | rfl | rfl <;> k_ne
        case offrb =>
            intro q hq p hp
            simp only [List.mem_cons, List.not_mem_nil, or_false] at hq
            rcases hq with rfl | rfl
            · rcases List.mem_cons.mp hp with rfl | hp
              · k_ne
              · exact s6 p hp
            · rcases List.mem_cons.mp hp with rfl | hp
              · k_ne
              · exact s5 p hp
        case keepb => exact SubL.one (.tail _ (.tail _ (.tail _ (.tail _ (.tail _ (hsub2 _ (.head _)))))))
        case invb => exact ⟨k + 1, vs2 ++ [_], _, _, _, _ :: rest2, _, rfl, hk1, named3 rfl rfl rfl, rfl, by assumption, fun p hp => .tail _ (hsub2 p hp), hup2.cons (by k_extra "om"), vc_some hx' hda2⟩
    · clear N4 F4
      rintro m3 nx h' tk' ⟨k, vs2, nf2, o3, v3, rest2, u2, hleft, hk, rfl, rfl, d3, hsub2, hup2, hda2⟩ F5 N5
      replace N5 : News g1 L1 h' _ := N5
      replace F5 : Fr g1 L1 h' _ := F5
      have hkc := enumItems_nil hleft
      have s1 : ∀ p ∈ rest2, p.1 ≠ fl := hup2.ne (fun p hp => (low p hp).1) (by have := allLt_of hI2; simp only [AllLt] at this; k_extra "om")
      have s2 : ∀ p ∈ rest2, p.1 ≠ I := hup2.ne (fun p hp => (low p hp).2.1) (by have := allLt_of hI2; simp only [AllLt] at this; k_extra "om")
      have s3 : ∀ p ∈ rest2, p.1 ≠ L1 + 1 + 1 := hup2.ne (fun p hp => (low p hp).2.2.1) (by have := allLt_of hI2; simp only [AllLt] at this; k_extra "om")
      have s4 : ∀ p ∈ rest2, p.1 ≠ L1 + 1 := hup2.ne (fun p hp => (low p hp).2.2.2) (by have := allLt_of hI2; simp only [AllLt] at this; k_extra "om")
      have hsub3 : ∀ p ∈ rest, p ∈ rest2 := fun p hp => hsub2 p (.tail _ hp)
      have hup3 : Up I news rest2 := hup2.trans (by have := allLt_of hI2; simp only [AllLt] at this; k_extra "om") (Up.cons b7 hup)
      have H4 := H3.mono hsub3
      replace m1 := hsub3 _ m1
      replace m2 := hsub3 _ m2
      have hvl : vs2.length ≤ 30 := by
        have e1 := hda2.length
        have e2 := flow_len rows i
        have e3 := cellSigns_len ci ((List.take (wid rows ci.toNat) xs).take k) 0
        simp only [List.length_map, List.length_append, List.length_take] at e1 e3
        k_extra "om"
      rw [List.take_of_length_le (by k_extra "om")] at hda2
      have hcl : cellsAt rows i = xs := by
        have e : ci.toNat = i := by k_extra "om"
        rw [e] at hx
        unfold cellsAt
        rw [hx]
        rfl
      have e9 : (i : Int) = ci := by k_extra "om"
      clear hx low hI2
      by_cases hj : joined rows ci = true
      · k_steps
        rename News g1 L1 _ _ => N9
        refine' Halt.go (turn_end (its := [(I, oI)]) (fr := [(fl, _), (L1 + 1 + 1, _), (L1 + 1, _)]) (by k_asm) N9 ?ddc ?offc ?offrc ?keepc ?invc)
        case ddc => exact .cons (by k_updF) (.cons (by k_updF) (.cons (by k_updF) (.cons (by k_updF) .nil)))
        case offc =>
            intro q hq p hp
            simp only [List.mem_cons, List.not_mem_nil, or_false] at hq hp
            subst hq
            rcases hp with rfl | rfl | rfl <;> k_ne
        case offrc =>
            intro q hq p hp
            simp only [List.mem_cons, List.not_mem_nil, or_false] at hq
            subst hq
            exact s2 p hp
        case keepc => exact trivial
        case invc => exact ⟨i + 1, vs2, _, _, _, _, _, rest2, _, rfl, hin, named2 rfl rfl, rfl, by assumption, by assumption, fun p hp => hsub3 p (hsub p hp), hup3, vc_row1 hci hcl (by rw [e9]; exact hj) hda2⟩
      · replace hj : joined rows ci = false := by simpa using hj
        k_steps
        rename News g1 L1 _ _ => N9
        refine' Halt.go (turn_end (its := [(I, oI)]) (fr := [(fl, _), (L1 + 1 + 1, _), (L1 + 1, _)]) (by k_asm) N9 ?ddd ?offd ?offrd ?keepd ?invd)
        case ddd => exact .cons (by k_updF) (.cons (by k_updF) (.cons (by k_updF) (.cons (by k_updF) .nil)))
        case offd =>
            intro q hq p hp
            simp only [List.mem_cons, List.not_mem_nil, or_false] at hq hp
            subst hq
            rcases hp with rfl | rfl | rfl <;> k_ne
        case offrd =>
            intro q hq p hp
            simp only [List.mem_cons, List.not_mem_nil, or_false] at hq
            subst hq
            rcases List.mem_cons.mp hp with rfl | hp
            · k_ne
            · exact s2 p hp
        case keepd => exact trivial
        case invd => exact ⟨i + 1, vs2 ++ [_], _, _, _, _, _, _ :: rest2, _, rfl, hin, named2 rfl rfl, rfl, by assumption, by assumption, fun p hp => .tail _ (hsub3 p (hsub p hp)), hup3.cons (by k_extra "om"), vc_row2 hci hcl (by rw [e9]; exact hj) hda2⟩
    · simp only [List.take_zero, cellSigns, List.append_nil]
      exact hda.mono fun p hp => .tail _ hp
  · clear N2 F2 hR
    rintro m3 nx h tk ⟨i, vs, nf, o1, o2, v1, v2, rest, u, hleft, hi, rfl, rfl, d1, d2, hsub, hup, hda⟩ F3 N3
    replace N3 : News g1 L1 h _ := N3
    replace F3 : Fr g1 L1 h _ := F3
    obtain rfl : i = rows.length := Nat.le_antisymm hi (rangeItems_nil hleft)
    k_steps
    have hI' := allLt_of hI
    simp only [AllLt] at hI'
    exact hret _ _ _ _ ⟨fl, nf, vs, rest, rfl, rfl, hsub, l2.2.2, hup.trans (Nat.le_of_lt hI'.1) Up.refl, hda⟩ (by k_asm) (cb_drop (by k_asm) fun p hp => (List.mem_cons.mp hp).elim (fun e => List.mem_cons.mpr (.inl e)) fun hp => .tail _ (.tail _ (.tail _ hp)))
end

end
end Mine
namespace Mine
section
theorem base42 : True := by
  k_with_none
  k_with "execs cons" => (k_here; (with_reducible refine wpAny_execs_cons ?_); (try dsimp only); k_fold)
  k_with "ne" => (first | with_reducible assumption | with_reducible exact Ne.symm (by with_reducible assumption) | with_reducible exact Nat.ne_of_gt (by with_reducible assumption) | with_reducible exact Nat.ne_of_lt (by with_reducible assumption) | with_reducible exact neu (by with_reducible assumption) | with_reducible exact neu' (by with_reducible assumption) | with_reducible exact neu2 (by with_reducible assumption) | with_reducible exact neu2' (by with_reducible assumption) | with_reducible exact Nat.ne_of_lt sl1 | with_reducible exact Nat.ne_of_lt sl2 | with_reducible exact Nat.ne_of_lt sl3 | with_reducible exact Nat.ne_of_lt sl4 | with_reducible exact Nat.ne_of_lt sl5 | with_reducible exact Nat.ne_of_gt sl1 | with_reducible exact Nat.ne_of_gt sl2 | with_reducible exact Nat.ne_of_gt sl3 | with_reducible exact Nat.ne_of_gt sl4 | with_reducible exact Nat.ne_of_gt sl5 | omega)
  k_with "lt2" => omega
  k_with "lt0" => (first | with_reducible assumption | omega)
  k_with "lt1" => omega
  k_with "om" => (first | with_reducible assumption | with_reducible exact Nat.le_of_ble_eq_true (by decide) | with_reducible exact ci0 | with_reducible exact ci1 | with_reducible exact cz0 (by with_reducible assumption) | with_reducible exact cz1 (by with_reducible assumption) | with_reducible exact cz2 (by with_reducible assumption) | with_reducible exact cz3 (by with_reducible assumption) | with_reducible exact lb1 (by with_reducible assumption) (by decide) | with_reducible exact lb4 (by with_reducible assumption) (by decide) | with_reducible exact lb2 (by with_reducible assumption) (by with_reducible assumption) (by decide) | with_reducible exact lb5 (by with_reducible assumption) (by with_reducible assumption) (by decide) | with_reducible exact ci4 (by with_reducible assumption) (by decide) | with_reducible exact ci5 (by with_reducible assumption) (by decide) | with_reducible exact cz4 (by with_reducible assumption) (by with_reducible assumption) | with_reducible exact cz5 (by with_reducible assumption) (by with_reducible assumption) | with_reducible exact cz6 (by with_reducible assumption) (by with_reducible assumption) (by with_reducible assumption) (by decide) | with_reducible exact lp1 (by with_reducible assumption) (by decide) | with_reducible exact le1 (by with_reducible assumption) | with_reducible exact le2 (by with_reducible assumption) | with_reducible exact Nat.le_succ _ | with_reducible exact leu (by with_reducible assumption) | with_reducible exact leu2 (by with_reducible assumption) | with_reducible exact zb1 (by with_reducible assumption) (by decide) | with_reducible exact zb2 (by with_reducible assumption) | with_reducible exact zb3 (by with_reducible assumption) (by decide) | with_reducible exact un1 (by with_reducible assumption) | with_reducible exact sl1 | with_reducible exact sl2 | with_reducible exact sl3 | with_reducible exact sl4 | with_reducible exact sl5 | omega)
  k_with "lt" => (first | with_reducible assumption | omega)
  trivial
def small (k : Int) : Int := if 65 ≤ k ∧ k ≤ 90 then k + 32 else k
def foldBy (f : Bool) (k : Int) : Int := if f = true then small k else k
theorem foldBy_pos {k : Int} (h : 65 ≤ k ∧ k ≤ 90) : foldBy true k = k + 32 := (if_pos rfl).trans (if_pos h)
theorem foldBy_neg {k : Int} (h : ¬ (65 ≤ k ∧ k ≤ 90)) : foldBy true k = k := (if_pos rfl).trans (if_neg h)
section
variable {w : World} {loose : List Str} {mean : ExcName → Option Value} {mg mb : Str → Option Value}
theorem folded_spec {news : Led} {k : Int} {t : Tok} : Spec w loose mean mg mb 590 590 160 [.int k t] news (fun v n' => ∃ t', v = .int (small k) t' ∧ n' = news) := by
  intro gd env outer A₀ base h₀ L m s Q E hf hk B F X N T hret
  by_cases a : 65 ≤ k
  · by_cases b : k ≤ 90
    · refine wpAny_call ?_
      k_dflt (refine' code_def ?k1 ?k2 ?k3 ?k4 ?k5 ?kA ?kF ?kK ?k6 ?k7 ?k8 ?k9 ?kB ?_ ?c2 ?c3 ?c4 ?c5; (case kA => exact rfl); (case kF => assumption); (case kK => assumption); (case k1 => k_asm); (case k2 => k_asm); (case k3 => k_asm); (case k4 => k_asm); (case k5 => k_asm); (case k6 => k_is); (case k7 => k_is); (case k8 => k_room); (case k9 => first | exact BindsTo.of_eq rfl | exact binds_K (by k_in) rfl (by k_is) rfl rfl rfl); (case c5 => decide); (case kB => exact locs rfl); (case c2 => exact rfl); (case c3 => exact rfl); (case c4 => exact rfl); k_whole); intro g1 L1 h1 FG1 F1 N1 B1 X1 T1; (try dsimp only); (try k_lift B1); (try k_fold)
      k_steps
      exact hret _ _ _ _ ⟨_, by rw [show small k = k + 32 from if_pos ⟨a, b⟩], rfl⟩ (by k_asm) (by k_asm)
    · refine wpAny_call ?_
      k_dflt (refine' code_def ?k1 ?k2 ?k3 ?k4 ?k5 ?kA ?kF ?kK ?k6 ?k7 ?k8 ?k9 ?kB ?_ ?c2 ?c3 ?c4 ?c5; (case kA => exact rfl); (case kF => assumption); (case kK => assumption); (case k1 => k_asm); (case k2 => k_asm); (case k3 => k_asm); (case k4 => k_asm); (case k5 => k_asm); (case k6 => k_is); (case k7 => k_is); (case k8 => k_room); (case k9 => first | exact BindsTo.of_eq rfl | exact binds_K (by k_in) rfl (by k_is) rfl rfl rfl); (case c5 => decide); (case kB => exact locs rfl); (case c2 => exact rfl); (case c3 => exact rfl); (case c4 => exact rfl); k_whole); intro g1 L1 h1 FG1 F1 N1 B1 X1 T1; (try dsimp only); (try k_lift B1); (try k_fold)
      k_steps
      exact hret _ _ _ _ ⟨_, by rw [show small k = k from if_neg (by omega)], rfl⟩ (by k_asm) (by k_asm)
  · refine wpAny_call ?_
    k_dflt (refine' code_def ?k1 ?k2 ?k3 ?k4 ?k5 ?kA ?kF ?kK ?k6 ?k7 ?k8 ?k9 ?kB ?_ ?c2 ?c3 ?c4 ?c5; (case kA => exact rfl); (case kF => assumption); (case kK => assumption); (case k1 => k_asm); (case k2 => k_asm); (case k3 => k_asm); (case k4 => k_asm); (case k5 => k_asm); (case k6 => k_is); (case k7 => k_is); (case k8 => k_room); (case k9 => first | exact BindsTo.of_eq rfl | exact binds_K (by k_in) rfl (by k_is) rfl rfl rfl); (case c5 => decide); (case kB => exact locs rfl); (case c2 => exact rfl); (case c3 => exact rfl); (case c4 => exact rfl); k_whole); intro g1 L1 h1 FG1 F1 N1 B1 X1 T1; (try dsimp only); (try k_lift B1); (try k_fold)
    k_steps
    exact hret _ _ _ _ ⟨_, by rw [show small k = k from if_neg (by omega)], rfl⟩ (by k_asm) (by k_asm)
theorem lsmall_spec {news : Led} {k : Int} {t : Tok} {f : Bool} : Spec w loose mean mg mb 590 590 596 [.int k t, .bool f] news (fun v n' => ∃ t', v = .int (foldBy f k) t' ∧ n' = news) := by
  intro gd env outer A₀ base h₀ L m s Q E hf hk B F X N T hret
  cases f
  · refine wpAny_call ?_
    k_dflt (refine' code_def ?k1 ?k2 ?k3 ?k4 ?k5 ?kA ?kF ?kK ?k6 ?k7 ?k8 ?k9 ?kB ?_ ?c2 ?c3 ?c4 ?c5; (case kA => exact rfl); (case kF => assumption); (case kK => assumption); (case k1 => k_asm); (case k2 => k_asm); (case k3 => k_asm); (case k4 => k_asm); (case k5 => k_asm); (case k6 => k_is); (case k7 => k_is); (case k8 => k_room); (case k9 => first | exact BindsTo.of_eq rfl | exact binds_K (by k_in) rfl (by k_is) rfl rfl rfl); (case c5 => decide); (case kB => exact locs rfl); (case c2 => exact rfl); (case c3 => exact rfl); (case c4 => exact rfl); k_whole); intro g1 L1 h1 FG1 F1 N1 B1 X1 T1; (try dsimp only); (try k_lift B1); (try k_fold)
    k_steps
    exact hret _ _ _ _ ⟨_, by rw [show foldBy false k = k from rfl], rfl⟩ (by k_asm) (by k_asm)
  · by_cases a : 65 ≤ k
    · by_cases b : k ≤ 90
      · refine wpAny_call ?_
        k_dflt (refine' code_def ?k1 ?k2 ?k3 ?k4 ?k5 ?kA ?kF ?kK ?k6 ?k7 ?k8 ?k9 ?kB ?_ ?c2 ?c3 ?c4 ?c5; (case kA => exact rfl); (case kF => assumption); (case kK => assumption); (case k1 => k_asm); (case k2 => k_asm); (case k3 => k_asm); (case k4 => k_asm); (case k5 => k_asm); (case k6 => k_is); (case k7 => k_is); (case k8 => k_room); (case k9 => first | exact BindsTo.of_eq rfl | exact binds_K (by k_in) rfl (by k_is) rfl rfl rfl); (case c5 => decide); (case kB => exact locs rfl); (case c2 => exact rfl); (case c3 => exact rfl); (case c4 => exact rfl); k_whole); intro g1 L1 h1 FG1 F1 N1 B1 X1 T1; (try dsimp only); (try k_lift B1); (try k_fold)
        k_steps
        exact hret _ _ _ _ ⟨_, by rw [foldBy_pos ⟨a, b⟩], rfl⟩ (by k_asm) (by k_asm)
      · refine wpAny_call ?_
        k_dflt (refine' code_def ?k1 ?k2 ?k3 ?k4 ?k5 ?kA ?kF ?kK ?k6 ?k7 ?k8 ?k9 ?kB ?_ ?c2 ?c3 ?c4 ?c5; (case kA => exact rfl); (case kF => assumption); (case kK => assumption); (case k1 => k_asm); (case k2 => k_asm); (case k3 => k_asm); (case k4 => k_asm); (case k5 => k_asm); (case k6 => k_is); (case k7 => k_is); (case k8 => k_room); (case k9 => first | exact BindsTo.of_eq rfl | exact binds_K (by k_in) rfl (by k_is) rfl rfl rfl); (case c5 => decide); (case kB => exact locs rfl); (case c2 => exact rfl); (case c3 => exact rfl); (case c4 => exact rfl); k_whole); intro g1 L1 h1 FG1 F1 N1 B1 X1 T1; (try dsimp only); (try k_lift B1); (try k_fold)
        k_steps
        exact hret _ _ _ _ ⟨_, by rw [foldBy_neg (by omega)], rfl⟩ (by k_asm) (by k_asm)
    · refine wpAny_call ?_
      k_dflt (refine' code_def ?k1 ?k2 ?k3 ?k4 ?k5 ?kA ?kF ?kK ?k6 ?k7 ?k8 ?k9 ?kB ?_ ?c2 ?c3 ?c4 ?c5; (case kA => exact rfl); (case kF => assumption); (case kK => assumption); (case k1 => k_asm); (case k2 => k_asm); (case k3 => k_asm); (case k4 => k_asm); (case k5 => k_asm); (case k6 => k_is); (case k7 => k_is); (case k8 => k_room); (case k9 => first | exact BindsTo.of_eq rfl | exact binds_K (by k_in) rfl (by k_is) rfl rfl rfl); (case c5 => decide); (case kB => exact locs rfl); (case c2 => exact rfl); (case c3 => exact rfl); (case c4 => exact rfl); k_whole); intro g1 L1 h1 FG1 F1 N1 B1 X1 T1; (try dsimp only); (try k_lift B1); (try k_fold)
      k_steps
      exact hret _ _ _ _ ⟨_, by rw [foldBy_neg (by omega)], rfl⟩ (by k_asm) (by k_asm)
end
abbrev tupC (vs : List Value) (n : Nat) : Obj := { cls := .type "tuple", data := .seq vs.toArray n }
section
variable {w : World} {A : Around} {E : Value → Shared → Prop} {s : Shared} {h₀ : Heap} {L a b : Addr} {news : Led} {xs ys : List Value} {ns ms : List Int} {ka kb : Nat}
theorem eq_ints {Q : Value → Shared → Prop} (N : News h₀ L s.heap news) (ha : (a, listOf xs.toArray ka) ∈ news) (hb : (b, listOf ys.toArray kb) ∈ news) (hi : IntsAre xs ns) (hj : IntsAre ys ms) (hu : A.units + 64 < cLine) (h : Q (.bool (decide (ns = ms))) s) :
    wpAny (model theProg w) A (compareOp .Eq (.ref a) (.ref b)) Q E s := ke_eq_ints (N.isList ha) (N.isList hb) hi hj hu h
theorem tupC_at {value slice : PySem.Expr} {n : Nat} {vs : List Value} {k : Int} {u : Tok} {v : Value} {Q : Value → Shared → Prop} (N : News h₀ L s.heap news) (hm : (a, tupC vs n) ∈ news) (h0 : 0 ≤ k) (h1 : k < 1000) (hx : vs[k.toNat]? = some v) (h : Q v s)
    (hs : subscripted slice false (.ref a) (.int k u) = operate [.ref a, .int k u] (getItem (.ref a) (.int k u)) := by with_unfolding_all rfl) :
    wpAny (model theProg w) A (subscriptTail value slice (.ref a) (.int k u)) Q E s := by
  have hl : k.toNat < vs.length := (List.getElem?_eq_some_iff.mp hx).1
  refine item_tupleT (j := k.toNat) (News.isTup N hm) (by omega) (by omega) ?_ hx h hs
  unfold seqIndex?
  have e1 : ¬ k < 0 := by omega
  simp only [if_neg e1]
  have e2 : k < vs.length := by omega
  simp [h0, e2]
theorem ne_pair {Q : Value → Shared → Prop} {x y z u : Int} {t1 t2 t3 t4 : Tok} {n m : Nat} (N : News h₀ L s.heap news) (ha : (a, tupC [.int x t1, .int y t2] n) ∈ news) (hb : (b, tupC [.int z t3, .int u t4] m) ∈ news) (hu : A.units + 64 < cLine) (h : Q (.bool (decide ((x, y) ≠ (z, u)))) s) :
    wpAny (model theProg w) A (compareOp .NotEq (.ref a) (.ref b)) Q E s := by
  refine ne_dataH (reads_tuple_at (N.get ha) rfl rfl (.cons (.int _ _) (.cons (.int _ _) .nil))) (reads_tuple_at (N.get hb) rfl rfl (.cons (.int _ _) (.cons (.int _ _) .nil))) rfl rfl hu ?_
  have e : (!PyData.eqv (.tuple [.int x, .int y]) (.tuple [.int z, .int u])) = decide ((x, y) ≠ (z, u)) := by
    simp only [PyData.eqv, PyData.eqvAll, Bool.and_true, ne_eq, Prod.mk.injEq]
    by_cases h1 : x = z <;> by_cases h2 : y = u <;> simp [h1, h2]
  rw [e]
  exact h
end
theorem kms_mid (l : List Value) (a m : Nat) : kms_pick l (some (a : Int)) (some ((a : Int) + (m : Int))) = (l.drop a).take m := by
  unfold kms_pick kms_lo kms_hi
  dsimp only
  rw [if_neg (by omega), if_neg (by omega)]
  have e1 : ((a : Int)).toNat = a := by omega
  have e2 : ((a : Int) + (m : Int)).toNat = a + m := by omega
  rw [e1, e2, kmk_drop_min]
  have h1 : (l.drop a).length = l.length - a := List.length_drop ..
  by_cases h : a + m ≤ l.length
  · rw [Nat.min_eq_left h, Nat.min_eq_left (by omega)]
    congr 1
    omega
  · rw [Nat.min_eq_right (by omega), List.take_of_length_le (i := m) (by omega), List.take_of_length_le]
    omega
theorem ints_pick {vs : List Value} {ns : List Int} (h : IntsAre vs ns) (a m : Nat) : IntsAre ((vs.drop a).take m) ((ns.drop a).take m) := (h.drop a).take m
theorem ints_snoc {vs : List Value} {ns : List Int} {k : Int} {t : Tok} (h : IntsAre vs ns) : IntsAre (vs ++ [.int k t]) (ns ++ [k]) := by
  induction h with
  | nil => exact .cons _ _ .nil
  | cons k t _ ih => exact .cons k t ih
abbrev dP (x : Int × Int) : Dat := .tuple [.int x.1, .int x.2]
theorem inv_int {news : Led} {v : Value} {i : Int} (h : DatIn news v (.int i)) : ∃ t, v = .int i t := by cases h; exact ⟨_, rfl⟩
theorem inv_tup {news : Led} {v : Value} {ds : List Dat} (h : DatIn news v (.tuple ds)) : ∃ a vs n, v = .ref a ∧ (a, tupC vs n) ∈ news ∧ DatAll news vs ds := by cases h with | tuple hm r => exact ⟨_, _, _, rfl, hm, r⟩
theorem inv_cons {news : Led} {vs : List Value} {d : Dat} {ds : List Dat} (h : DatAll news vs (d :: ds)) : ∃ v r, vs = v :: r ∧ DatIn news v d ∧ DatAll news r ds := by cases h with | cons a r => exact ⟨_, _, rfl, a, r⟩
theorem inv_nil {news : Led} {vs : List Value} (h : DatAll news vs []) : vs = [] := by cases h; rfl
theorem inv_two {news : Led} {v : Value} {d e : Dat} (h : DatIn news v (.tuple [d, e])) : ∃ a v1 v2 n, v = .ref a ∧ (a, tupC [v1, v2] n) ∈ news ∧ DatIn news v1 d ∧ DatIn news v2 e := by
  obtain ⟨a, vs, n, rfl, hm, r⟩ := inv_tup h
  obtain ⟨v1, r1, rfl, h1, r⟩ := inv_cons r
  obtain ⟨v2, r2, rfl, h2, r⟩ := inv_cons r
  obtain rfl := inv_nil r
  exact ⟨a, v1, v2, n, rfl, hm, h1, h2⟩
theorem inv_pt {news : Led} {v : Value} {i j : Int} (h : DatIn news v (.tuple [.int i, .int j])) : ∃ a n t1 t2, v = .ref a ∧ (a, tupC [.int i t1, .int j t2] n) ∈ news := by
  obtain ⟨a, v1, v2, n, rfl, hm, h1, h2⟩ := inv_two h
  obtain ⟨t1, rfl⟩ := inv_int h1
  obtain ⟨t2, rfl⟩ := inv_int h2
  exact ⟨a, n, t1, t2, rfl, hm⟩
theorem dat_at {α : Type} {f : α → Dat} {rest : Led} {vs : List Value} {ss : List α} (h : DatAll rest vs (ss.map f)) {k : Nat} {v : Value} (hv : vs[k]? = some v) : ∃ x, ss[k]? = some x ∧ DatIn rest v (f x) := by
  have hl := h.length
  rw [List.length_map] at hl
  have hk : k < ss.length := by rw [← hl]; exact (List.getElem?_eq_some_iff.mp hv).1
  obtain ⟨v', h1, h2⟩ := h.get (k := k) (by rw [List.length_map]; exact hk)
  rw [hv] at h1
  cases h1
  rw [List.getElem_map] at h2
  exact ⟨ss[k], List.getElem?_eq_getElem hk, h2⟩
theorem dS_at {rest : Led} {vs : List Value} {ss : List Sign} (h : DatAll rest vs (ss.map dS)) {k : Nat} {v : Value} (hv : vs[k]? = some v) :
    ∃ x a n t1 t2 t3, ss[k]? = some x ∧ v = .ref a ∧ (a, tupC [.int x.1 t1, .int x.2.1 t2, .int x.2.2 t3] n) ∈ rest := by
  obtain ⟨x, hx, d⟩ := dat_at h hv
  obtain ⟨a, ws, n, rfl, hm, r⟩ := inv_tup d
  obtain ⟨v1, r1, rfl, h1, r⟩ := inv_cons r
  obtain ⟨v2, r2, rfl, h2, r⟩ := inv_cons r
  obtain ⟨v3, r3, rfl, h3, r⟩ := inv_cons r
  obtain rfl := inv_nil r
  obtain ⟨t1, rfl⟩ := inv_int h1
  obtain ⟨t2, rfl⟩ := inv_int h2
  obtain ⟨t3, rfl⟩ := inv_int h3
  exact ⟨x, a, n, t1, t2, t3, hx, rfl, hm⟩
theorem cut_tup3 {w : World} {A : Around} {E : Value → Shared → Prop} {s : Shared} {h₀ : Heap} {L t : Addr} {m : Str → Option Value} {news : Led} {value slice : PySem.Expr} {x y z : Value} {n : Nat} {u : Tok} {Q : Value → Shared → Prop}
    (F : Fr h₀ L s.heap m) (N : News h₀ L s.heap news) (hm : (t, tupC [x, y, z] n) ∈ news)
    (h : ∀ D h', Fr h₀ L h' m → News h₀ L h' ((D, tupOf [y, z]) :: news) → (∀ p ∈ news, p.1 < D) → Q (.ref D) { s with heap := h' })
    (hs : subscripted slice false (.ref t) (.ref s.heap.objs.size) = operate [.ref s.heap.objs.size, .ref t] (getItem (.ref t) (.ref s.heap.objs.size)))
    (hg : ∀ r, letTemporaryGo value (.ref t) r = pure ()) :
    wpAny (model theProg w) A (subscriptTail value slice (.ref t) (.ref s.heap.objs.size)) Q E { s with heap := s.heap.push { cls := .type "slice", data := .fields #[.int 1 u, .none, .none] } } :=
  slice_tuple_from (a := 1) F N (News.isTup N hm) (Nat.le_refl _) (Nat.le_of_ble_eq_true rfl) (fun h' F' N' => h _ h' F' N' fun p hp => Nat.lt_succ_of_lt (Heap.lt_size (N p hp).1)) hs hg (Nat.le_of_ble_eq_true rfl)
theorem named4 {m : Str → Option Value} {x x' x'' y : Str} {v v' v'' u : Value} (e : m x = some v) (e' : m x' = some v') (e'' : m x'' = some v'') (f : m y = some u) :
    m = fun z => if z = x then some v else if z = x' then some v' else if z = x'' then some v'' else if z = y then some u else m z := by
  funext z
  split
  · rename_i h; rw [h, e]
  · split
    · rename_i h; rw [h, e']
    · split
      · rename_i h; rw [h, e'']
      · split
        · rename_i h; rw [h, f]
        · rfl

end
end Mine
namespace Mine
section
theorem base43 : True := by
  k_with_none
  k_with "execs cons" => (k_here; (with_reducible refine wpAny_execs_cons ?_); (try dsimp only); k_fold)
  k_with "ne" => (first | with_reducible assumption | with_reducible exact Ne.symm (by with_reducible assumption) | with_reducible exact Nat.ne_of_gt (by with_reducible assumption) | with_reducible exact Nat.ne_of_lt (by with_reducible assumption) | with_reducible exact neu (by with_reducible assumption) | with_reducible exact neu' (by with_reducible assumption) | with_reducible exact neu2 (by with_reducible assumption) | with_reducible exact neu2' (by with_reducible assumption) | with_reducible exact Nat.ne_of_lt sl1 | with_reducible exact Nat.ne_of_lt sl2 | with_reducible exact Nat.ne_of_lt sl3 | with_reducible exact Nat.ne_of_lt sl4 | with_reducible exact Nat.ne_of_lt sl5 | with_reducible exact Nat.ne_of_gt sl1 | with_reducible exact Nat.ne_of_gt sl2 | with_reducible exact Nat.ne_of_gt sl3 | with_reducible exact Nat.ne_of_gt sl4 | with_reducible exact Nat.ne_of_gt sl5 | omega)
  k_with "lt2" => omega
  k_with "lt0" => (first | with_reducible assumption | omega)
  k_with "lt1" => omega
  k_with "om" => (first | with_reducible assumption | with_reducible exact Nat.le_of_ble_eq_true (by decide) | with_reducible exact ci0 | with_reducible exact ci1 | with_reducible exact cz0 (by with_reducible assumption) | with_reducible exact cz1 (by with_reducible assumption) | with_reducible exact cz2 (by with_reducible assumption) | with_reducible exact cz3 (by with_reducible assumption) | with_reducible exact lb1 (by with_reducible assumption) (by decide) | with_reducible exact lb4 (by with_reducible assumption) (by decide) | with_reducible exact lb2 (by with_reducible assumption) (by with_reducible assumption) (by decide) | with_reducible exact lb5 (by with_reducible assumption) (by with_reducible assumption) (by decide) | with_reducible exact ci4 (by with_reducible assumption) (by decide) | with_reducible exact ci5 (by with_reducible assumption) (by decide) | with_reducible exact cz4 (by with_reducible assumption) (by with_reducible assumption) | with_reducible exact cz5 (by with_reducible assumption) (by with_reducible assumption) | with_reducible exact cz6 (by with_reducible assumption) (by with_reducible assumption) (by with_reducible assumption) (by decide) | with_reducible exact lp1 (by with_reducible assumption) (by decide) | with_reducible exact le1 (by with_reducible assumption) | with_reducible exact le2 (by with_reducible assumption) | with_reducible exact Nat.le_succ _ | with_reducible exact leu (by with_reducible assumption) | with_reducible exact leu2 (by with_reducible assumption) | with_reducible exact zb1 (by with_reducible assumption) (by decide) | with_reducible exact zb2 (by with_reducible assumption) | with_reducible exact zb3 (by with_reducible assumption) (by decide) | with_reducible exact un1 (by with_reducible assumption) | with_reducible exact sl1 | with_reducible exact sl2 | with_reducible exact sl3 | with_reducible exact sl4 | with_reducible exact sl5 | omega)
  k_with "lt" => (first | with_reducible assumption | omega)
  trivial

theorem rc_lt {prog : Program} {w : World} {A : Around} {E : Value → Shared → Prop} {s : Shared} {a b : Int} {t u : Tok} {Q : Value → Shared → Prop} (h : Q (.bool (decide (a < b))) s) : wpAny (model prog w) A (richCompare .Lt (.int a t) (.int b u)) Q E s := lt_int h
theorem tuple_ltPair (l b : Addr) (x y z u : Int) (t1 t2 t3 t4 : Tok) (n n2 : Nat) :
    Meets (Builtin.«tuple.__lt__» ⟨[.ref l, .ref b], []⟩)
      (fun A R s => s.heap.get? l = some (tupC [.int x t1, .int y t2] n) ∧ s.heap.get? b = some (tupC [.int z t3, .int u t4] n2) ∧
        R (.ok (.ret (.bool (decide (x < z ∨ x = z ∧ y < u))))) s) :=
  .of_wp fun prog w A R s h => by
    obtain ⟨hp, g, d, tk, os⟩ := s; obtain ⟨hl, hb, h⟩ := h
    have f2 := AutoSeq1.sub_tuple_tuple
    wp_walk using wpAny_loadPart' hl, wpAny_loadPart' hb, wpAny_forIn_list _ (fun rest b s' => b.1 = none ∧ s' = ⟨hp, g, d, tk, os⟩ ∧ ((rest = [(.int x t1, .int z t3), (.int y t2, .int u t4)]) ∨ (rest = [(.int y t2, .int u t4)] ∧ x = z) ∨ (rest = [] ∧ x = z ∧ y = u))) _
    case turn =>
      rintro ⟨p, q⟩ rest b s' ⟨hb', rfl, h1 | ⟨h1, hxz⟩ | ⟨h1, -⟩⟩
      · injection h1 with h1 h2
        injection h1 with h3 h4
        subst h2 h3 h4
        refine wpAny_bind (SeqAt.EqAt.int_int x t1 z t3 prog w _ _ ?_)
        by_cases hxz : x = z
        · rw [beq_iff_eq.mpr hxz]
          wp_walk
          exact ⟨rfl, rfl, .inr (.inl ⟨rfl, hxz⟩)⟩
        · rw [beq_eq_false_iff_ne.mpr hxz]
          wp_walk using rc_lt
          refine ⟨_, rfl, ?_⟩
          have e : decide (x < z ∨ x = z ∧ y < u) = decide (x < z) := decide_eq_decide.mpr (by omega)
          rw [e] at h
          exact h
      · injection h1 with h1 h2
        injection h1 with h3 h4
        subst h2 h3 h4
        refine wpAny_bind (SeqAt.EqAt.int_int y t2 u t4 prog w _ _ ?_)
        by_cases hyu : y = u
        · rw [beq_iff_eq.mpr hyu]
          wp_walk
          exact ⟨rfl, rfl, .inr (.inr ⟨rfl, hxz, hyu⟩)⟩
        · rw [beq_eq_false_iff_ne.mpr hyu]
          wp_walk using rc_lt
          refine ⟨_, rfl, ?_⟩
          have e : decide (x < z ∨ x = z ∧ y < u) = decide (y < u) := decide_eq_decide.mpr (by omega)
          rw [e] at h
          exact h
      · cases h1
    case fin =>
      rintro ⟨b1, b2⟩ s' ⟨hb', rfl, h1 | ⟨h1, hxz⟩ | ⟨-, hxz, hyu⟩⟩
      · cases h1
      · cases h1
      simp only at hb'
      subst hb'
      wp_walk
      refine ⟨_, rfl, ?_⟩
      have e : decide (x < z ∨ x = z ∧ y < u) = false := decide_eq_false (by omega)
      rw [e] at h
      exact h
    case h => exact ⟨rfl, rfl, .inl rfl⟩
theorem lt_pair {w : World} {A : Around} {E : Value → Shared → Prop} {s : Shared} {h₀ : Heap} {L a b : Addr} {news : Led} {Q : Value → Shared → Prop} {x y z u : Int} {t1 t2 t3 t4 : Tok} {n m : Nat} (N : News h₀ L s.heap news) (ha : (a, tupC [.int x t1, .int y t2] n) ∈ news) (hb : (b, tupC [.int z t3, .int u t4] m) ∈ news) (hu : A.units + 64 < cLine)
    (h : Q (.bool (decide (x < z ∨ x = z ∧ y < u))) s) : wpAny (model theProg w) A (compareOp .Lt (.ref a) (.ref b)) Q E s :=
  cmp_ofLt (richCompare_meets_room (op := .Lt) ⟨_, N.get ha, rfl⟩ ⟨_, N.get hb, rfl⟩ F.slot_tuple_lt F.entry_tuple_lt (F.args_tuple_lt_2 _ _) (tuple_ltPair a b x y z u t1 t2 t3 t4 n m)
    ⟨N.get ha, N.get hb, show Value.bool (decide (x < z ∨ x = z ∧ y < u)) ≠ Value.notImplemented ∧ Q (.bool (decide (x < z ∨ x = z ∧ y < u))) s from ⟨(fun x => nomatch x), h⟩⟩ (by omega))


theorem rc_ge {prog : Program} {w : World} {A : Around} {E : Value → Shared → Prop} {s : Shared} {a b : Int} {t u : Tok} {Q : Value → Shared → Prop} (h : Q (.bool (decide (b ≤ a))) s) : wpAny (model prog w) A (richCompare .GtE (.int a t) (.int b u)) Q E s := ge_int h
theorem tuple_gePair (l b : Addr) (x y z u : Int) (t1 t2 t3 t4 : Tok) (n n2 : Nat) :
    Meets (Builtin.«tuple.__ge__» ⟨[.ref l, .ref b], []⟩)
      (fun A R s => s.heap.get? l = some (tupC [.int x t1, .int y t2] n) ∧ s.heap.get? b = some (tupC [.int z t3, .int u t4] n2) ∧
        R (.ok (.ret (.bool (decide (z < x ∨ x = z ∧ u ≤ y))))) s) :=
  .of_wp fun prog w A R s h => by
    obtain ⟨hp, g, d, tk, os⟩ := s; obtain ⟨hl, hb, h⟩ := h
    have f2 := AutoSeq1.sub_tuple_tuple
    wp_walk using wpAny_loadPart' hl, wpAny_loadPart' hb, wpAny_forIn_list _ (fun rest b s' => b.1 = none ∧ s' = ⟨hp, g, d, tk, os⟩ ∧ ((rest = [(.int x t1, .int z t3), (.int y t2, .int u t4)]) ∨ (rest = [(.int y t2, .int u t4)] ∧ x = z) ∨ (rest = [] ∧ x = z ∧ y = u))) _
    case turn =>
      rintro ⟨p, q⟩ rest b s' ⟨hb', rfl, h1 | ⟨h1, hxz⟩ | ⟨h1, -⟩⟩
      · injection h1 with h1 h2
        injection h1 with h3 h4
        subst h2 h3 h4
        refine wpAny_bind (SeqAt.EqAt.int_int x t1 z t3 prog w _ _ ?_)
        by_cases hxz : x = z
        · rw [beq_iff_eq.mpr hxz]
          wp_walk
          exact ⟨rfl, rfl, .inr (.inl ⟨rfl, hxz⟩)⟩
        · rw [beq_eq_false_iff_ne.mpr hxz]
          wp_walk using rc_ge
          refine ⟨_, rfl, ?_⟩
          have e : decide (z < x ∨ x = z ∧ u ≤ y) = decide (z ≤ x) := decide_eq_decide.mpr (by omega)
          rw [e] at h
          exact h
      · injection h1 with h1 h2
        injection h1 with h3 h4
        subst h2 h3 h4
        refine wpAny_bind (SeqAt.EqAt.int_int y t2 u t4 prog w _ _ ?_)
        by_cases hyu : y = u
        · rw [beq_iff_eq.mpr hyu]
          wp_walk
          exact ⟨rfl, rfl, .inr (.inr ⟨rfl, hxz, hyu⟩)⟩
        · rw [beq_eq_false_iff_ne.mpr hyu]
          wp_walk using rc_ge
          refine ⟨_, rfl, ?_⟩
          have e : decide (z < x ∨ x = z ∧ u ≤ y) = decide (u ≤ y) := decide_eq_decide.mpr (by omega)
          rw [e] at h
          exact h
      · cases h1
    case fin =>
      rintro ⟨b1, b2⟩ s' ⟨hb', rfl, h1 | ⟨h1, hxz⟩ | ⟨-, hxz, hyu⟩⟩
      · cases h1
      · cases h1
      simp only at hb'
      subst hb'
      wp_walk
      refine ⟨_, rfl, ?_⟩
      have e : decide (z < x ∨ x = z ∧ u ≤ y) = true := decide_eq_true (by omega)
      rw [e] at h
      exact h
    case h => exact ⟨rfl, rfl, .inl rfl⟩
theorem ge_pair {w : World} {A : Around} {E : Value → Shared → Prop} {s : Shared} {h₀ : Heap} {L a b : Addr} {news : Led} {Q : Value → Shared → Prop} {x y z u : Int} {t1 t2 t3 t4 : Tok} {n m : Nat} (N : News h₀ L s.heap news) (ha : (a, tupC [.int x t1, .int y t2] n) ∈ news) (hb : (b, tupC [.int z t3, .int u t4] m) ∈ news) (hu : A.units + 64 < cLine)
    (h : Q (.bool (decide (z < x ∨ x = z ∧ u ≤ y))) s) : wpAny (model theProg w) A (compareOp .GtE (.ref a) (.ref b)) Q E s :=
  cmp_ofGtE (richCompare_meets_room (op := .GtE) ⟨_, N.get ha, rfl⟩ ⟨_, N.get hb, rfl⟩ F.slot_tuple_ge F.entry_tuple_ge (F.args_tuple_ge_2 _ _) (tuple_gePair a b x y z u t1 t2 t3 t4 n m)
    ⟨N.get ha, N.get hb, show Value.bool (decide (z < x ∨ x = z ∧ u ≤ y)) ≠ Value.notImplemented ∧ Q (.bool (decide (z < x ∨ x = z ∧ u ≤ y))) s from ⟨(fun x => nomatch x), h⟩⟩ (by omega))


end
end Mine
namespace Mine
section
theorem base44 : True := by
  k_with_none
  k_with "execs cons" => (k_here; (with_reducible refine wpAny_execs_cons ?_); (try dsimp only); k_fold)
  k_with "ne" => (first | with_reducible assumption | with_reducible exact Ne.symm (by with_reducible assumption) | with_reducible exact Nat.ne_of_gt (by k_extra "lt0") | with_reducible exact Nat.ne_of_lt (by k_extra "lt0") | with_reducible exact Nat.ne_of_gt (by k_extra "lt2") | with_reducible exact Nat.ne_of_lt (by k_extra "lt2") | with_reducible exact neu (by with_reducible assumption) | with_reducible exact neu' (by with_reducible assumption) | with_reducible exact neu2 (by with_reducible assumption) | with_reducible exact neu2' (by with_reducible assumption) | with_reducible exact neu (by k_extra "lt0") | with_reducible exact neu' (by k_extra "lt0") | with_reducible exact Nat.ne_of_lt sl1 | with_reducible exact Nat.ne_of_lt sl2 | with_reducible exact Nat.ne_of_lt sl3 | with_reducible exact Nat.ne_of_lt sl4 | with_reducible exact Nat.ne_of_lt sl5 | with_reducible exact Nat.ne_of_gt sl1 | with_reducible exact Nat.ne_of_gt sl2 | with_reducible exact Nat.ne_of_gt sl3 | with_reducible exact Nat.ne_of_gt sl4 | with_reducible exact Nat.ne_of_gt sl5 | k_extra "neX" | omega)
  k_with "lt2" => (refine Nat.lt_trans (by with_reducible assumption) ?_; first | with_reducible assumption | k_extra "lt2")
  k_with "lt0" => (first | with_reducible assumption | exact pj0 (by with_reducible assumption) | exact pj1 (by with_reducible assumption) | exact pj2 (by with_reducible assumption) | exact pj3 (by with_reducible assumption) | exact pj4 (by with_reducible assumption) | exact pj5 (by with_reducible assumption) | exact pj6 (by with_reducible assumption) | exact pj7 (by with_reducible assumption) | exact pj8 (by with_reducible assumption) | exact pj9 (by with_reducible assumption) | exact pj10 (by with_reducible assumption) | exact pj11 (by with_reducible assumption) | exact pj12 (by with_reducible assumption) | exact pj13 (by with_reducible assumption) | exact pj14 (by with_reducible assumption) | exact pj15 (by with_reducible assumption) | exact pj16 (by with_reducible assumption))
  k_with "lt1" => (refine Nat.lt_trans (by k_extra "lt0") ?_; first | k_extra "lt0" | k_extra "lt1")
  k_with "om" => (first | with_reducible assumption | with_reducible exact Nat.le_of_ble_eq_true (by decide) | with_reducible exact ci0 | with_reducible exact ci1 | with_reducible exact cz0 (by with_reducible assumption) | with_reducible exact cz1 (by with_reducible assumption) | with_reducible exact cz2 (by with_reducible assumption) | with_reducible exact cz3 (by with_reducible assumption) | with_reducible exact lb1 (by with_reducible assumption) (by decide) | with_reducible exact lb4 (by with_reducible assumption) (by decide) | with_reducible exact lb2 (by with_reducible assumption) (by with_reducible assumption) (by decide) | with_reducible exact lb5 (by with_reducible assumption) (by with_reducible assumption) (by decide) | with_reducible exact ci4 (by with_reducible assumption) (by decide) | with_reducible exact ci5 (by with_reducible assumption) (by decide) | with_reducible exact cz4 (by with_reducible assumption) (by with_reducible assumption) | with_reducible exact cz5 (by with_reducible assumption) (by with_reducible assumption) | with_reducible exact cz6 (by with_reducible assumption) (by with_reducible assumption) (by with_reducible assumption) (by decide) | with_reducible exact lp1 (by with_reducible assumption) (by decide) | with_reducible exact le1 (by with_reducible assumption) | with_reducible exact le2 (by with_reducible assumption) | with_reducible exact Nat.le_succ _ | with_reducible exact leu (by with_reducible assumption) | with_reducible exact leu2 (by with_reducible assumption) | with_reducible exact zb1 (by with_reducible assumption) (by decide) | with_reducible exact zb2 (by with_reducible assumption) | with_reducible exact zb3 (by with_reducible assumption) (by decide) | with_reducible exact un1 (by with_reducible assumption) | with_reducible exact sl1 | with_reducible exact sl2 | with_reducible exact sl3 | with_reducible exact sl4 | with_reducible exact sl5 | with_reducible exact Nat.le_of_lt (by k_extra "lt0") | omega)
  k_with "lt" => (first | k_extra "lt0" | k_extra "lt1")
  trivial
def place (ss : List Sign) (n : Nat) : Int × Int := (ss.getD n (0, 0, 0)).2
def hitAt (ss : List Sign) (g : Int → Int) (wn : List Int) (n : Nat) : Bool := decide (((ss.map fun x => g x.1).drop n).take wn.length = wn)
def hits (ss : List Sign) (g : Int → Int) (wn : List Int) : Nat → List (Int × Int)
  | 0 => []
  | n + 1 => hits ss g wn n ++ (if hitAt ss g wn n = true then [place ss n] else [])
theorem hits_len (ss : List Sign) (g : Int → Int) (wn : List Int) : ∀ n, (hits ss g wn n).length ≤ n
  | 0 => Nat.le_refl _
  | n + 1 => by
    have h := hits_len ss g wn n
    unfold hits
    rw [List.length_append]
    split <;> simp <;> k_extra "om"
def cnt (ss : List Sign) (codes : List Int) : Nat := if codes = [] then 0 else ss.length + 1 - codes.length
/-- no two signs that follow one another stand at one place -/
def Apart (ss : List Sign) : Prop := ∀ k x y, ss[k]? = some x → ss[k + 1]? = some y → x.2 ≠ y.2
theorem ar44a {i n s c : Nat} (hin : i < n) (hn : s + 1 - c = n) (hc : 0 < c) : i < s := by k_extra "om"
theorem ar44b {s r : Nat} (h : s ≤ 5 * r) (hr : r ≤ 4) : s ≤ 20 := by k_extra "om"
theorem ar44c {i s : Nat} {ci : Int} (e : 0 + (i : Int) = ci) (h : i < s) (hs : s ≤ 20) : ci.toNat = i ∧ 0 ≤ ci ∧ ci < 1000 := by k_extra "om"
theorem ar44d {i : Nat} {ci : Int} (e : 0 + (i : Int) = ci) (h0 : ¬ ci = 0) (h1 : ci < 1000) : (ci - 1).toNat + 1 = i ∧ 0 ≤ ci - 1 ∧ ci - 1 < 1000 := by k_extra "om"
theorem ar44e {s m : Nat} (hs : s ≤ 20) (hm : m ≤ 3) : -2 ^ 62 ≤ (s : Int) - m + 1 ∧ (s : Int) - m + 1 < 2 ^ 62 := by k_extra "om"
theorem ar44f {s m n : Nat} (hn : s + 1 - m = n) : (((s : Int) - m + 1 - 0).toNat : Nat) = n := by k_extra "om"
section
variable {w : World} {loose : List Str} {mean : ExcName → Option Value} {mg mb : Str → Option Value}
theorem rules44_1 : True := by
  k_with "k_enter" => ((refine' code_def ?q116k1 ?q116k2 ?q116k3 ?q116k4 ?q116k5 ?q116kA ?q116kF ?q116kK ?q116k6 ?q116k7 ?q116k8 ?q116k9 ?q116kB ?_ ?q116c2 ?q116c3 ?q116c4 ?q116c5; (case q116kA => exact rfl); (case q116kF => assumption); (case q116kK => assumption); (case q116k1 => k_asm); (case q116k2 => k_asm); (case q116k3 => k_asm); (case q116k4 => k_asm); (case q116k5 => k_asm); (case q116k6 => k_is); (case q116k7 => k_is); (case q116k8 => k_room); (case q116k9 => first | exact BindsTo.of_eq rfl | exact binds_K (by k_in) rfl (by k_is) rfl rfl rfl); (case q116c5 => decide); (case q116kB => exact locs rfl); (case q116c2 => exact rfl); (case q116c3 => exact rfl); (case q116c4 => exact rfl); k_whole; intro _ _ _ _ _ _ B' _ _; (try dsimp only); (try k_lift B'); (try k_fold)))
  k_with "eval Name" => ((k_dflt (first
  | (refine' nameX_L ?q117F ?q117v ?_ ?q117a ?q117b; (case q117F => k_asm); (case q117a => exact rfl); (case q117b => exact rfl); (case q117v => exact rfl); k_whole)
  | (refine' nameX_K ?q117F ?q117X ?q117T ?q117e ?_ ?q117a ?q117b; (case q117F => k_asm); (case q117X => k_asm); (case q117T => k_asm); (case q117a => exact rfl); (case q117b => exact rfl); (case q117e => k_is); k_whole))))
  k_with "k_mem" => (((repeat (refine' List.mem_cons_of_mem _ ?_)); with_reducible assumption))
  k_with "subscriptTail Name Constant ref int" => ((k_dflt (refine tup_at (by k_asm) (by k_mem) (by decide) (by decide) (by rfl) ?_)))
  k_with "subscriptTail Subscript Constant ref int" => ((k_dflt (refine tup_at (by k_asm) (by k_mem) (by decide) (by decide) (by rfl) ?_)))
  k_with "ite" => ((first | (refine ite_pos (by with_reducible assumption) ?_) | (refine ite_neg (by with_reducible assumption) ?_) | (refine ite_pos (by simp only [beq_iff_eq, bne_iff_ne, beq_eq_false_iff_ne, decide_eq_true_eq, decide_eq_false_iff_not, Bool.not_eq_true', Bool.not_eq_false']; omega) ?_) | (refine ite_neg (by simp only [beq_iff_eq, bne_iff_ne, beq_eq_false_iff_ne, decide_eq_true_eq, decide_eq_false_iff_not, Bool.not_eq_true', Bool.not_eq_false']; omega) ?_)))
  k_with "ktr_rel" => (((repeat (refine List.mem_cons_of_mem _ ?_)); with_reducible assumption))
  k_with "k_all" => (assumption)
  k_with "call ref" => ((k_here; k_dflt (first
  | (refine' Spec.use (f := 165) ?q124C ?q124d1 ?q124d2 ?q124d3 ?q124kA ?q124kF ?q124kK ?q124k1 ?q124k2 ?q124k3 ?q124k4 ?q124k5 ?_; (case q124kA => exact rfl); (case q124kF => first | exact rfl | assumption); (case q124kK => first | exact rfl | assumption); (case q124k1 => k_asm); (case q124k2 => k_asm); (case q124k3 => k_asm); (case q124k4 => k_asm); (case q124k5 => k_asm); (case q124C => exact view_codes_spec (ViewIn.mono (by assumption) (fun _ _ => by ktr_rel)) (by assumption)); (case q124d3 => exact rfl); (case q124d1 => exact Nat.le_of_ble_eq_true rfl); (case q124d2 => exact Nat.le_of_ble_eq_true rfl); intro _ _ _ _ _ _ _; (try k_sweep); refine halt ?_)
  | (refine' Spec.use (f := 160) ?q124C ?q124d1 ?q124d2 ?q124d3 ?q124kA ?q124kF ?q124kK ?q124k1 ?q124k2 ?q124k3 ?q124k4 ?q124k5 ?_; (case q124kA => exact rfl); (case q124kF => first | exact rfl | assumption); (case q124kK => first | exact rfl | assumption); (case q124k1 => k_asm); (case q124k2 => k_asm); (case q124k3 => k_asm); (case q124k4 => k_asm); (case q124k5 => k_asm); (case q124C => exact folded_spec); (case q124d3 => exact rfl); (case q124d1 => exact Nat.le_of_ble_eq_true rfl); (case q124d2 => exact Nat.le_of_ble_eq_true rfl); intro v' n' _ _ po _ _; refine cutP fun R' hR' => ?_; obtain ⟨t9, e1, e2⟩ := po; subst e1; subst n'; refine hR' ?_; clear hR' R'; kaf_suf; (try k_sweep)))))
  k_with "exec For Name Call cons nil" => ((k_here; kxt_pos))
  k_with "pyIter ref" => ((refine halt ?_))
  k_with "k_updF" => (first | exact Del.head | (refine' Del.tail ?q127a ?q127b; (case q127a => k_ne); (case q127b => k_updF)))
  k_with "CompEnd" => ((refine halt ?_))
  k_with "CompSrc" => ((refine halt ?_))
  k_with "FinA" => ((refine halt ?_))
  k_with "subscriptTail" => ((k_here; (with_reducible show wpAny _ _ (subscriptTail _ _ (Value.ref _) (Value.int _ _)) _ _ _); k_dflt (first | (refine list_at (by k_asm) (by k_mem) (by first | assumption | k_extra "om") (by first | assumption | k_extra "om") (by assumption) ?_) | (refine tupC_at (by k_asm) (by k_mem) (by decide) (by decide) (by rfl) ?_))))
  k_with "subscriptTail Name Constant ref int" => ((k_here; k_dflt (refine tupC_at (by k_asm) (by k_mem) (by decide) (by decide) (by rfl) ?_)))
  k_with "subscriptTail Name Slice ref ref" => ((k_here; (with_reducible show wpAny _ _ (subscriptTail _ (PySem.Expr.Slice (some (PySem.Expr.Constant _ _ _)) none none _) (Value.ref _) (Value.ref _)) _ _ _); k_dflt (refine' cut_tup3 ?q133F ?q133N ?q133m ?_ ?q133s ?q133t; (case q133F => k_asm); (case q133N => k_asm); (case q133m => ktr_rel); (case q133s => with_unfolding_all rfl); (case q133t => kmk_pure)); intro _ _ _ _; kaf_pre; (try k_sweep)))
  k_with "compareOp NotEq ref ref" => ((k_here; k_dflt (first
  | (refine ne_nil (by k_asm) (by k_mem) (by k_mem) (by exact Nat.le_of_ble_eq_true rfl) ?_; first | rw [decide_eq_true (by assumption)] | rw [decide_eq_false (by assumption)])
  | (refine ne_pair (by k_asm) (by k_mem) (by k_mem) (by exact Nat.le_of_ble_eq_true rfl) ?_; rw [decide_eq_true (by assumption)]))))
  k_with "compareOp Eq ref ref" => ((k_here; k_dflt (refine eq_ints (by k_asm) (by k_mem) (by k_mem) (by assumption) (by assumption) (by exact Nat.le_of_ble_eq_true rfl) ?_)))
  k_with "call builtin:len" => ((k_here; (with_reducible show wpAny _ _ (call (Value.builtin "len") [Value.ref _]) _ _ _); k_dflt (refine len_listK (by k_asm) (by k_mem) (by first | assumption | k_extra "om") ?_); intro _ _))
  k_with "call builtin:list.append" => ((k_here; k_dflt (refine' list_push ?q137F ?q137N ?q137U ?q137z ?_; (case q137F => k_asm); (case q137N => k_asm); (case q137U => k_upd); (case q137z => first | assumption | k_extra "om")); intro _ _ _; (try k_sweep)))
  k_with "UnrEndW" => ((refine halt ?_))
  trivial
inductive FpInv (fl D2 D1 l I : Nat) (wvs svs : List Value) (ss : List Sign) (g : Int → Int) (wn : List Int) (n : Nat) (rest0 : Led) (left : List Itm) (m : Str → Option Value) (nx : Led) : Prop
  | mk (i : Nat) (vs : List Value) (nf : Nat) (rest : Led) (u : Str → Option Value)
    (f0 : left = rangeItems 0 i (n - i))
    (f1 : i ≤ n)
    (f2 : m = (fun y => if y = Str.ofString "found" then some (.ref fl) else if y = Str.ofString "wanted" then some (.ref D2) else if y = Str.ofString "signs" then some (.ref D1) else if y = Str.ofString "told" then some (.ref l) else u y))
    (f3 : nx = (fl, listOf vs.toArray nf) :: (D2, listOf wvs.toArray wvs.length) :: (D1, listOf svs.toArray svs.length) :: rest)
    (f4 : (∀ p ∈ rest0, p ∈ rest))
    (f5 : Up I rest0 rest)
    (f6 : DatAll rest vs ((hits ss g wn i).map dP)) : FpInv fl D2 D1 l I wvs svs ss g wn n rest0 left m nx
theorem mid_eq {ns : List Int} {i m : Nat} {ci : Int} (h : 0 + (i : Int) = ci) (hi : i ≤ ns.length) : List.take (min (ci + (m : Int)).toNat ns.length - ci.toNat) (List.drop ci.toNat ns) = (ns.drop i).take m := by
  have e : ci.toNat = i := by k_extra "om"
  have e2 : (ci + (m : Int)).toNat = i + m := by k_extra "om"
  rw [e, e2]
  have h1 : (ns.drop i).length = ns.length - i := List.length_drop ..
  by_cases h : i + m ≤ ns.length
  · rw [Nat.min_eq_left h]; congr 1; k_extra "om"
  · rw [Nat.min_eq_right (by k_extra "om"), List.take_of_length_le (i := m) (by k_extra "om"), List.take_of_length_le (by k_extra "om")]
theorem fp_yes {rest : Led} {vs : List Value} {ss : List Sign} {g : Int → Int} {wn : List Int} {i a : Nat} {x : Sign} {t2 t3 : Tok} (hx : ss[i]? = some x) (hh : ((ss.map fun x => g x.1).drop i).take wn.length = wn) (h : DatAll rest vs ((hits ss g wn i).map dP)) :
    DatAll ((a, tupOf [.int x.2.1 t2, .int x.2.2 t3]) :: rest) (vs ++ [.ref a]) ((hits ss g wn (i + 1)).map dP) := by
  have e1 : hitAt ss g wn i = true := decide_eq_true hh
  have e2 : place ss i = x.2 := by unfold place; rw [List.getD_eq_getElem?_getD, hx]; rfl
  unfold hits
  rw [if_pos e1, e2, List.map_append]
  exact (h.mono fun p hp => .tail _ hp).append (.cons (.tuple (.head _) (.cons (.int _ _) (.cons (.int _ _) .nil))) .nil)
theorem fp_no {rest : Led} {vs : List Value} {ss : List Sign} {g : Int → Int} {wn : List Int} {i : Nat} (hh : ¬ ((ss.map fun x => g x.1).drop i).take wn.length = wn) (h : DatAll rest vs ((hits ss g wn i).map dP)) :
    DatAll rest vs ((hits ss g wn (i + 1)).map dP) := by
  have e1 : hitAt ss g wn i = false := decide_eq_false hh
  unfold hits
  rw [e1, if_neg (by decide), List.append_nil]
  exact h
theorem found_places_spec {news : Led} {vw cw : Addr} {rows : Rows} {cvs : List Value} {codes : List Int} {cn : Nat} {f : Bool} (H : ViewIn w.params news vw rows) (G : GoodRows rows) (hc : (cw, listOf cvs.toArray cn) ∈ news) (hi : IntsAre cvs codes) (hcl : codes.length ≤ 3) (ha : Apart (flow rows rows.length)) :
    Spec w loose mean mg mb 560 560 171 [.ref vw, .ref cw, .bool f] news (fun v n' => ∃ B l n vs nn, v = .ref l ∧ n' = (l, listOf vs.toArray n) :: nn ∧ (∀ p ∈ news, p ∈ nn) ∧ AllLt B news ∧ @LT.lt Nat _ B l ∧ Up B news nn ∧
      DatAll nn vs ((hits (flow rows rows.length) (foldBy f) (codes.map (foldBy f)) (cnt (flow rows rows.length) codes)).map dP)) := by
  intro gd env outer A₀ base h₀ L m s Q E hf hk B F X N T hret
  refine wpAny_call ?_
  k_dflt (refine' code_defC ?k1 ?k2 ?k3 ?k4 ?k5 ?kA ?kF ?kK ?k6 ?k7 ?k8 ?k9 ?kB ?kD ?_ ?c2 ?c3 ?c4; (case kA => exact rfl); (case kF => assumption); (case kK => assumption); (case k1 => k_asm); (case k2 => k_asm); (case k3 => k_asm); (case k4 => k_asm); (case k5 => k_asm); (case k6 => k_is); (case k7 => k_is); (case k8 => k_room); (case k9 => first | exact BindsTo.of_eq rfl | exact binds_K (by k_in) rfl (by k_is) rfl rfl rfl); (case kB => exact rfl); (case kD => decide +kernel); (case c2 => exact rfl); (case c3 => exact rfl); (case c4 => exact rfl); k_whole); intro g1 L1 h1 tk1 cells1 FG1 F1 N1 Y1 B1 X1 T1 l1; (try k_lt l1); k_cells Y1; (try simp only [List.cons_append, List.nil_append] at N1); (try dsimp only); (try k_lift B1); (try k_fold)
  k_steps
  rename_i v9 n9 h9 tk9 po F9 N9
  obtain ⟨l, nl, tvs, nn, rfl, rfl, sb, lt, up, da⟩ := po
  replace hc := sb _ (.tail _ hc)
  rename (∀ p : Addr × Obj, p ∈ news → p.1 < L1) => lN
  obtain ⟨oc, hoc, hocd⟩ : ∃ oc : Obj, (L1 + 1, oc) ∈ nn ∧ oc.data = .cell (some (.bool f)) := ⟨_, sb _ (.head _), by assumption⟩
  refine Halt.go ?_
  dsimp only
  k_steps
  have htl := da.length
  rw [List.length_map] at htl
  have hfl := flow_len rows rows.length
  have hr4 := G.2.2.1
  obtain ⟨ss, hss⟩ : ∃ ss, flow rows rows.length = ss := ⟨_, rfl⟩
  rw [hss] at da htl hfl ha hret
  have hsz : tvs.toArray.size ≤ sizeLine := by rw [sizeLine_eq]; simp; k_extra "om"
  rename Fr g1 L1 _ _ => F2
  rename News g1 L1 _ _ => N2
  refine Halt.go (LCg.CompSrc.ledger rfl F2 N2 (.head _) hsz (fun g => comp_ind (fun i ys nx => nx = (l, listOf tvs.toArray nl) :: nn ∧ IntsAre ys ((ss.take i).map fun x => foldBy f x.1)) ?_ ?_ _ 0 [] _ (Nat.zero_add _) ⟨rfl, .nil⟩))
  · clear F2 N2
    rintro i ys nx v I oI C oC D m₂ h tk E' hi' ⟨rfl, hys⟩ hP hns hx F3 N3 off ne
    obtain ⟨x, a, na, t1, t2, t3, hxa, rfl, hma⟩ := dS_at da (k := i) (v := v) (by simpa using hP)
    have off' := off
    simp only [LCg.Off3] at off'
    cases f
    · k_steps
      refine' Halt.go (compEnd_of ?ca1 ?ca2 ?ca3 ?ca4 ?ca5 off ?ca7 ⟨rfl, ?ca8⟩)
      case ca1 => k_asm
      case ca2 => k_asm
      case ca3 => k_updF
      case ca4 => k_updF
      case ca5 => k_updF
      case ca7 => exact .inr ⟨_, .head _, rfl, _, rfl⟩
      case ca8 => rw [take_snoc hxa, List.map_append]; exact ints_snoc hys
    · k_steps
      refine' Halt.go (compEnd_of ?cb1 ?cb2 ?cb3 ?cb4 ?cb5 off ?cb7 ⟨rfl, ?cb8⟩)
      case cb1 => k_asm
      case cb2 => k_asm
      case cb3 => k_updF
      case cb4 => k_updF
      case cb5 => k_updF
      case cb7 => exact .inr ⟨_, .head _, rfl, _, rfl⟩
      case cb8 => rw [take_snoc hxa, List.map_append]; exact ints_snoc hys
  · clear F2 N2
    rintro svs nx ⟨rfl, hsv⟩
    rw [List.take_of_length_le (by simp; k_extra "om")] at hsv
    refine Halt.go ?_
    intro D1 h2 tk2 F2 N2 o2
    simp only [LCg.Off1] at o2
    k_steps
    have hcvl := hi.length
    have hsz2 : cvs.toArray.size ≤ sizeLine := by rw [sizeLine_eq]; simp; k_extra "om"
    refine Halt.go (LCg.CompSrc.ledger rfl F2 N2 (.tail _ (.tail _ hc)) hsz2 (fun g => comp_ind (fun i ys nx => nx = (D1, LCg.lst svs) :: (l, listOf tvs.toArray nl) :: nn ∧ IntsAre ys ((codes.take i).map (foldBy f))) ?_ ?_ _ 0 [] _ (Nat.zero_add _) ⟨rfl, .nil⟩))
    · clear F2 N2
      rintro i ys nx v I oI C oC D m₂ h tk E' hi' ⟨rfl, hys⟩ hP hns hx F3 N3 off ne
      have hP' : cvs[i]? = some v := by simpa using hP
      have hil : i < codes.length := by rw [← hcvl]; exact (List.getElem?_eq_some_iff.mp hP').1
      obtain ⟨t9, e9⟩ := hi.get i (codes[i]'hil) (List.getElem?_eq_getElem hil)
      rw [hP'] at e9
      obtain rfl : v = _ := Option.some.inj e9
      have hxa : codes[i]? = some (codes[i]'hil) := List.getElem?_eq_getElem hil
      have off' := off
      simp only [LCg.Off3] at off'
      cases f
      · k_steps
        refine' Halt.go (compEnd_of ?cc1 ?cc2 ?cc3 ?cc4 ?cc5 off ?cc7 ⟨rfl, ?cc8⟩)
        case cc1 => k_asm
        case cc2 => k_asm
        case cc3 => k_updF
        case cc4 => k_updF
        case cc5 => k_updF
        case cc7 => exact .inr ⟨_, .tail _ (.tail _ hc), rfl, _, rfl⟩
        case cc8 => rw [take_snoc hxa, List.map_append]; exact ints_snoc hys
      · k_steps
        refine' Halt.go (compEnd_of ?cd1 ?cd2 ?cd3 ?cd4 ?cd5 off ?cd7 ⟨rfl, ?cd8⟩)
        case cd1 => k_asm
        case cd2 => k_asm
        case cd3 => k_updF
        case cd4 => k_updF
        case cd5 => k_updF
        case cd7 => exact .inr ⟨_, .tail _ (.tail _ hc), rfl, _, rfl⟩
        case cd8 => rw [take_snoc hxa, List.map_append]; exact ints_snoc hys
    · clear F2 N2
      rintro wvs nx ⟨rfl, hwv⟩
      rw [List.take_of_length_le (by simp; k_extra "om")] at hwv
      refine Halt.go ?_
      intro D2 h3 tk3 F3 N3 o3
      simp only [LCg.Off1] at o3
      have hsl := hsv.length
      have hwl := hwv.length
      rw [List.length_map] at hsl hwl
      by_cases hne : codes = []
      · have hwne : ¬ wvs ≠ [] := by
          rw [hne] at hwl
          exact fun h => h (List.length_eq_zero_iff.mp hwl)
        have ecn : cnt ss codes = 0 := if_pos hne
        rw [ecn] at hret
        k_steps
        obtain ⟨fl, hfl, b1, b2, b3, b4⟩ : ∃ fl : Nat, fl = _ ∧ (@LT.lt Nat _ D2 fl ∧ @LT.lt Nat _ D1 fl ∧ @LT.lt Nat _ l fl ∧ AllLt fl nn) := ⟨_, rfl, by assumption⟩
        subst hfl
        rename IsRange _ _ _ _ _ _ _ _ => hR
        rename Fr g1 L1 _ _ => F4
        rename News g1 L1 _ _ => N4
        replace N4 : News g1 L1 _ ((fl, listOf ([] : List Value).toArray 0) :: (D2, LCg.lst wvs) :: (D1, LCg.lst svs) :: (l, listOf tvs.toArray nl) :: nn) := fun p hp => N4 p (.tail _ hp)
        refine Halt.go (iter_rangeTurns (n := 0) rfl hR (by decide) (by decide) F4 N4 (fun I hI => ItemsRest.zero fun h tk F5 N5 => ?_))
        clear N4 F4
        replace N5 : News g1 L1 h _ := N5
        replace F5 : Fr g1 L1 h _ := F5
        k_steps
        have hlt := (allLt_mem lt)
        have hl1 : @LT.lt Nat _ L1 l := Nat.lt_trans (Nat.lt_succ_self L1) (hlt _ (.head _))
        have hup1 : Up L1 news nn := up.trans (Nat.le_of_lt hl1) (Up.cons (Nat.lt_succ_self L1) Up.refl)
        exact hret _ _ _ _ ⟨L1, fl, 0, [], nn, rfl, rfl, fun p hp => sb p (.tail _ hp), allLt_of lN, Nat.lt_trans hl1 b3, hup1, .nil⟩ (by k_asm) (cb_drop (by k_asm) fun p hp => (List.mem_cons.mp hp).elim (fun e => List.mem_cons.mpr (.inl e)) fun hp => .tail _ (.tail _ (.tail _ (.tail _ hp))))
      · have hwne : wvs ≠ [] := by
          rintro rfl
          exact hne (List.length_eq_zero_iff.mp hwl.symm)
        have ecn : cnt ss codes = ss.length + 1 - codes.length := if_neg hne
        rw [ecn] at hret
        k_steps
        obtain ⟨fl, hfl, b1, b2, b3, b4⟩ : ∃ fl : Nat, fl = _ ∧ (@LT.lt Nat _ D2 fl ∧ @LT.lt Nat _ D1 fl ∧ @LT.lt Nat _ l fl ∧ AllLt fl nn) := ⟨_, rfl, by assumption⟩
        subst hfl
        rename IsRange _ _ _ _ _ _ _ _ => hR
        rename Fr g1 L1 _ _ => F4
        rename News g1 L1 _ _ => N4
        obtain ⟨mp, hmp⟩ : ∃ mp : Nat, (List.map (foldBy f) codes).length = mp := ⟨_, rfl⟩
        have hmp' : mp = codes.length := by rw [← hmp, List.length_map]
        have hc0 : 0 < codes.length := List.length_pos_iff.mpr hne
        rw [hmp] at hR
        replace N4 : News g1 L1 _ ((fl, listOf ([] : List Value).toArray 0) :: (D2, LCg.lst wvs) :: (D1, LCg.lst svs) :: (l, listOf tvs.toArray nl) :: nn) := fun p hp => N4 p (.tail _ hp)
        obtain ⟨n, hn⟩ : ∃ n : Nat, ss.length + 1 - codes.length = n := ⟨_, rfl⟩
        rw [hn] at hret
        have h20 : ss.length ≤ 20 := ar44b hfl hr4
        have hs20 : svs.length ≤ 20 := by rw [hsl]; exact h20
        have hm3 : mp ≤ 3 := by rw [hmp']; exact hcl
        have hsn : svs.length + 1 - mp = n := by rw [hsl, hmp']; exact hn
        refine Halt.go (iter_rangeTurns (n := n) rfl hR (small_one (by decide) (by decide) (ar44e hs20 hm3).1 (ar44e hs20 hm3).2) (by rw [rangeSize_nat]; exact congrArg _ (ar44f hsn)) F4 N4 (fun I hI => items_ind (FpInv fl D2 D1 l I wvs svs ss (foldBy f) (codes.map (foldBy f)) n ((l, listOf tvs.toArray nl) :: nn)) ?_ ?_ _ _ _ ⟨0, [], _, _, _, rfl, Nat.zero_le _, named4 rfl rfl rfl rfl, rfl, fun _ h => h, Up.refl, .nil⟩))
        · clear N4 F4 hR
          replace hI := allLt_of hI
          simp only [AllLt] at hI
          obtain ⟨i1, i2, i3, i4, i5⟩ := hI
          replace i1 := ltN i1
          replace i2 := ltN i2
          replace i3 := ltN i3
          replace i4 := ltN i4
          have low : ∀ p ∈ (l, listOf tvs.toArray nl) :: nn, @LT.lt Nat _ p.1 fl := by
            intro p hp
            simp only [List.mem_cons] at hp
            rcases hp with rfl | hp
            · exact b3
            · exact allLt_mem b4 p hp
          rintro a r m3 nx v h tk its ⟨i, vs, nf, rest, u, hleft, hi', rfl, rfl, hsub, hup, hda⟩ hv hits F5 N5
          obtain ⟨hin, rfl, rfl⟩ := rangeItems_cons hleft hi'
          obtain ⟨t, rfl⟩ := hv
          obtain ⟨oI, rfl, hcI⟩ := objs1 hits
          obtain ⟨ci, hci⟩ : ∃ ci : Int, 0 + (i : Int) = ci := ⟨_, rfl⟩
          simp only [List.cons_append, List.nil_append] at N5
          replace N5 : News g1 L1 h _ := N5
          replace F5 : Fr g1 L1 h _ := F5
          show wpAny _ _ (assign _ _ (Value.int (0 + (i : Int)) t)) _ _ _
          rw [hci]
          have r1 : ∀ p ∈ rest, p.1 ≠ fl := hup.ne (fun p hp => Nat.ne_of_lt (low p hp)) (Nat.le_of_lt i1)
          have r2 : ∀ p ∈ rest, p.1 ≠ I := hup.ne (fun p hp => Nat.ne_of_lt (Nat.lt_trans (low p hp) i1)) (Nat.le_refl _)
          have mt : (l, listOf tvs.toArray nl) ∈ rest := hsub _ (.head _)
          have mnn : ∀ p ∈ nn, p ∈ rest := fun p hp => hsub _ (.tail _ hp)
          replace b1 := ltN b1
          replace b2 := ltN b2
          have hiS : i < ss.length := ar44a hin hn hc0
          have e3 := ar44c hci hiS h20
          have eci := e3.1
          have h0c := e3.2.1
          have h1c := e3.2.2
          have hiT : i < tvs.length := by rw [htl]; exact hiS
          have hiL : i ≤ (ss.map fun x => foldBy f x.1).length := by rw [List.length_map]; exact Nat.le_of_lt hiS
          clear e3
          obtain ⟨v1, hv1⟩ : ∃ v1, tvs[ci.toNat]? = some v1 := ⟨_, List.getElem?_eq_getElem (by rw [eci]; exact hiT)⟩
          obtain ⟨x, a, na, t1, t2, t3, hxa, rfl, hma⟩ := dS_at da hv1
          replace hma := mnn _ hma
          have hvl : vs.length ≤ 30 := by
            have e1 := hda.length
            have e2 := hits_len ss (foldBy f) (codes.map (foldBy f)) i
            rw [List.length_map] at e1
            rw [e1]
            exact Nat.le_trans e2 (Nat.le_trans (Nat.le_of_lt hiS) (Nat.le_trans h20 (Nat.le_of_ble_eq_true rfl)))
          have hwl2 : wvs.length = (codes.map (foldBy f)).length := by rw [List.length_map]; exact hwl
          have hwl3 : wvs.length ≤ 100 := by rw [hwl]; exact Nat.le_trans hcl (Nat.le_of_ble_eq_true rfl)
          clear hfl hr4 htl hsl hwl hmp' hcvl hm3 hsn hiS h20 hn hc0
          by_cases h0 : ci = 0
          · k_steps
            · rename (List.take _ _ = _) => hh
              rename Fr g1 L1 _ _ => F9
              rename News g1 L1 _ _ => N9
              rw [mid_eq hci hiL, hwl2] at hh
              refine' Halt.go (turn_end (its := [(I, oI)]) (fr := [(fl, _), (D2, _), (D1, _)]) F9 N9 ?ddx ?offx ?offrx ?keepx ?invx)
              case ddx => exact .cons (by k_updF) (.cons (by k_updF) (.cons (by k_updF) (.cons (by k_updF) .nil)))
              case offx =>
                intro q hq p hp
                simp only [List.mem_cons, List.not_mem_nil, or_false] at hq hp
                subst hq
                rcases hp with rfl | rfl | rfl <;> k_ne
              case offrx =>
                intro q hq
                obtain rfl : q = _ := by simpa using hq
                refine Up.off (old := (l, listOf tvs.toArray nl) :: nn) ?_ fun p hp => Nat.lt_trans (low p hp) i1
                repeat (refine Up.cons (by first | k_extra "lt" | k_extra "om") ?_)
                exact hup
              case keepx => exact trivial
              case invx =>
                refine ⟨i + 1, vs ++ [_], _, _, _, rfl, hin, named4 rfl rfl rfl rfl, rfl, fun p hp => by have := hsub p hp; ktr_rel, ?_, (fp_yes (by rw [← hxa, eci]) hh hda).mono (fun p hp => by
                  rcases List.mem_cons.mp hp with rfl | hp
                  · exact .head _
                  · ktr_rel)⟩
                repeat (refine Up.cons (by first | k_extra "lt" | k_extra "om") ?_)
                exact hup
            · rename (¬ List.take _ _ = _) => hh
              rename Fr g1 L1 _ _ => F9
              rename News g1 L1 _ _ => N9
              rw [mid_eq hci hiL, hwl2] at hh
              refine' Halt.go (turn_end (its := [(I, oI)]) (fr := [(fl, _), (D2, _), (D1, _)]) F9 N9 ?ddxn ?offxn ?offrxn ?keepxn ?invxn)
              case ddxn => exact .cons (by k_updF) (.cons (by k_updF) (.cons (by k_updF) (.cons (by k_updF) .nil)))
              case offxn =>
                intro q hq p hp
                simp only [List.mem_cons, List.not_mem_nil, or_false] at hq hp
                subst hq
                rcases hp with rfl | rfl | rfl <;> k_ne
              case offrxn =>
                intro q hq
                obtain rfl : q = _ := by simpa using hq
                refine Up.off (old := (l, listOf tvs.toArray nl) :: nn) ?_ fun p hp => Nat.lt_trans (low p hp) i1
                repeat (refine Up.cons (by first | k_extra "lt" | k_extra "om") ?_)
                exact hup
              case keepxn => exact trivial
              case invxn =>
                refine ⟨i + 1, vs, _, _, _, rfl, hin, named4 rfl rfl rfl rfl, rfl, fun p hp => by have := hsub p hp; ktr_rel, ?_, (fp_no hh hda).mono (fun p hp => by ktr_rel)⟩
                repeat (refine Up.cons (by first | k_extra "lt" | k_extra "om") ?_)
                exact hup
          · have e4 := ar44d hci h0 h1c
            have h0d := e4.2.1
            have h1d := e4.2.2
            have ecd := e4.1
            clear e4
            obtain ⟨v2, hv2⟩ : ∃ v2, tvs[(ci - 1).toNat]? = some v2 := ⟨_, List.getElem?_eq_getElem (Nat.lt_trans (Nat.lt_of_lt_of_eq (Nat.lt_succ_self _) ecd) hiT)⟩
            obtain ⟨y, a2, na2, s1, s2, s3, hya, rfl, hma2⟩ := dS_at da hv2
            replace hma2 := mnn _ hma2
            have hap : (y.2.1, y.2.2) ≠ (x.2.1, x.2.2) := ha (ci - 1).toNat y x hya (by rw [← hxa, eci, ecd])
            k_steps
            · rename (List.take _ _ = _) => hh
              rename Fr g1 L1 _ _ => F9
              rename News g1 L1 _ _ => N9
              rw [mid_eq hci hiL, hwl2] at hh
              refine' Halt.go (turn_end (its := [(I, oI)]) (fr := [(fl, _), (D2, _), (D1, _)]) F9 N9 ?ddy ?offy ?offry ?keepy ?invy)
              case ddy => exact .cons (by k_updF) (.cons (by k_updF) (.cons (by k_updF) (.cons (by k_updF) .nil)))
              case offy =>
                intro q hq p hp
                simp only [List.mem_cons, List.not_mem_nil, or_false] at hq hp
                subst hq
                rcases hp with rfl | rfl | rfl <;> k_ne
              case offry =>
                intro q hq
                obtain rfl : q = _ := by simpa using hq
                refine Up.off (old := (l, listOf tvs.toArray nl) :: nn) ?_ fun p hp => Nat.lt_trans (low p hp) i1
                repeat (refine Up.cons (by first | k_extra "lt" | k_extra "om") ?_)
                exact hup
              case keepy => exact trivial
              case invy =>
                refine ⟨i + 1, vs ++ [_], _, _, _, rfl, hin, named4 rfl rfl rfl rfl, rfl, fun p hp => by have := hsub p hp; ktr_rel, ?_, (fp_yes (by rw [← hxa, eci]) hh hda).mono (fun p hp => by
                  rcases List.mem_cons.mp hp with rfl | hp
                  · exact .head _
                  · ktr_rel)⟩
                repeat (refine Up.cons (by first | k_extra "lt" | k_extra "om") ?_)
                exact hup
            · rename (¬ List.take _ _ = _) => hh
              rename Fr g1 L1 _ _ => F9
              rename News g1 L1 _ _ => N9
              rw [mid_eq hci hiL, hwl2] at hh
              refine' Halt.go (turn_end (its := [(I, oI)]) (fr := [(fl, _), (D2, _), (D1, _)]) F9 N9 ?ddyn ?offyn ?offryn ?keepyn ?invyn)
              case ddyn => exact .cons (by k_updF) (.cons (by k_updF) (.cons (by k_updF) (.cons (by k_updF) .nil)))
              case offyn =>
                intro q hq p hp
                simp only [List.mem_cons, List.not_mem_nil, or_false] at hq hp
                subst hq
                rcases hp with rfl | rfl | rfl <;> k_ne
              case offryn =>
                intro q hq
                obtain rfl : q = _ := by simpa using hq
                refine Up.off (old := (l, listOf tvs.toArray nl) :: nn) ?_ fun p hp => Nat.lt_trans (low p hp) i1
                repeat (refine Up.cons (by first | k_extra "lt" | k_extra "om") ?_)
                exact hup
              case keepyn => exact trivial
              case invyn =>
                refine ⟨i + 1, vs, _, _, _, rfl, hin, named4 rfl rfl rfl rfl, rfl, fun p hp => by have := hsub p hp; ktr_rel, ?_, (fp_no hh hda).mono (fun p hp => by ktr_rel)⟩
                repeat (refine Up.cons (by first | k_extra "lt" | k_extra "om") ?_)
                exact hup
        · clear N4 F4 hR
          rintro m3 nx h tk ⟨i, vs, nf, rest, u, hleft, hi', rfl, rfl, hsub, hup, hda⟩ F5 N5
          replace N5 : News g1 L1 h _ := N5
          replace F5 : Fr g1 L1 h _ := F5
          obtain rfl : i = n := Nat.le_antisymm hi' (rangeItems_nil hleft)
          k_steps
          have hlt := (allLt_mem lt)
          have hl1 : @LT.lt Nat _ L1 l := Nat.lt_trans (Nat.lt_succ_self L1) (hlt _ (.head _))
          have hup1 : Up L1 news nn := up.trans (Nat.le_of_lt hl1) (Up.cons (Nat.lt_succ_self L1) Up.refl)
          have hI' := allLt_of hI
          simp only [AllLt] at hI'
          exact hret _ _ _ _ ⟨L1, fl, nf, vs, rest, rfl, rfl, fun p hp => hsub _ (.tail _ (sb p (.tail _ hp))), allLt_of lN, Nat.lt_trans hl1 b3, hup.trans (Nat.le_of_lt (Nat.lt_trans (Nat.lt_trans hl1 b3) hI'.1)) (Up.cons hl1 hup1), hda⟩ (by k_asm) (cb_drop (by k_asm) fun p hp => (List.mem_cons.mp hp).elim (fun e => List.mem_cons.mpr (.inl e)) fun hp => .tail _ (.tail _ (.tail _ hp)))
end

end
end Mine
namespace Mine
section
theorem base45 : True := by
  k_with_none
  k_with "execs cons" => (k_here; (with_reducible refine wpAny_execs_cons ?_); (try dsimp only); k_fold)
  k_with "ne" => (first | with_reducible assumption | with_reducible exact Ne.symm (by with_reducible assumption) | with_reducible exact Nat.ne_of_gt (by with_reducible assumption) | with_reducible exact Nat.ne_of_lt (by with_reducible assumption) | with_reducible exact neu (by with_reducible assumption) | with_reducible exact neu' (by with_reducible assumption) | with_reducible exact neu2 (by with_reducible assumption) | with_reducible exact neu2' (by with_reducible assumption) | with_reducible exact Nat.ne_of_lt sl1 | with_reducible exact Nat.ne_of_lt sl2 | with_reducible exact Nat.ne_of_lt sl3 | with_reducible exact Nat.ne_of_lt sl4 | with_reducible exact Nat.ne_of_lt sl5 | with_reducible exact Nat.ne_of_gt sl1 | with_reducible exact Nat.ne_of_gt sl2 | with_reducible exact Nat.ne_of_gt sl3 | with_reducible exact Nat.ne_of_gt sl4 | with_reducible exact Nat.ne_of_gt sl5 | omega)
  k_with "lt2" => omega
  k_with "lt0" => (first | with_reducible assumption | omega)
  k_with "lt1" => omega
  k_with "om" => (first | with_reducible assumption | with_reducible exact Nat.le_of_ble_eq_true (by decide) | with_reducible exact ci0 | with_reducible exact ci1 | with_reducible exact cz0 (by with_reducible assumption) | with_reducible exact cz1 (by with_reducible assumption) | with_reducible exact cz2 (by with_reducible assumption) | with_reducible exact cz3 (by with_reducible assumption) | with_reducible exact lb1 (by with_reducible assumption) (by decide) | with_reducible exact lb4 (by with_reducible assumption) (by decide) | with_reducible exact lb2 (by with_reducible assumption) (by with_reducible assumption) (by decide) | with_reducible exact lb5 (by with_reducible assumption) (by with_reducible assumption) (by decide) | with_reducible exact ci4 (by with_reducible assumption) (by decide) | with_reducible exact ci5 (by with_reducible assumption) (by decide) | with_reducible exact cz4 (by with_reducible assumption) (by with_reducible assumption) | with_reducible exact cz5 (by with_reducible assumption) (by with_reducible assumption) | with_reducible exact cz6 (by with_reducible assumption) (by with_reducible assumption) (by with_reducible assumption) (by decide) | with_reducible exact lp1 (by with_reducible assumption) (by decide) | with_reducible exact le1 (by with_reducible assumption) | with_reducible exact le2 (by with_reducible assumption) | with_reducible exact Nat.le_succ _ | with_reducible exact leu (by with_reducible assumption) | with_reducible exact leu2 (by with_reducible assumption) | with_reducible exact zb1 (by with_reducible assumption) (by decide) | with_reducible exact zb2 (by with_reducible assumption) | with_reducible exact zb3 (by with_reducible assumption) (by decide) | with_reducible exact un1 (by with_reducible assumption) | with_reducible exact sl1 | with_reducible exact sl2 | with_reducible exact sl3 | with_reducible exact sl4 | with_reducible exact sl5 | omega)
  k_with "lt" => (first | with_reducible assumption | omega)
  trivial
section
variable {prog : Program} {w : World} {A : Around} {h₀ : Heap} {L : Addr} {m : Str → Option Value} {env : Env} {ct elt : PySem.Expr} {x : Str} {scope : Scope} {cl : List (Str × Addr)} {s : Shared} {S : Led → Prop} {P : Nat → Value → Prop} {Fin : List Value → Led → Prop}
/-- a list comprehension with a test, by an invariant over what is made -/
theorem compT_ind {n : Nat} (Inv : Nat → List Value → Led → Prop)
    (step : ∀ i ys news v I oI C oC D m₂ h tk (E' : Value → Shared → Prop), i < n → Inv i ys news → P i v → LCg.NsObj oC m₂ → m₂ x = some v → Fr h₀ L h m → News h₀ L h ((I, oI) :: (C, oC) :: (D, LCg.lst ys) :: news) → LCg.Off3 I C D news → ((@Ne Nat I C) ∧ (@Ne Nat I D) ∧ (@Ne Nat C D)) →
      wpAny (model prog w) A (isTrue ct (compEnvC scope cl C env) (eval ct (compEnvC scope cl C env))) (fun ok s' => if ok = true then
        wpAny (model prog w) A (eval elt (compEnvC scope cl C env)) (LCg.CompEnd h₀ L m { s with heap := h, toks := tk } I oI C oC D (LCg.lst ys) S (fun y news' => Inv (i + 1) (ys ++ [y]) news')) E' s'
        else LCg.CompEnd h₀ L m { s with heap := h, toks := tk } I oI C oC D (LCg.lst ys) S (fun _ news' => Inv (i + 1) ys news') Value.none s') E' { s with heap := h, toks := tk })
    (done : ∀ ys news, Inv n ys news → Fin ys news) :
    ∀ k i ys news, i + k = n → Inv i ys news → LCt.CompRestT prog w A h₀ L m env ct elt x scope cl s S P Fin k i ys news := by
  intro k
  induction k with
  | zero =>
    intro i ys news e hi
    have : i = n := by omega
    subst this
    exact done ys news hi
  | succ k ih =>
    intro i ys news e hi v I oI C oC D m₂ h tk E' hP hns hx F N off ne
    refine wpAny_mono (step i ys news v I oI C oC D m₂ h tk E' (by omega) hi hP hns hx F N off ne) (fun ok s₂ h₂ => ?_) fun _ _ x => x
    cases ok with
    | true =>
      simp only [if_true] at h₂ ⊢
      exact wpAny_mono h₂ (fun y s₃ ⟨h', tk', n', e', F', N', o', hS, r⟩ => ⟨h', tk', n', e', F', N', o', hS, ih (i + 1) _ n' (by omega) r⟩) fun _ _ x => x
    | false =>
      simp only [Bool.false_eq_true, if_false] at h₂ ⊢
      obtain ⟨h', tk', n', e', F', N', o', hS, r⟩ := h₂
      exact ⟨h', tk', n', e', F', N', o', hS, ih (i + 1) _ n' (by omega) r⟩
end
def plt (p q : Int × Int) : Bool := decide (p.1 < q.1 ∨ p.1 = q.1 ∧ p.2 < q.2)
def pge (p q : Int × Int) : Bool := decide (q.1 < p.1 ∨ p.1 = q.1 ∧ q.2 ≤ p.2)
def dO : Option (Int × Int) → Dat
  | none => .none
  | some p => dP p
theorem dP_at {rest : Led} {vs : List Value} {ps : List (Int × Int)} (h : DatAll rest vs (ps.map dP)) {k : Nat} {v : Value} (hv : vs[k]? = some v) :
    ∃ x a n t1 t2, ps[k]? = some x ∧ v = .ref a ∧ (a, tupC [.int x.1 t1, .int x.2 t2] n) ∈ rest := by
  obtain ⟨x, hx, d⟩ := dat_at h hv
  obtain ⟨a, n, t1, t2, rfl, hm⟩ := inv_pt d
  exact ⟨x, a, n, t1, t2, hx, rfl, hm⟩
theorem dP_in {rest : Led} {a n : Nat} {x : Int × Int} {t1 t2 : Tok} (h : (a, tupC [.int x.1 t1, .int x.2 t2] n) ∈ rest) : DatIn rest (.ref a) (dP x) := .tuple h (.cons (.int _ _) (.cons (.int _ _) .nil))
theorem filter_snoc {α : Type} (p : α → Bool) (l : List α) (x : α) : (l ++ [x]).filter p = l.filter p ++ (if p x = true then [x] else []) := by
  rw [List.filter_append]
  congr 1
  by_cases h : p x = true <;> simp [h]
theorem dP_last {rest : Led} : ∀ {vs : List Value} {ps : List (Int × Int)}, DatAll rest vs (ps.map dP) → ∀ {v : Value}, vs.getLast? = some v → ∃ x, ps.getLast? = some x ∧ DatIn rest v (dP x) := by
  intro vs ps h v hv
  have hl := h.length
  rw [List.length_map] at hl
  rw [List.getLast?_eq_getElem?] at hv
  obtain ⟨x, a, n, t1, t2, hx, rfl, hm⟩ := dP_at h hv
  refine ⟨x, ?_, dP_in hm⟩
  rw [List.getLast?_eq_getElem?, ← hl]
  exact hx
theorem dP_head {rest : Led} {vs : List Value} {ps : List (Int × Int)} (h : DatAll rest vs (ps.map dP)) {v : Value} (hv : vs[0]? = some v) : ∃ x, ps.head? = some x ∧ DatIn rest v (dP x) := by
  obtain ⟨x, a, n, t1, t2, hx, rfl, hm⟩ := dP_at h hv
  exact ⟨x, by rw [List.head?_eq_getElem?]; exact hx, dP_in hm⟩
theorem dP_nil {rest : Led} {ps : List (Int × Int)} (h : DatAll rest [] (ps.map dP)) : ps = [] := by
  cases ps with
  | nil => rfl
  | cons p ps => cases h
section
variable {prog : Program} {w : World} {A : Around} {h₀ : Heap} {L : Addr} {m : Str → Option Value} {env : Env} {elt : PySem.Expr} {x x₂ : Str} {scope : Scope} {cl : List (Str × Addr)} {s : Shared} {S : Led → Prop} {P : Nat → Value → Prop} {Fin : List Value → Led → Prop}
/-- a list comprehension that unpacks pairs, by an invariant over what is made -/
theorem compP_ind {n : Nat} (Inv : Nat → List Value → Led → Prop)
    (step : ∀ i ys news v, i < n → Inv i ys news → P i v → ∃ (t : Addr) (ot : Obj) (v₁ v₂ : Value) (nt : Nat), v = .ref t ∧ (t, ot) ∈ news ∧ ot.cls = .type "tuple" ∧ ot.data = .seq #[v₁, v₂] nt ∧
      ∀ I oI C oC D m₂ h tk (E' : Value → Shared → Prop), LCg.NsObj oC m₂ → m₂ x = some v₁ → m₂ x₂ = some v₂ → Fr h₀ L h m → News h₀ L h ((I, oI) :: (C, oC) :: (D, LCg.lst ys) :: news) → LCg.Off3 I C D news → ((@Ne Nat I C) ∧ (@Ne Nat I D) ∧ (@Ne Nat C D)) →
      wpAny (model prog w) A (eval elt (compEnvC scope cl C env)) (LCg.CompEnd h₀ L m { s with heap := h, toks := tk } I oI C oC D (LCg.lst ys) S (fun y news' => Inv (i + 1) (ys ++ [y]) news')) E' { s with heap := h, toks := tk })
    (done : ∀ ys news, Inv n ys news → Fin ys news) :
    ∀ k i ys news, i + k = n → Inv i ys news → LCp.CompRestP prog w A h₀ L m env elt x x₂ scope cl s S P Fin k i ys news := by
  intro k
  induction k with
  | zero =>
    intro i ys news e hi
    have : i = n := by omega
    subst this
    exact done ys news hi
  | succ k ih =>
    intro i ys news e hi v hP
    obtain ⟨t, ot, v₁, v₂, nt, e1, e2, e3, e4, r⟩ := step i ys news v (by omega) hi hP
    refine ⟨t, ot, v₁, v₂, nt, e1, e2, e3, e4, ?_⟩
    intro I oI C oC D m₂ h tk E' hns hx hx₂ F N off ne
    exact wpAny_mono (r I oI C oC D m₂ h tk E' hns hx hx₂ F N off ne)
      (fun y s₂ ⟨h', tk', n', e', F', N', o', hS, r⟩ => ⟨h', tk', n', e', F', N', o', hS, ih (i + 1) _ n' (by omega) r⟩) fun _ _ x => x
end

end
end Mine
namespace Mine
section
theorem base46 : True := by
  k_with_none
  k_with "execs cons" => (k_here; (with_reducible refine wpAny_execs_cons ?_); (try dsimp only); k_fold)
  k_with "ne" => (first | with_reducible assumption | with_reducible exact Ne.symm (by with_reducible assumption) | with_reducible exact Nat.ne_of_gt (by with_reducible assumption) | with_reducible exact Nat.ne_of_lt (by with_reducible assumption) | with_reducible exact neu (by with_reducible assumption) | with_reducible exact neu' (by with_reducible assumption) | with_reducible exact neu2 (by with_reducible assumption) | with_reducible exact neu2' (by with_reducible assumption) | with_reducible exact Nat.ne_of_lt sl1 | with_reducible exact Nat.ne_of_lt sl2 | with_reducible exact Nat.ne_of_lt sl3 | with_reducible exact Nat.ne_of_lt sl4 | with_reducible exact Nat.ne_of_lt sl5 | with_reducible exact Nat.ne_of_gt sl1 | with_reducible exact Nat.ne_of_gt sl2 | with_reducible exact Nat.ne_of_gt sl3 | with_reducible exact Nat.ne_of_gt sl4 | with_reducible exact Nat.ne_of_gt sl5 | omega)
  k_with "lt2" => omega
  k_with "lt0" => (first | with_reducible assumption | omega)
  k_with "lt1" => omega
  k_with "om" => (first | with_reducible assumption | with_reducible exact Nat.le_of_ble_eq_true (by decide) | with_reducible exact ci0 | with_reducible exact ci1 | with_reducible exact cz0 (by with_reducible assumption) | with_reducible exact cz1 (by with_reducible assumption) | with_reducible exact cz2 (by with_reducible assumption) | with_reducible exact cz3 (by with_reducible assumption) | with_reducible exact lb1 (by with_reducible assumption) (by decide) | with_reducible exact lb4 (by with_reducible assumption) (by decide) | with_reducible exact lb2 (by with_reducible assumption) (by with_reducible assumption) (by decide) | with_reducible exact lb5 (by with_reducible assumption) (by with_reducible assumption) (by decide) | with_reducible exact ci4 (by with_reducible assumption) (by decide) | with_reducible exact ci5 (by with_reducible assumption) (by decide) | with_reducible exact cz4 (by with_reducible assumption) (by with_reducible assumption) | with_reducible exact cz5 (by with_reducible assumption) (by with_reducible assumption) | with_reducible exact cz6 (by with_reducible assumption) (by with_reducible assumption) (by with_reducible assumption) (by decide) | with_reducible exact lp1 (by with_reducible assumption) (by decide) | with_reducible exact le1 (by with_reducible assumption) | with_reducible exact le2 (by with_reducible assumption) | with_reducible exact Nat.le_succ _ | with_reducible exact leu (by with_reducible assumption) | with_reducible exact leu2 (by with_reducible assumption) | with_reducible exact zb1 (by with_reducible assumption) (by decide) | with_reducible exact zb2 (by with_reducible assumption) | with_reducible exact zb3 (by with_reducible assumption) (by decide) | with_reducible exact un1 (by with_reducible assumption) | with_reducible exact sl1 | with_reducible exact sl2 | with_reducible exact sl3 | with_reducible exact sl4 | with_reducible exact sl5 | omega)
  k_with "lt" => (first | with_reducible assumption | omega)
  trivial
section
variable {w : World} {loose : List Str} {mean : ExcName → Option Value} {mg mb : Str → Option Value}
theorem rules46_1 : True := by
  k_with "k_enter" => ((refine' code_def ?q139k1 ?q139k2 ?q139k3 ?q139k4 ?q139k5 ?q139kA ?q139kF ?q139kK ?q139k6 ?q139k7 ?q139k8 ?q139k9 ?q139kB ?_ ?q139c2 ?q139c3 ?q139c4 ?q139c5; (case q139kA => exact rfl); (case q139kF => assumption); (case q139kK => assumption); (case q139k1 => k_asm); (case q139k2 => k_asm); (case q139k3 => k_asm); (case q139k4 => k_asm); (case q139k5 => k_asm); (case q139k6 => k_is); (case q139k7 => k_is); (case q139k8 => k_room); (case q139k9 => first | exact BindsTo.of_eq rfl | exact binds_K (by k_in) rfl (by k_is) rfl rfl rfl); (case q139c5 => decide); (case q139kB => exact locs rfl); (case q139c2 => exact rfl); (case q139c3 => exact rfl); (case q139c4 => exact rfl); k_whole; intro _ _ _ _ _ _ B' _ _; (try dsimp only); (try k_lift B'); (try k_fold)))
  k_with "eval Name" => ((k_dflt (first
  | (refine' nameX_L ?q140F ?q140v ?_ ?q140a ?q140b; (case q140F => k_asm); (case q140a => exact rfl); (case q140b => exact rfl); (case q140v => exact rfl); k_whole)
  | (refine' nameX_K ?q140F ?q140X ?q140T ?q140e ?_ ?q140a ?q140b; (case q140F => k_asm); (case q140X => k_asm); (case q140T => k_asm); (case q140a => exact rfl); (case q140b => exact rfl); (case q140e => k_is); k_whole))))
  k_with "k_mem" => (((repeat (refine' List.mem_cons_of_mem _ ?_)); with_reducible assumption))
  k_with "subscriptTail Name Constant ref int" => ((k_dflt (refine tup_at (by k_asm) (by k_mem) (by decide) (by decide) (by rfl) ?_)))
  k_with "subscriptTail Subscript Constant ref int" => ((k_dflt (refine tup_at (by k_asm) (by k_mem) (by decide) (by decide) (by rfl) ?_)))
  k_with "ite" => ((first | (refine ite_pos (by with_reducible assumption) ?_) | (refine ite_neg (by with_reducible assumption) ?_) | (refine ite_pos (by simp only [beq_iff_eq, bne_iff_ne, beq_eq_false_iff_ne, decide_eq_true_eq, decide_eq_false_iff_not, Bool.not_eq_true', Bool.not_eq_false']; omega) ?_) | (refine ite_neg (by simp only [beq_iff_eq, bne_iff_ne, beq_eq_false_iff_ne, decide_eq_true_eq, decide_eq_false_iff_not, Bool.not_eq_true', Bool.not_eq_false']; omega) ?_)))
  k_with "ktr_rel" => (((repeat (refine List.mem_cons_of_mem _ ?_)); with_reducible assumption))
  k_with "call ref" => ((k_here; k_dflt (first
  | (refine' Spec.use (f := 171) ?q146C ?q146d1 ?q146d2 ?q146d3 ?q146kA ?q146kF ?q146kK ?q146k1 ?q146k2 ?q146k3 ?q146k4 ?q146k5 ?_; (case q146kA => exact rfl); (case q146kF => first | exact rfl | assumption); (case q146kK => first | exact rfl | assumption); (case q146k1 => k_asm); (case q146k2 => k_asm); (case q146k3 => k_asm); (case q146k4 => k_asm); (case q146k5 => k_asm); (case q146C => exact found_places_spec (ViewIn.mono (by assumption) (fun _ _ => by ktr_rel)) (by assumption) (by k_mem) (by assumption) (by assumption) (by assumption)); (case q146d3 => exact rfl); (case q146d1 => exact Nat.le_of_ble_eq_true rfl); (case q146d2 => exact Nat.le_of_ble_eq_true rfl); intro _ _ _ _ _ _ _; (try k_sweep); refine halt ?_))))
  k_with "k_updF" => (first | exact Del.head | (refine' Del.tail ?q147a ?q147b; (case q147a => k_ne); (case q147b => k_updF)))
  k_with "CompEnd" => ((refine halt ?_))
  k_with "CompSrcT" => ((refine halt ?_))
  k_with "FinA" => ((refine halt ?_))
  k_with "compareOp Lt ref ref" => ((k_here; k_dflt (refine lt_pair (by k_asm) (by ktr_rel) (by ktr_rel) (by exact Nat.le_of_ble_eq_true rfl) ?_; first | rw [decide_eq_true (by assumption)] | rw [decide_eq_false (by assumption)])))
  k_with "compareOp GtE ref ref" => ((k_here; k_dflt (refine ge_pair (by k_asm) (by ktr_rel) (by ktr_rel) (by exact Nat.le_of_ble_eq_true rfl) ?_; first | rw [decide_eq_true (by assumption)] | rw [decide_eq_false (by assumption)])))
  k_with "compareOp NotEq ref ref" => ((k_here; k_dflt (refine ne_nil (by k_asm) (by k_mem) (by k_mem) (by exact Nat.le_of_ble_eq_true rfl) ?_; first | rw [decide_eq_true (by assumption)] | rw [decide_eq_false (by assumption)])))
  k_with "subscriptTail" => ((k_here; (with_reducible show wpAny _ _ (subscriptTail _ _ (Value.ref _) (Value.int _ _)) _ _ _); k_dflt (first | (refine list_at (by k_asm) (by k_mem) (by decide) (by decide) (by assumption) ?_) | (refine list_neg (by k_asm) (by k_mem) (by decide) (by assumption) ?_))))
  trivial
theorem find_spec {news : Led} {vw cw sa : Addr} {rows : Rows} {cvs : List Value} {codes : List Int} {cn sn : Nat} {b f : Bool} {st : Int × Int} {t1 t2 : Tok} (H : ViewIn w.params news vw rows) (G : GoodRows rows) (hc : (cw, listOf cvs.toArray cn) ∈ news) (hi : IntsAre cvs codes) (hcl : codes.length ≤ 3) (ha : Apart (flow rows rows.length))
    (hs : (sa, tupC [.int st.1 t1, .int st.2 t2] sn) ∈ news) (hp : List (Int × Int)) (hph : hp = hits (flow rows rows.length) (foldBy f) (codes.map (foldBy f)) (cnt (flow rows rows.length) codes)) :
    Spec w loose mean mg mb 550 550 177 [.ref vw, .ref cw, .ref sa, .bool b, .bool f] news (fun v n' => ∃ B, (∀ p ∈ news, p ∈ n') ∧ AllLt B news ∧ Up B news n' ∧ DatIn n' v (dO (if b = true then (hp.filter fun p => plt p st).getLast? else (hp.filter fun p => pge p st).head?))) := by
  intro gd env outer A₀ base h₀ L m s Q E hf hk B F X N T hret
  refine wpAny_call ?_
  k_dflt (refine' code_defC ?k1 ?k2 ?k3 ?k4 ?k5 ?kA ?kF ?kK ?k6 ?k7 ?k8 ?k9 ?kB ?kD ?_ ?c2 ?c3 ?c4; (case kA => exact rfl); (case kF => assumption); (case kK => assumption); (case k1 => k_asm); (case k2 => k_asm); (case k3 => k_asm); (case k4 => k_asm); (case k5 => k_asm); (case k6 => k_is); (case k7 => k_is); (case k8 => k_room); (case k9 => first | exact BindsTo.of_eq rfl | exact binds_K (by k_in) rfl (by k_is) rfl rfl rfl); (case kB => exact rfl); (case kD => decide +kernel); (case c2 => exact rfl); (case c3 => exact rfl); (case c4 => exact rfl); k_whole); intro g1 L1 h1 tk1 cells1 FG1 F1 N1 Y1 B1 X1 T1 l1; (try k_lt l1); k_cells Y1; (try simp only [List.cons_append, List.nil_append] at N1); (try dsimp only); (try k_lift B1); (try k_fold)
  k_steps
  rename_i v9 n9 h9 tk9 po F9 N9
  obtain ⟨B0, l, nl, pvs, nn, rfl, rfl, sb, ltB, hBl, up, da⟩ := po
  rename (∀ p : Addr × Obj, p ∈ news → p.1 < L1) => lN
  obtain ⟨oc, hoc, hocd⟩ : ∃ oc : Obj, (L1 + 1, oc) ∈ nn ∧ oc.data = .cell (some (.ref sa)) := ⟨_, sb _ (.head _), by assumption⟩
  replace hs := sb _ (.tail _ hs)
  have hb1 : @LT.lt Nat _ (L1 + 1) B0 := allLt_mem ltB _ (.head _)
  have hup1 : Up L1 news nn := up.trans (Nat.le_of_lt (Nat.lt_trans (Nat.lt_succ_self L1) hb1)) (Up.cons (Nat.lt_succ_self L1) Up.refl)
  rw [← hph] at da
  have htl := da.length
  rw [List.length_map] at htl
  have hhl : hp.length ≤ 40 := by
    have e1 := hits_len (flow rows rows.length) (foldBy f) (codes.map (foldBy f)) (cnt (flow rows rows.length) codes)
    have e2 := flow_len rows rows.length
    have e3 := G.2.2.1
    have e4 : cnt (flow rows rows.length) codes ≤ (flow rows rows.length).length + 1 := by unfold cnt; split <;> k_extra "om"
    rw [← hph] at e1
    k_extra "om"
  have hsz : pvs.toArray.size ≤ sizeLine := by rw [sizeLine_eq]; simp; k_extra "om"
  clear up ltB
  cases b
  · refine Halt.go ?_
    k_steps
    rename Fr g1 L1 _ _ => F2
    rename News g1 L1 _ _ => N2
    refine Halt.go (LCt.CompSrcT.ledger rfl F2 N2 (.head _) hsz (fun g => compT_ind (fun i ys nx => nx = (l, listOf pvs.toArray nl) :: nn ∧ DatAll nn ys (((hp.take i).filter fun p => pge p st).map dP)) ?_ ?_ _ 0 [] _ (Nat.zero_add _) ⟨rfl, .nil⟩))
    · clear F2 N2
      rintro i ys nx v I oI C oC D m₂ h tk E' hi' ⟨rfl, hys⟩ hP hns hx F3 N3 off ne
      obtain ⟨x, a, na, t3, t4, hxa, rfl, hma⟩ := dP_at da (k := i) (v := v) (by simpa using hP)
      have off' := off
      simp only [LCg.Off3] at off'
      by_cases hq : st.1 < x.1 ∨ x.1 = st.1 ∧ st.2 ≤ x.2
      · have hq' : pge x st = true := decide_eq_true hq
        k_steps
        refine' Halt.go (compEnd_of ?pa1z ?pa2z ?pa3z ?pa4z ?pa5z off ?pa7z ⟨rfl, ?pa8z⟩)
        case pa1z => k_asm
        case pa2z => k_asm
        case pa3z => k_updF
        case pa4z => k_updF
        case pa5z => k_updF
        case pa7z => exact .inr ⟨_, .head _, rfl, _, rfl⟩
        case pa8z =>
          rw [take_snoc hxa, filter_snoc, if_pos hq', List.map_append]
          exact hys.append (.one (dP_in hma))
      · have hq' : ¬ pge x st = true := fun h => hq (of_decide_eq_true h)
        k_steps
        refine' Halt.go (compEnd_of ?pb1z ?pb2z ?pb3z ?pb4z ?pb5z off ?pb7z ⟨rfl, ?pb8z⟩)
        case pb1z => k_asm
        case pb2z => k_asm
        case pb3z => k_updF
        case pb4z => k_updF
        case pb5z => k_updF
        case pb7z => exact .inr ⟨_, .head _, rfl, _, rfl⟩
        case pb8z =>
          rw [take_snoc hxa, filter_snoc, if_neg hq', List.append_nil]
          exact hys
    · clear F2 N2
      rintro ys nx ⟨rfl, hys⟩
      rw [List.take_of_length_le (by simp; k_extra "om")] at hys
      refine Halt.go ?_
      intro D1 h2 tk2 F2 N2 o2
      simp only [LCg.Off1] at o2
      cases hg : ys[0]? with
      | none =>
        have hyn : ys = [] := by simpa using hg
        subst hyn
        have hwne : ¬ ([] : List Value) ≠ [] := fun h => h rfl
        k_steps
        refine hret _ _ _ _ ⟨L1, fun p hp => sb p (.tail _ hp), allLt_of lN, hup1, ?_⟩ (by k_asm) (cb_drop (by k_asm) fun p hp => by ktr_rel)
        rw [if_neg (by decide), dP_nil hys]
        exact .none
      | some v0 =>
        have hwne : ys ≠ [] := by rintro rfl; simp at hg
        k_steps
        refine hret _ _ _ _ ⟨L1, fun p hp => sb p (.tail _ hp), allLt_of lN, hup1, ?_⟩ (by k_asm) (cb_drop (by k_asm) fun p hp => by ktr_rel)
        obtain ⟨x0, e0, d0⟩ := dP_head hys hg
        rw [if_neg (by decide), e0]
        exact d0
  · refine Halt.go ?_
    k_steps
    rename Fr g1 L1 _ _ => F2
    rename News g1 L1 _ _ => N2
    refine Halt.go (LCt.CompSrcT.ledger rfl F2 N2 (.head _) hsz (fun g => compT_ind (fun i ys nx => nx = (l, listOf pvs.toArray nl) :: nn ∧ DatAll nn ys (((hp.take i).filter fun p => plt p st).map dP)) ?_ ?_ _ 0 [] _ (Nat.zero_add _) ⟨rfl, .nil⟩))
    · clear F2 N2
      rintro i ys nx v I oI C oC D m₂ h tk E' hi' ⟨rfl, hys⟩ hP hns hx F3 N3 off ne
      obtain ⟨x, a, na, t3, t4, hxa, rfl, hma⟩ := dP_at da (k := i) (v := v) (by simpa using hP)
      have off' := off
      simp only [LCg.Off3] at off'
      by_cases hq : x.1 < st.1 ∨ x.1 = st.1 ∧ x.2 < st.2
      · have hq' : plt x st = true := decide_eq_true hq
        k_steps
        refine' Halt.go (compEnd_of ?pa1 ?pa2 ?pa3 ?pa4 ?pa5 off ?pa7 ⟨rfl, ?pa8⟩)
        case pa1 => k_asm
        case pa2 => k_asm
        case pa3 => k_updF
        case pa4 => k_updF
        case pa5 => k_updF
        case pa7 => exact .inr ⟨_, .head _, rfl, _, rfl⟩
        case pa8 =>
          rw [take_snoc hxa, filter_snoc, if_pos hq', List.map_append]
          exact hys.append (.one (dP_in hma))
      · have hq' : ¬ plt x st = true := fun h => hq (of_decide_eq_true h)
        k_steps
        refine' Halt.go (compEnd_of ?pb1 ?pb2 ?pb3 ?pb4 ?pb5 off ?pb7 ⟨rfl, ?pb8⟩)
        case pb1 => k_asm
        case pb2 => k_asm
        case pb3 => k_updF
        case pb4 => k_updF
        case pb5 => k_updF
        case pb7 => exact .inr ⟨_, .head _, rfl, _, rfl⟩
        case pb8 =>
          rw [take_snoc hxa, filter_snoc, if_neg hq', List.append_nil]
          exact hys
    · clear F2 N2
      rintro ys nx ⟨rfl, hys⟩
      rw [List.take_of_length_le (by simp; k_extra "om")] at hys
      refine Halt.go ?_
      intro D1 h2 tk2 F2 N2 o2
      simp only [LCg.Off1] at o2
      cases hg : ys.getLast? with
      | none =>
        have hyn : ys = [] := by simpa using hg
        subst hyn
        have hwne : ¬ ([] : List Value) ≠ [] := fun h => h rfl
        k_steps
        refine hret _ _ _ _ ⟨L1, fun p hp => sb p (.tail _ hp), allLt_of lN, hup1, ?_⟩ (by k_asm) (cb_drop (by k_asm) fun p hp => by ktr_rel)
        rw [if_pos rfl, dP_nil hys]
        exact .none
      | some v0 =>
        have hwne : ys ≠ [] := by rintro rfl; simp at hg
        k_steps
        refine hret _ _ _ _ ⟨L1, fun p hp => sb p (.tail _ hp), allLt_of lN, hup1, ?_⟩ (by k_asm) (cb_drop (by k_asm) fun p hp => by ktr_rel)
        obtain ⟨x0, e0, d0⟩ := dP_last hys hg
        rw [if_pos rfl, e0]
        exact d0
theorem find_nil_spec {news : Led} {vw cw sa : Addr} {rows : Rows} {cn : Nat} (H : ViewIn w.params news vw rows) (G : GoodRows rows) (hc : (cw, listOf ([] : List Value).toArray cn) ∈ news) (ha : Apart (flow rows rows.length)) :
    Spec w loose mean mg mb 550 550 177 [.ref vw, .ref cw, .ref sa] news (fun v n' => ∃ B, (∀ p ∈ news, p ∈ n') ∧ AllLt B news ∧ Up B news n' ∧ v = .none) := by
  intro gd env outer A₀ base h₀ L m s Q E hf hk B F X N T hret
  have hi : IntsAre [] [] := .nil
  have hcl : ([] : List Int).length ≤ 3 := Nat.zero_le _
  refine wpAny_call ?_
  k_dflt (refine' code_defC ?k1 ?k2 ?k3 ?k4 ?k5 ?kA ?kF ?kK ?k6 ?k7 ?k8 ?k9 ?kB ?kD ?_ ?c2 ?c3 ?c4; (case kA => exact rfl); (case kF => assumption); (case kK => assumption); (case k1 => k_asm); (case k2 => k_asm); (case k3 => k_asm); (case k4 => k_asm); (case k5 => k_asm); (case k6 => k_is); (case k7 => k_is); (case k8 => k_room); (case k9 => first | exact BindsTo.of_eq rfl | exact binds_K (by k_in) rfl (by k_is) rfl rfl rfl); (case kB => exact rfl); (case kD => decide +kernel); (case c2 => exact rfl); (case c3 => exact rfl); (case c4 => exact rfl); k_whole); intro g1 L1 h1 tk1 cells1 FG1 F1 N1 Y1 B1 X1 T1 l1; (try k_lt l1); k_cells Y1; (try simp only [List.cons_append, List.nil_append] at N1); (try dsimp only); (try k_lift B1); (try k_fold)
  k_steps
  rename_i v9 n9 h9 tk9 po F9 N9
  obtain ⟨B0, l, nl, pvs, nn, rfl, rfl, sb, ltB, hBl, up, da⟩ := po
  rename (∀ p : Addr × Obj, p ∈ news → p.1 < L1) => lN
  have hb1 : @LT.lt Nat _ (L1 + 1) B0 := allLt_mem ltB _ (.head _)
  have hup1 : Up L1 news nn := up.trans (Nat.le_of_lt (Nat.lt_trans (Nat.lt_succ_self L1) hb1)) (Up.cons (Nat.lt_succ_self L1) Up.refl)
  have hpv : pvs = [] := List.length_eq_zero_iff.mp da.length
  subst hpv
  have hsz : ([] : List Value).toArray.size ≤ sizeLine := Nat.zero_le _
  clear up ltB
  refine Halt.go ?_
  k_steps
  rename Fr g1 L1 _ _ => F2
  rename News g1 L1 _ _ => N2
  refine Halt.go (LCt.CompSrcT.ledger rfl F2 N2 (.head _) hsz (fun g => LCt.CompRestT.zero (Halt.go ?_)))
  clear F2 N2
  intro D1 h2 tk2 F2 N2 o2
  simp only [LCg.Off1] at o2
  have hwne : ¬ ([] : List Value) ≠ [] := fun h => h rfl
  k_steps
  exact hret _ _ _ _ ⟨L1, fun p hp => sb p (.tail _ hp), allLt_of lN, hup1, rfl⟩ (by k_asm) (cb_drop (by k_asm) fun p hp => by ktr_rel)
end

end
end Mine
namespace Mine
section
theorem base50 : True := by
  k_with_none
  k_with "execs cons" => (k_here; (with_reducible refine wpAny_execs_cons ?_); (try dsimp only); k_fold)
  k_with "ne" => (first | with_reducible assumption | with_reducible exact Ne.symm (by with_reducible assumption) | with_reducible exact Nat.ne_of_gt (by k_extra "lt0") | with_reducible exact Nat.ne_of_lt (by k_extra "lt0") | with_reducible exact Nat.ne_of_gt (by k_extra "lt2") | with_reducible exact Nat.ne_of_lt (by k_extra "lt2") | with_reducible exact neu (by with_reducible assumption) | with_reducible exact neu' (by with_reducible assumption) | with_reducible exact neu2 (by with_reducible assumption) | with_reducible exact neu2' (by with_reducible assumption) | with_reducible exact neu (by k_extra "lt0") | with_reducible exact neu' (by k_extra "lt0") | with_reducible exact Nat.ne_of_lt sl1 | with_reducible exact Nat.ne_of_lt sl2 | with_reducible exact Nat.ne_of_lt sl3 | with_reducible exact Nat.ne_of_lt sl4 | with_reducible exact Nat.ne_of_lt sl5 | with_reducible exact Nat.ne_of_gt sl1 | with_reducible exact Nat.ne_of_gt sl2 | with_reducible exact Nat.ne_of_gt sl3 | with_reducible exact Nat.ne_of_gt sl4 | with_reducible exact Nat.ne_of_gt sl5 | k_extra "neX" | omega)
  k_with "lt2" => (refine Nat.lt_trans (by with_reducible assumption) ?_; first | with_reducible assumption | k_extra "lt2")
  k_with "lt0" => (first | with_reducible assumption | exact pj0 (by with_reducible assumption) | exact pj1 (by with_reducible assumption) | exact pj2 (by with_reducible assumption) | exact pj3 (by with_reducible assumption) | exact pj4 (by with_reducible assumption) | exact pj5 (by with_reducible assumption) | exact pj6 (by with_reducible assumption) | exact pj7 (by with_reducible assumption) | exact pj8 (by with_reducible assumption) | exact pj9 (by with_reducible assumption) | exact pj10 (by with_reducible assumption) | exact pj11 (by with_reducible assumption) | exact pj12 (by with_reducible assumption) | exact pj13 (by with_reducible assumption) | exact pj14 (by with_reducible assumption) | exact pj15 (by with_reducible assumption) | exact pj16 (by with_reducible assumption))
  k_with "lt1" => (refine Nat.lt_trans (by k_extra "lt0") ?_; first | k_extra "lt0" | k_extra "lt1")
  k_with "om" => (first | with_reducible assumption | with_reducible exact Nat.le_of_ble_eq_true (by decide) | with_reducible exact ci0 | with_reducible exact ci1 | with_reducible exact cz0 (by with_reducible assumption) | with_reducible exact cz1 (by with_reducible assumption) | with_reducible exact cz2 (by with_reducible assumption) | with_reducible exact cz3 (by with_reducible assumption) | with_reducible exact lb1 (by with_reducible assumption) (by decide) | with_reducible exact lb4 (by with_reducible assumption) (by decide) | with_reducible exact lb2 (by with_reducible assumption) (by with_reducible assumption) (by decide) | with_reducible exact lb5 (by with_reducible assumption) (by with_reducible assumption) (by decide) | with_reducible exact ci4 (by with_reducible assumption) (by decide) | with_reducible exact ci5 (by with_reducible assumption) (by decide) | with_reducible exact cz4 (by with_reducible assumption) (by with_reducible assumption) | with_reducible exact cz5 (by with_reducible assumption) (by with_reducible assumption) | with_reducible exact cz6 (by with_reducible assumption) (by with_reducible assumption) (by with_reducible assumption) (by decide) | with_reducible exact lp1 (by with_reducible assumption) (by decide) | with_reducible exact le1 (by with_reducible assumption) | with_reducible exact le2 (by with_reducible assumption) | with_reducible exact Nat.le_succ _ | with_reducible exact leu (by with_reducible assumption) | with_reducible exact leu2 (by with_reducible assumption) | with_reducible exact zb1 (by with_reducible assumption) (by decide) | with_reducible exact zb2 (by with_reducible assumption) | with_reducible exact zb3 (by with_reducible assumption) (by decide) | with_reducible exact un1 (by with_reducible assumption) | with_reducible exact sl1 | with_reducible exact sl2 | with_reducible exact sl3 | with_reducible exact sl4 | with_reducible exact sl5 | with_reducible exact Nat.le_of_lt (by k_extra "lt0") | omega)
  k_with "lt" => (first | k_extra "lt0" | k_extra "lt1")
  trivial
abbrev dL (x : Sign) : Dat := .tuple [.int x.1, .tuple [.int x.2.1, .int x.2.2]]
/-- what the law has told of a line -/
inductive SignsIn (news : Led) (v : Value) (xs : List (Option Int)) : Prop
  | mk (tl tv n)
    (f0 : v = .ref tl)
    (f1 : (tl, listOf tv.toArray n) ∈ news)
    (f2 : All2 TellV tv xs) : SignsIn news v xs
theorem SignsIn.mono {news news' : Led} {v : Value} {xs : List (Option Int)} (h : SignsIn news v xs) (hs : ∀ p ∈ news, p ∈ news') : SignsIn news' v xs :=
  let ⟨tl, tv, n, a, b, c⟩ := h; ⟨tl, tv, n, a, hs _ b, c⟩
inductive StInv (fl sg jr : Nat) (I : Nat) (svs : List Value) (rows : Rows) (news : Led) (left : List Itm) (m : Str → Option Value) (nx : Led) : Prop
  | mk (i : Nat) (vs : List Value) (nf : Nat) (rest : Led) (u : Str → Option Value)
    (f0 : left = enumItems i (svs.drop i))
    (f1 : i ≤ svs.length)
    (f2 : m = (fun y => if y = Str.ofString "found" then some (.ref fl) else if y = Str.ofString "signs" then some (.ref sg) else if y = Str.ofString "joined_rows" then some (.ref jr) else u y))
    (f3 : nx = (fl, listOf vs.toArray nf) :: rest)
    (f4 : (∀ p ∈ news, p ∈ rest))
    (f5 : Up I news rest)
    (f6 : DatAll rest vs ((flow rows i).map dL)) : StInv fl sg jr I svs rows news left m nx
theorem named6 {m : Str → Option Value} {a b c d e f : Str} {va vb vc vd ve vf : Value} (ha : m a = some va) (hb : m b = some vb) (hc : m c = some vc) (hd : m d = some vd) (he : m e = some ve) (hf : m f = some vf) :
    m = fun z => if z = a then some va else if z = b then some vb else if z = c then some vc else if z = d then some vd else if z = e then some ve else if z = f then some vf else m z := by
  funext z
  split
  · rename_i h; rw [h, ha]
  · split
    · rename_i h; rw [h, hb]
    · split
      · rename_i h; rw [h, hc]
      · split
        · rename_i h; rw [h, hd]
        · split
          · rename_i h; rw [h, he]
          · split
            · rename_i h; rw [h, hf]
            · rfl
abbrev stFrame (fl sg jr tl : Nat) (rowv manyv : Value) (u : Str → Option Value) : Str → Option Value := fun y =>
  if y = Str.ofString "many" then some manyv else if y = Str.ofString "told" then some (.ref tl) else if y = Str.ofString "row" then some rowv else if y = Str.ofString "found" then some (.ref fl) else if y = Str.ofString "signs" then some (.ref sg) else if y = Str.ofString "joined_rows" then some (.ref jr) else u y
/-- the state within a turn of the rows, many at hand -/
inductive LsAt (s : Shared) (g : Heap) (L : Addr) (fl sg jr tl : Nat) (rowv : Value) (led : Led) (n : Nat) (S' : Shared) : Prop
  | mk (h : Heap) (tk : Nat) (ci : Int) (t : Tok) (u : Str → Option Value)
    (f0 : S' = { s with heap := h, toks := tk })
    (f1 : ci = (n : Int))
    (f2 : Fr g L h (stFrame fl sg jr tl rowv (.int ci t) u))
    (f3 : News g L h led) : LsAt s g L fl sg jr tl rowv led n S'
theorem LsAt.intro {s : Shared} {g : Heap} {L : Addr} {fl sg jr tl : Nat} {rowv : Value} {led : Led} {n : Nat} {h : Heap} {tk : Nat} {ci : Int} {t : Tok} {m : Str → Option Value} (hci : ci = (n : Int)) (F : Fr g L h m) (N : News g L h led)
    (e1 : m (Str.ofString "many") = some (.int ci t)) (e2 : m (Str.ofString "told") = some (.ref tl)) (e3 : m (Str.ofString "row") = some rowv) (e4 : m (Str.ofString "found") = some (.ref fl)) (e5 : m (Str.ofString "signs") = some (.ref sg)) (e6 : m (Str.ofString "joined_rows") = some (.ref jr)) :
    LsAt s g L fl sg jr tl rowv led n { s with heap := h, toks := tk } := ⟨h, tk, ci, t, m, rfl, hci, by rw [named6 e1 e2 e3 e4 e5 e6] at F; exact F, N⟩
theorem st_none {rest : Led} {vs : List Value} {ss : List Sign} {ci : Int} {xs : List (Option Int)} {k : Nat} (hx : xs[k]? = some none) (h : DatAll rest vs ((ss ++ cellSigns ci 0 (xs.take k)).map dL)) : DatAll rest vs ((ss ++ cellSigns ci 0 (xs.take (k + 1))).map dL) := by
  rw [take_snoc hx, cellSigns_snoc]
  simpa [sgn] using h
theorem st_some {rest : Led} {vs : List Value} {ss : List Sign} {ci ck kk c : Int} {xs : List (Option Int)} {k a b : Nat} {t1 t2 t3 : Tok} (hx : xs[k]? = some (some kk)) (hck : 0 + (k : Int) = ck) (hc : c = shown kk) (h : DatAll rest vs ((ss ++ cellSigns ci 0 (xs.take k)).map dL)) :
    DatAll ((a, tupOf [.int c t1, .ref b]) :: (b, tupOf [.int ci t2, .int ck t3]) :: rest) (vs ++ [.ref a]) ((ss ++ cellSigns ci 0 (xs.take (k + 1))).map dL) := by
  have hk : k < xs.length := (List.getElem?_eq_some_iff.mp hx).1
  subst hc
  rw [take_snoc hx, cellSigns_snoc, ← List.append_assoc, List.map_append]
  refine (h.mono fun p hp => .tail _ (.tail _ hp)).append ?_
  rw [List.length_take, Nat.min_eq_left (Nat.le_of_lt hk), hck]
  exact .cons (.tuple (.head _) (.cons (.int _ _) (.cons (.tuple (.tail _ (.head _)) (.cons (.int _ _) (.cons (.int _ _) .nil))) .nil))) .nil
theorem st_row1 {rest : Led} {vs : List Value} {rows : Rows} {i : Nat} {xs : List (Option Int)} (hx : cellsAt rows i = xs) (hj : joined rows (i : Int) = true)
    (h : DatAll rest vs ((flow rows i ++ cellSigns (i : Int) 0 (xs.take (wid rows i))).map dL)) : DatAll rest vs ((flow rows (i + 1)).map dL) := by
  unfold flow rowSigns
  rw [hx, if_pos hj, List.append_nil]
  exact h
theorem st_row2 {rest : Led} {vs : List Value} {rows : Rows} {i a b : Nat} {t1 t2 t3 : Tok} {xs : List (Option Int)} {nw : Nat} (hw : wid rows i = nw) (hx : cellsAt rows i = xs) (hj : joined rows (i : Int) = false)
    (h : DatAll rest vs ((flow rows i ++ cellSigns (i : Int) 0 (xs.take nw)).map dL)) : DatAll ((a, tupOf [.int 10 t1, .ref b]) :: (b, tupOf [.int (i : Int) t2, .int (nw : Int) t3]) :: rest) (vs ++ [.ref a]) ((flow rows (i + 1)).map dL) := by
  subst hw
  unfold flow rowSigns
  rw [hx, if_neg (by simp [hj]), ← List.append_assoc, List.map_append]
  exact (h.mono fun p hp => .tail _ (.tail _ hp)).append (.cons (.tuple (.head _) (.cons (.int _ _) (.cons (.tuple (.tail _ (.head _)) (.cons (.int _ _) (.cons (.int _ _) .nil))) .nil))) .nil)
theorem tell_eq {w : World} {A : Around} {E : Value → Shared → Prop} {s : Shared} {v : Value} {x : Option Int} {c : Int} {t : Tok} {Q : Value → Shared → Prop} (hv : TellV v x) (h : Q (.bool (decide (x = some c))) s) : wpAny (model theProg w) A (compareOp .Eq v (.int c t)) Q E s := by
  cases x with
  | none =>
    obtain rfl : v = .none := hv
    exact EqNone.eq_none_int (by simpa using h)
  | some k =>
    obtain ⟨t', rfl⟩ := hv
    refine eq_int ?_
    have e : (k == c) = decide (some k = some c) := by by_cases hk : k = c <;> simp [hk]
    rw [e]
    exact h
inductive StInv2 (fl sg jr tl I : Nat) (rowv manyv : Value) (oe ol : Obj) (ci : Int) (xs : List (Option Int)) (ss : List Sign) (n : Nat) (B : Nat) (rest0 : Led) (left : List Itm) (m : Str → Option Value) (nx : Led) : Prop
  | mk (k : Nat) (vs : List Value) (nf : Nat) (rest : Led) (u : Str → Option Value)
    (f0 : left = rangeItems 0 k (n - k))
    (f1 : k ≤ n)
    (f2 : m = stFrame fl sg jr tl rowv manyv u)
    (f3 : nx = (I + 1, oe) :: (I, ol) :: (fl, listOf vs.toArray nf) :: rest)
    (f4 : (∀ p ∈ rest0, p ∈ rest))
    (f5 : Up B rest0 rest)
    (f6 : DatAll rest vs ((ss ++ cellSigns ci 0 (xs.take k)).map dL)) : StInv2 fl sg jr tl I rowv manyv oe ol ci xs ss n B rest0 left m nx
section
variable {w : World} {loose : List Str} {mean : ExcName → Option Value} {mg mb : Str → Option Value}
theorem rules50_1 : True := by
  k_with "k_enter" => ((refine' code_def ?q155k1 ?q155k2 ?q155k3 ?q155k4 ?q155k5 ?q155kA ?q155kF ?q155kK ?q155k6 ?q155k7 ?q155k8 ?q155k9 ?q155kB ?_ ?q155c2 ?q155c3 ?q155c4 ?q155c5; (case q155kA => exact rfl); (case q155kF => assumption); (case q155kK => assumption); (case q155k1 => k_asm); (case q155k2 => k_asm); (case q155k3 => k_asm); (case q155k4 => k_asm); (case q155k5 => k_asm); (case q155k6 => k_is); (case q155k7 => k_is); (case q155k8 => k_room); (case q155k9 => first | exact BindsTo.of_eq rfl | exact binds_K (by k_in) rfl (by k_is) rfl rfl rfl); (case q155c5 => decide); (case q155kB => exact locs rfl); (case q155c2 => exact rfl); (case q155c3 => exact rfl); (case q155c4 => exact rfl); k_whole; intro _ _ _ _ _ _ B' _ _; (try dsimp only); (try k_lift B'); (try k_fold)))
  k_with "eval Name" => ((k_dflt (first
  | (refine' nameX_L ?q156F ?q156v ?_ ?q156a ?q156b; (case q156F => k_asm); (case q156a => exact rfl); (case q156b => exact rfl); (case q156v => exact rfl); k_whole)
  | (refine' nameX_K ?q156F ?q156X ?q156T ?q156e ?_ ?q156a ?q156b; (case q156F => k_asm); (case q156X => k_asm); (case q156T => k_asm); (case q156a => exact rfl); (case q156b => exact rfl); (case q156e => k_is); k_whole))))
  k_with "k_mem" => (((repeat (refine' List.mem_cons_of_mem _ ?_)); with_reducible assumption))
  k_with "subscriptTail Name Constant ref int" => ((k_dflt (refine tup_at (by k_asm) (by k_mem) (by decide) (by decide) (by rfl) ?_)))
  k_with "subscriptTail Subscript Constant ref int" => ((k_dflt (refine tup_at (by k_asm) (by k_mem) (by decide) (by decide) (by rfl) ?_)))
  k_with "ite" => ((first | (refine ite_pos (by with_reducible assumption) ?_) | (refine ite_neg (by with_reducible assumption) ?_) | (refine ite_pos (by simp only [beq_iff_eq, bne_iff_ne, beq_eq_false_iff_ne, decide_eq_true_eq, decide_eq_false_iff_not, Bool.not_eq_true', Bool.not_eq_false']; omega) ?_) | (refine ite_neg (by simp only [beq_iff_eq, bne_iff_ne, beq_eq_false_iff_ne, decide_eq_true_eq, decide_eq_false_iff_not, Bool.not_eq_true', Bool.not_eq_false']; omega) ?_)))
  k_with "ktr_rel" => (((repeat (refine List.mem_cons_of_mem _ ?_)); with_reducible assumption))
  k_with "k_all" => (assumption)
  k_with "k_updF" => (first | exact Del.head | (refine' Del.tail ?q163a ?q163b; (case q163a => k_ne); (case q163b => k_updF)))
  k_with "exec For Name Call cons nil" => ((k_here; kxt_pos))
  k_with "exec For Tuple Call cons nil" => ((k_here; kxt_pos))
  k_with "pyIter ref" => ((refine halt ?_))
  k_with "call type:enumerate" => ((refine halt ?_))
  k_with "exec While BoolOp cons nil" => ((refine halt ?_))
  k_with "exec If BoolOp cons nil" => ((refine halt ?_))
  k_with "WhlRest" => ((refine halt ?_))
  k_with "WhlIf" => ((first | (refine WhlIf.yes (by first | assumption | (simp only [decide_eq_true_eq, decide_eq_false_iff_not]; k_extra "om")) ?_) | (refine WhlIf.no (by first | assumption | (simp only [decide_eq_true_eq, decide_eq_false_iff_not]; k_extra "om")) ?_)))
  k_with "compareOp Eq" => ((k_here; k_dflt (refine tell_eq (by assumption) ?_; first | rw [decide_eq_true (by assumption)] | rw [decide_eq_false (by assumption)])))
  k_with "UnrEndW" => ((refine halt ?_))
  k_with "subscriptTail" => ((k_here; (with_reducible show wpAny _ _ (subscriptTail _ _ (Value.ref _) (Value.int _ _)) _ _ _); k_dflt (first | (refine list_at (by k_asm) (by k_mem) (by k_extra "om") (by k_extra "om") (by assumption) ?_) | (refine list_neg (by k_asm) (by k_mem) (by decide) (by assumption) ?_))))
  k_with "call builtin:len" => ((k_here; (with_reducible show wpAny _ _ (call (Value.builtin "len") [Value.ref _]) _ _ _); k_dflt (refine len_vs (by k_asm) (by k_mem) (by assumption) ?_); intro _ _))
  k_with "call builtin:list.append" => ((k_here; k_dflt (refine' list_push ?q176F ?q176N ?q176U ?q176z ?_; (case q176F => k_asm); (case q176N => k_asm); (case q176U => k_upd); (case q176z => k_extra "om")); intro _ _ _; (try k_sweep)))
  trivial
theorem stream_spec {news : Led} {sg jr : Addr} {rows : Rows} {svs : List Value} {sn jn : Nat} (G : GoodRows rows) (hsg : (sg, listOf svs.toArray sn) ∈ news) (hsv : All2 (SignsIn news) svs (rows.map (·.1))) (hjr : (jr, listOf (rows.map fun x => Value.bool x.2).toArray jn) ∈ news) :
    Spec w loose mean mg mb 560 560 589 [.ref sg, .ref jr] news (fun v n' => ∃ l n vs nn, v = .ref l ∧ n' = (l, listOf vs.toArray n) :: nn ∧ (∀ p ∈ news, p ∈ nn) ∧ AllLt l news ∧ Up l news nn ∧ DatAll nn vs ((flow rows rows.length).map dL)) := by
  intro gd env outer A₀ base h₀ L m s Q E hf hk B F X N T hret
  have hr4 := G.2.2.1
  have hsl := hsv.length
  rw [List.length_map] at hsl
  refine wpAny_call ?_
  k_dflt (refine' code_def ?k1 ?k2 ?k3 ?k4 ?k5 ?kA ?kF ?kK ?k6 ?k7 ?k8 ?k9 ?kB ?_ ?c2 ?c3 ?c4 ?c5; (case kA => exact rfl); (case kF => assumption); (case kK => assumption); (case k1 => k_asm); (case k2 => k_asm); (case k3 => k_asm); (case k4 => k_asm); (case k5 => k_asm); (case k6 => k_is); (case k7 => k_is); (case k8 => k_room); (case k9 => first | exact BindsTo.of_eq rfl | exact binds_K (by k_in) rfl (by k_is) rfl rfl rfl); (case c5 => decide); (case kB => exact locs rfl); (case c2 => exact rfl); (case c3 => exact rfl); (case c4 => exact rfl); k_whole); intro g1 L1 h1 FG1 F1 N1 B1 X1 T1; (try dsimp only); (try k_lift B1); (try k_fold)
  k_steps
  obtain ⟨fl, hfl, b1⟩ : ∃ fl : Nat, fl = _ ∧ AllLt fl news := ⟨_, rfl, allLt_of (by assumption)⟩
  subst hfl
  rename Fr g1 L1 _ _ => F2
  rename News g1 L1 _ _ => N2
  refine Halt.go (ktu_enum (l := sg) (vs := svs) (xs := enumItems 0 svs) rfl F2 N2 (.tail _ hsg) rfl rfl rfl (fun I hI => items_ind (StInv fl sg jr (I + 1) svs rows news) ?_ ?_ _ _ _ ⟨0, [], _, _, _, rfl, Nat.zero_le _, named3 rfl rfl rfl, rfl, fun _ h => h, Up.refl, .nil⟩))
  · clear N2 F2
    replace hI := allLt_of hI
    simp only [AllLt] at hI
    obtain ⟨i1, i2⟩ := hI
    replace i1 := ltN i1
    rintro a r m3 nx v h tk its ⟨i, vs, nf, rest, u, hleft, hi, rfl, rfl, hsub, hup, hda⟩ hv hits F3 N3
    obtain ⟨v', hv', rfl, rfl⟩ := enumItems_cons hleft
    obtain ⟨T9, tT, rfl, hT⟩ := hv
    dsimp only at hT
    obtain ⟨oe, ol, rfl, hce, hcl⟩ := objs2 hits
    simp only [List.cons_append, List.nil_append] at N3
    replace N3 : News g1 L1 h _ := N3
    replace F3 : Fr g1 L1 h _ := F3
    have low : ∀ p ∈ news, @LT.lt Nat _ p.1 fl := fun p hp => allLt_mem b1 p hp
    have r1 : ∀ p ∈ rest, p.1 ≠ fl := hup.ne (fun p hp => Nat.ne_of_lt (low p hp)) (by k_extra "om")
    have r2 : ∀ p ∈ rest, p.1 ≠ I := hup.ne (fun p hp => Nat.ne_of_lt (Nat.lt_trans (low p hp) i1)) (by k_extra "om")
    have r3 : ∀ p ∈ rest, p.1 ≠ I + 1 := hup.ne (fun p hp => Nat.ne_of_lt (Nat.lt_trans (Nat.lt_trans (low p hp) i1) (Nat.lt_succ_self I))) (by k_extra "om")
    obtain ⟨xs, hxs, hsi⟩ := hsv.at' _ _ hv'
    obtain ⟨⟨xs', j⟩, hx, rfl⟩ : ∃ x, rows[i]? = some x ∧ x.1 = xs := by simpa using hxs
    obtain ⟨tl, tv, ntl, rfl, htl, htv⟩ := hsi
    dsimp only at htv
    have hxl : xs'.length = 4 := G.1 _ (List.mem_of_getElem? hx)
    have htl4 : tv.length = 4 := by rw [htv.length, hxl]
    replace htl := hsub _ htl
    have hjr' := hsub _ hjr
    have hsg' := hsub _ hsg
    have hjv : (rows.map fun x => Value.bool x.2)[((i : Nat) : Int).toNat]? = some (.bool j) := by simp [hx]
    have hvl : vs.length ≤ 30 := by
      have e1 := hda.length
      have e2 := flow_len rows i
      rw [List.length_map] at e1
      k_extra "om"
    have hil : i < 4 := by have := (List.getElem?_eq_some_iff.mp hx).1; k_extra "om"
    have hcl9 : cellsAt rows i = xs' := by unfold cellsAt; rw [hx]; rfl
    have hjj : joined rows (i : Int) = j := by
      unfold joined
      rw [Int.toNat_natCast, hx]
      cases j
      · simp
      · have hi2 : i + 1 < rows.length := by
          rcases Nat.lt_or_ge (i + 1) rows.length with h' | h'
          · exact h'
          · exfalso
            have := G.2.2.2 (xs', true) (by rw [List.getLast?_eq_getElem?, ← hx]; congr 1; have := (List.getElem?_eq_some_iff.mp hx).1; k_extra "om")
            simp at this
        simp
        k_extra "om"
    k_steps
    rename Fr g1 L1 _ _ => F4
    rename News g1 L1 _ _ => N4
    refine Halt.go (wpAny_mono (Q := fun f S' => f = .next ∧ LsAt s g1 L1 fl sg jr tl (.int (i : Int) tT) ((I + 1, oe) :: (I, ol) :: (fl, listOf vs.toArray nf) :: rest) (if j = true then 4 else trim 4 xs') S') ?_ (fun f S' hS => ?_) (fun _ _ x => x))
    · cases j
      · refine whl_start 0 (whl_ind (fun n S' => n ≤ 4 ∧ trim n xs' = trim 4 xs' ∧ LsAt s g1 L1 fl sg jr tl (.int (i : Int) tT) ((I + 1, oe) :: (I, ol) :: (fl, listOf vs.toArray nf) :: rest) n S') (fun n => n) 4 ⟨Nat.le_refl _, rfl, LsAt.intro rfl F4 N4 rfl rfl rfl rfl rfl rfl⟩ ?_)
        clear F4 N4
        rintro n S' ⟨hn, ht, h4, tk4, ci, t4, u4, rfl, hci, F5, N5⟩ ih
        refine whl_turn (k := 0) ?hE ?_
        case hE => first | passes_own | with_unfolding_all passes_own
        by_cases h0 : n = 0
        · subst h0
          k_steps
          rw [if_neg (by decide), ← ht]
          exact LsAt.intro hci (by k_asm) (by k_asm) rfl rfl rfl rfl rfl rfl
        · obtain ⟨v4, hv4⟩ : ∃ v4, tv[(ci - 1).toNat]? = some v4 := ⟨_, List.getElem?_eq_getElem (by k_extra "om")⟩
          obtain ⟨x4, hx4, tell⟩ := htv.at' _ _ hv4
          have en : n = (ci - 1).toNat + 1 := by k_extra "om"
          by_cases e4 : x4 = some 0
          · k_steps
            refine Halt.go (ih (ci - 1).toNat _ (by k_extra "om") ⟨by k_extra "om", ?_, LsAt.intro (ci := ci - 1) (by k_extra "om") (by k_asm) (by k_asm) rfl rfl rfl rfl rfl rfl⟩)
            rw [← ht, en, trim, hx4, e4, if_pos rfl]
          · k_steps
            rw [if_neg (by decide), ← ht, en, trim, hx4, if_neg (by simpa using e4), ← en]
            exact LsAt.intro hci (by k_asm) (by k_asm) rfl rfl rfl rfl rfl rfl
      · refine whl_start 1 (whl_turn (k := 0) ?hE2 ?_)
        case hE2 => first | passes_own | with_unfolding_all passes_own
        k_steps
        rw [if_pos rfl]
        exact LsAt.intro rfl (by k_asm) (by k_asm) rfl rfl rfl rfl rfl rfl
    · clear F4 N4
      obtain ⟨rfl, h4, tk4, ci, t4, u4, rfl, hci, F5, N5⟩ := hS
      k_steps
      rename Fr g1 L1 _ _ => F6
      rename News g1 L1 _ _ => N6
      refine Halt.go (wpAny_mono (Q := fun f S' => f = .next ∧ LsAt s g1 L1 fl sg jr tl (.int (i : Int) tT) ((I + 1, oe) :: (I, ol) :: (fl, listOf vs.toArray nf) :: rest) (wid rows i) S') ?_ (fun f S' hS => ?_) (fun _ _ x => x))
      · cases j
        · have ew : wid rows i = trim 4 xs' := by
            have hjf : joined rows i = false := by
              unfold joined
              rw [Int.toNat_natCast, hx]
              simp
            unfold wid
            rw [hx]
            simp only [hjf, Bool.false_eq_true, if_false]
          refine wpAny_If ?_
          k_steps
          rw [ew]
          rw [if_neg (by decide)] at hci
          exact LsAt.intro hci (by k_asm) (by k_asm) rfl rfl rfl rfl rfl rfl
        · have hi2 : i + 1 < rows.length := by
            rcases Nat.lt_or_ge (i + 1) rows.length with h' | h'
            · exact h'
            · exfalso
              have := G.2.2.2 (xs', true) (by rw [List.getLast?_eq_getElem?, ← hx]; congr 1; have := (List.getElem?_eq_some_iff.mp hx).1; k_extra "om")
              simp at this
          obtain ⟨⟨ys, j2⟩, hy⟩ : ∃ y, rows[i + 1]? = some y := ⟨_, List.getElem?_eq_getElem hi2⟩
          have hyl : ys.length = 4 := G.1 _ (List.mem_of_getElem? hy)
          obtain ⟨v2, hv2, tl2, tv2, ntl2, rfl, htl2, htv2⟩ := hsv.at (i + 1) ys (by simp [hy])
          replace htl2 := hsub _ htl2
          have hv2' : svs[((i : Int) + 1).toNat]? = some (.ref tl2) := by rw [← hv2]; congr 1
          have h2l := htv2.length
          obtain ⟨w0, hw0⟩ : ∃ w0, tv2[(0 : Int).toNat]? = some w0 := ⟨_, List.getElem?_eq_getElem (by show 0 < _; k_extra "om")⟩
          obtain ⟨y0, hy0, tell0⟩ := htv2.at' _ _ hw0
          obtain ⟨w3, hw3⟩ : ∃ w3, tv.getLast? = some w3 := by
            rw [List.getLast?_eq_getElem?]
            exact ⟨_, List.getElem?_eq_getElem (by k_extra "om")⟩
          obtain ⟨x3, hx3, tell3⟩ := htv.at' 3 w3 (by rw [List.getLast?_eq_getElem?] at hw3; rw [← hw3]; congr 1; k_extra "om")
          have ew : wid rows i = if x3 = some 0 ∧ y0 = some 19968 then 3 else 4 := by
            have hjt : joined rows i = true := by
              unfold joined
              rw [Int.toNat_natCast, hx]
              simp
              k_extra "om"
            have hy0' : ys[0]? = some y0 := hy0
            unfold wid
            rw [hx, hy]
            simp only [hjt, if_true, Option.bind_some, hx3, hy0', Option.some.injEq]
          rw [if_pos rfl] at hci
          by_cases e3 : x3 = some 0
          · by_cases e0 : y0 = some 19968
            · rw [if_pos ⟨e3, e0⟩] at ew
              rw [ew]
              refine wpAny_If ?_
              k_steps
              exact LsAt.intro (ci := ci - 1) (by k_extra "om") (by k_asm) (by k_asm) rfl rfl rfl rfl rfl rfl
            · rw [if_neg (fun h => e0 h.2)] at ew
              rw [ew]
              refine wpAny_If ?_
              k_steps
              exact LsAt.intro hci (by k_asm) (by k_asm) rfl rfl rfl rfl rfl rfl
          · rw [if_neg (fun h => e3 h.1)] at ew
            rw [ew]
            refine wpAny_If ?_
            k_steps
            exact LsAt.intro hci (by k_asm) (by k_asm) rfl rfl rfl rfl rfl rfl
      · clear F6 N6
        obtain ⟨rfl, h5, tk5, ci, t5, u5, rfl, hci, F7, N7⟩ := hS
        have hw4 := wid_le rows i
        k_steps
        obtain ⟨nw, hnw⟩ : ∃ nw, wid rows i = nw := ⟨_, rfl⟩
        have hroi := hnw
        rw [hnw] at hci hw4
        subst hci
        rename IsRange _ _ _ _ _ _ _ _ => hR
        rename Fr g1 L1 _ _ => F8
        rename News g1 L1 _ _ => N8
        refine Halt.go (iter_rangeTurns (n := nw) rfl hR (rng_small (by k_extra "om")) (rng_size _) F8 N8 (fun I2 hI2 => items_ind (StInv2 fl sg jr tl I (.int (i : Int) tT) (.int (nw : Int) t5) oe ol (i : Int) xs' (flow rows i) nw I2 rest) ?_ ?_ _ _ _ ⟨0, vs, nf, rest, _, rfl, Nat.zero_le _, named6 rfl rfl rfl rfl rfl rfl, rfl, fun _ h => h, Up.refl, by simpa [cellSigns] using hda⟩))
        · clear F8 N8 hR
          replace hI2 := allLt_of hI2
          simp only [AllLt] at hI2
          obtain ⟨c1, c2, c3, c4⟩ := hI2
          replace c1 := ltN c1
          replace c2 := ltN c2
          replace c3 := ltN c3
          have low2 : ∀ p ∈ rest, @LT.lt Nat _ p.1 I2 := fun p hp => allLt_mem c4 p hp
          rintro a r m3 nx v h tk its ⟨k, vs2, nf2, rest2, u6, hleft2, hk2, rfl, rfl, hsub2, hup2, hda2⟩ hv hits F9 N9
          obtain ⟨hin, rfl, rfl⟩ := rangeItems_cons hleft2 hk2
          obtain ⟨t6, rfl⟩ := hv
          obtain ⟨oI, rfl, hcI⟩ := objs1 hits
          obtain ⟨ck, hck⟩ : ∃ ck : Int, 0 + (k : Int) = ck := ⟨_, rfl⟩
          simp only [List.cons_append, List.nil_append] at N9
          replace N9 : News g1 L1 h _ := N9
          replace F9 : Fr g1 L1 h _ := F9
          show wpAny _ _ (assign _ _ (Value.int (0 + (k : Int)) t6)) _ _ _
          rw [hck]
          have s1 : ∀ p ∈ rest2, p.1 ≠ fl := hup2.ne r1 (by k_extra "om")
          have s2 : ∀ p ∈ rest2, p.1 ≠ I := hup2.ne r2 (by k_extra "om")
          have s3 : ∀ p ∈ rest2, p.1 ≠ I + 1 := hup2.ne r3 (by k_extra "om")
          have s4 : ∀ p ∈ rest2, p.1 ≠ I2 := hup2.off low2
          have htl2 := hsub2 _ htl
          obtain ⟨v4, hv4⟩ : ∃ v4, tv[ck.toNat]? = some v4 := ⟨_, List.getElem?_eq_getElem (by k_extra "om")⟩
          obtain ⟨x4, hx4, tell⟩ := htv.at' _ _ hv4
          have hvl2 : vs2.length ≤ 40 := by
            have e1 := hda2.length
            have e2 := flow_len rows i
            have e3 := cellSigns_len (i : Int) (xs'.take k) 0
            simp only [List.length_map, List.length_append, List.length_take] at e1 e3
            k_extra "om"
          have ekk : ck.toNat = k := by k_extra "om"
          rw [ekk] at hx4
          cases x4 with
          | none =>
            obtain rfl : v4 = .none := tell
            k_steps
            rename Fr g1 L1 _ _ => F10
            rename News g1 L1 _ _ => N10
            refine' Halt.go (turn_end (its := [(I2, oI)]) (fr := [(I + 1, oe), (I, ol), (fl, _)]) F10 N10 ?ddp ?offp ?offrp ?keepp ?invp)
            case ddp => exact .cons (by k_updF) (.cons (by k_updF) (.cons (by k_updF) (.cons (by k_updF) .nil)))
            case offp =>
              intro q hq p hp
              simp only [List.mem_cons, List.not_mem_nil, or_false] at hq hp
              subst hq
              rcases hp with rfl | rfl | rfl <;> k_ne
            case offrp =>
              intro q hq
              obtain rfl : q = _ := by simpa using hq
              refine Up.off (old := rest) ?_ low2
              repeat (refine Up.cons (by k_extra "om") ?_)
              exact hup2
            case keepp => exact trivial
            case invp =>
              refine ⟨k + 1, vs2, _, _, _, rfl, hin, named6 rfl rfl rfl rfl rfl rfl, rfl, fun p hp => by have := hsub2 p hp; ktr_rel, ?_, st_none hx4 hda2⟩
              repeat (refine Up.cons (by k_extra "om") ?_)
              exact hup2
          | some kk =>
            obtain ⟨t8, rfl⟩ := tell
            by_cases hk0 : kk = 0
            · k_steps
              rename Fr g1 L1 _ _ => F10
              rename News g1 L1 _ _ => N10
              refine' Halt.go (turn_end (its := [(I2, oI)]) (fr := [(I + 1, oe), (I, ol), (fl, _)]) F10 N10 ?ddq ?offq ?offrq ?keepq ?invq)
              case ddq => exact .cons (by k_updF) (.cons (by k_updF) (.cons (by k_updF) (.cons (by k_updF) .nil)))
              case offq =>
                intro q hq p hp
                simp only [List.mem_cons, List.not_mem_nil, or_false] at hq hp
                subst hq
                rcases hp with rfl | rfl | rfl <;> k_ne
              case offrq =>
                intro q hq
                obtain rfl : q = _ := by simpa using hq
                refine Up.off (old := rest) ?_ low2
                repeat (refine Up.cons (by k_extra "om") ?_)
                exact hup2
              case keepq => exact trivial
              case invq =>
                refine ⟨k + 1, vs2 ++ [_], _, _, _, rfl, hin, named6 rfl rfl rfl rfl rfl rfl, rfl, fun p hp => by have := hsub2 p hp; ktr_rel, ?_, st_some hx4 hck (by rw [hk0]; rfl) hda2⟩
                repeat (refine Up.cons (by k_extra "om") ?_)
                exact hup2
            · k_steps
              rename Fr g1 L1 _ _ => F10
              rename News g1 L1 _ _ => N10
              refine' Halt.go (turn_end (its := [(I2, oI)]) (fr := [(I + 1, oe), (I, ol), (fl, _)]) F10 N10 ?ddr ?offr ?offrr ?keepr ?invr)
              case ddr => exact .cons (by k_updF) (.cons (by k_updF) (.cons (by k_updF) (.cons (by k_updF) .nil)))
              case offr =>
                intro q hq p hp
                simp only [List.mem_cons, List.not_mem_nil, or_false] at hq hp
                subst hq
                rcases hp with rfl | rfl | rfl <;> k_ne
              case offrr =>
                intro q hq
                obtain rfl : q = _ := by simpa using hq
                refine Up.off (old := rest) ?_ low2
                repeat (refine Up.cons (by k_extra "om") ?_)
                exact hup2
              case keepr => exact trivial
              case invr =>
                refine ⟨k + 1, vs2 ++ [_], _, _, _, rfl, hin, named6 rfl rfl rfl rfl rfl rfl, rfl, fun p hp => by have := hsub2 p hp; ktr_rel, ?_, st_some hx4 hck (by rw [show shown kk = kk from if_neg hk0]) hda2⟩
                repeat (refine Up.cons (by k_extra "om") ?_)
                exact hup2
        · clear F8 N8 hR
          replace hI2 := allLt_of hI2
          simp only [AllLt] at hI2
          obtain ⟨c1, c2, c3, c4⟩ := hI2
          replace c1 := ltN c1
          rintro m3 nx h tk ⟨k, vs2, nf2, rest2, u6, hleft2, hk2, rfl, rfl, hsub2, hup2, hda2⟩ F9 N9
          replace N9 : News g1 L1 h _ := N9
          replace F9 : Fr g1 L1 h _ := F9
          obtain rfl : k = nw := Nat.le_antisymm hk2 (rangeItems_nil hleft2)
          have s1 : ∀ p ∈ rest2, p.1 ≠ fl := hup2.ne r1 (by k_extra "om")
          have s2 : ∀ p ∈ rest2, p.1 ≠ I := hup2.ne r2 (by k_extra "om")
          have s3 : ∀ p ∈ rest2, p.1 ≠ I + 1 := hup2.ne r3 (by k_extra "om")
          replace hjr' := hsub2 _ hjr'
          have hup3 : Up (I + 1) news rest2 := hup2.trans (by k_extra "om") hup
          have hi1 : i + 1 ≤ svs.length := (List.getElem?_eq_some_iff.mp hv').1
          have hvl2 : vs2.length ≤ 40 := by
            have e1 := hda2.length
            have e2 := flow_len rows i
            have e3 := cellSigns_len (i : Int) (xs'.take k) 0
            simp only [List.length_map, List.length_append, List.length_take] at e1 e3
            k_extra "om"
          cases j
          · k_steps
            rename Fr g1 L1 _ _ => F10
            rename News g1 L1 _ _ => N10
            refine' Halt.go (turn_end (its := [(I + 1, oe), (I, ol)]) (fr := [(fl, _)]) F10 N10 ?dds ?offs ?offrs ?keeps ?invs)
            case dds => exact .cons (by k_updF) (.cons (by k_updF) (.cons (by k_updF) .nil))
            case offs =>
              intro q hq p hp
              simp only [List.mem_cons, List.not_mem_nil, or_false] at hq hp
              subst hp
              rcases hq with rfl | rfl <;> k_ne
            case offrs =>
              intro q hq
              simp only [List.mem_cons, List.not_mem_nil, or_false] at hq
              rcases hq with rfl | rfl
              · refine Up.off (old := news) ?_ fun p hp => Nat.lt_trans (Nat.lt_trans (low p hp) i1) (Nat.lt_succ_self I)
                repeat (refine Up.cons (by k_extra "om") ?_)
                exact hup3
              · refine Up.off (I := I) (old := news) ?_ fun p hp => Nat.lt_trans (low p hp) i1
                repeat (refine Up.cons (by k_extra "om") ?_)
                exact hup3.trans (Nat.le_succ I) Up.refl
            case keeps => exact SubL.one (.tail _ (by have := hsub2 _ hsg'; ktr_rel))
            case invs =>
              refine ⟨i + 1, vs2 ++ [_], _, _, _, rfl, hi1, named3 rfl rfl rfl, rfl, fun p hp => by have := hsub2 _ (hsub p hp); ktr_rel, ?_, st_row2 hroi hcl9 hjj hda2⟩
              repeat (refine Up.cons (by k_extra "om") ?_)
              exact hup3
          · k_steps
            rename Fr g1 L1 _ _ => F10
            rename News g1 L1 _ _ => N10
            refine' Halt.go (turn_end (its := [(I + 1, oe), (I, ol)]) (fr := [(fl, _)]) F10 N10 ?ddt ?offt ?offrt ?keept ?invt)
            case ddt => exact .cons (by k_updF) (.cons (by k_updF) (.cons (by k_updF) .nil))
            case offt =>
              intro q hq p hp
              simp only [List.mem_cons, List.not_mem_nil, or_false] at hq hp
              subst hp
              rcases hq with rfl | rfl <;> k_ne
            case offrt =>
              intro q hq
              simp only [List.mem_cons, List.not_mem_nil, or_false] at hq
              rcases hq with rfl | rfl
              · refine Up.off (old := news) ?_ fun p hp => Nat.lt_trans (Nat.lt_trans (low p hp) i1) (Nat.lt_succ_self I)
                repeat (refine Up.cons (by k_extra "om") ?_)
                exact hup3
              · refine Up.off (I := I) (old := news) ?_ fun p hp => Nat.lt_trans (low p hp) i1
                repeat (refine Up.cons (by k_extra "om") ?_)
                exact hup3.trans (Nat.le_succ I) Up.refl
            case keept => exact SubL.one (.tail _ (by have := hsub2 _ hsg'; ktr_rel))
            case invt =>
              refine ⟨i + 1, vs2, _, _, _, rfl, hi1, named3 rfl rfl rfl, rfl, fun p hp => by have := hsub2 _ (hsub p hp); ktr_rel, ?_, st_row1 hcl9 hjj (by rw [hroi]; exact hda2)⟩
              repeat (refine Up.cons (by k_extra "om") ?_)
              exact hup3
  · clear N2 F2
    rintro m3 nx h tk ⟨i, vs, nf, rest, u, hleft, hi, rfl, rfl, hsub, hup, hda⟩ F3 N3
    replace N3 : News g1 L1 h _ := N3
    replace F3 : Fr g1 L1 h _ := F3
    obtain rfl : i = svs.length := Nat.le_antisymm hi (enumItems_nil hleft)
    k_steps
    have hI' := allLt_of hI
    simp only [AllLt] at hI'
    rw [hsl] at hda
    exact hret _ _ _ _ ⟨fl, nf, vs, rest, rfl, rfl, hsub, b1, hup.trans (Nat.le_of_lt (Nat.lt_succ_of_lt hI'.1)) Up.refl, hda⟩ (by k_asm) (by k_asm)
end

end
end Mine
namespace Mine
section
theorem base52 : True := by
  k_with_none
  k_with "execs cons" => (k_here; (with_reducible refine wpAny_execs_cons ?_); (try dsimp only); k_fold)
  k_with "ne" => (first | with_reducible assumption | with_reducible exact Ne.symm (by with_reducible assumption) | with_reducible exact Nat.ne_of_gt (by with_reducible assumption) | with_reducible exact Nat.ne_of_lt (by with_reducible assumption) | with_reducible exact neu (by with_reducible assumption) | with_reducible exact neu' (by with_reducible assumption) | with_reducible exact neu2 (by with_reducible assumption) | with_reducible exact neu2' (by with_reducible assumption) | with_reducible exact Nat.ne_of_lt sl1 | with_reducible exact Nat.ne_of_lt sl2 | with_reducible exact Nat.ne_of_lt sl3 | with_reducible exact Nat.ne_of_lt sl4 | with_reducible exact Nat.ne_of_lt sl5 | with_reducible exact Nat.ne_of_gt sl1 | with_reducible exact Nat.ne_of_gt sl2 | with_reducible exact Nat.ne_of_gt sl3 | with_reducible exact Nat.ne_of_gt sl4 | with_reducible exact Nat.ne_of_gt sl5 | omega)
  k_with "lt2" => omega
  k_with "lt0" => (first | with_reducible assumption | omega)
  k_with "lt1" => omega
  k_with "om" => (first | with_reducible assumption | with_reducible exact Nat.le_of_ble_eq_true (by decide) | with_reducible exact ci0 | with_reducible exact ci1 | with_reducible exact cz0 (by with_reducible assumption) | with_reducible exact cz1 (by with_reducible assumption) | with_reducible exact cz2 (by with_reducible assumption) | with_reducible exact cz3 (by with_reducible assumption) | with_reducible exact lb1 (by with_reducible assumption) (by decide) | with_reducible exact lb4 (by with_reducible assumption) (by decide) | with_reducible exact lb2 (by with_reducible assumption) (by with_reducible assumption) (by decide) | with_reducible exact lb5 (by with_reducible assumption) (by with_reducible assumption) (by decide) | with_reducible exact ci4 (by with_reducible assumption) (by decide) | with_reducible exact ci5 (by with_reducible assumption) (by decide) | with_reducible exact cz4 (by with_reducible assumption) (by with_reducible assumption) | with_reducible exact cz5 (by with_reducible assumption) (by with_reducible assumption) | with_reducible exact cz6 (by with_reducible assumption) (by with_reducible assumption) (by with_reducible assumption) (by decide) | with_reducible exact lp1 (by with_reducible assumption) (by decide) | with_reducible exact le1 (by with_reducible assumption) | with_reducible exact le2 (by with_reducible assumption) | with_reducible exact Nat.le_succ _ | with_reducible exact leu (by with_reducible assumption) | with_reducible exact leu2 (by with_reducible assumption) | with_reducible exact zb1 (by with_reducible assumption) (by decide) | with_reducible exact zb2 (by with_reducible assumption) | with_reducible exact zb3 (by with_reducible assumption) (by decide) | with_reducible exact un1 (by with_reducible assumption) | with_reducible exact sl1 | with_reducible exact sl2 | with_reducible exact sl3 | with_reducible exact sl4 | with_reducible exact sl5 | omega)
  k_with "lt" => (first | with_reducible assumption | omega)
  trivial
theorem dL_at {rest : Led} {vs : List Value} {ss : List Sign} (h : DatAll rest vs (ss.map dL)) {k : Nat} {v : Value} (hv : vs[k]? = some v) :
    ∃ x a b n m t1 t2 t3, ss[k]? = some x ∧ v = .ref a ∧ (a, tupC [.int x.1 t1, .ref b] n) ∈ rest ∧ (b, tupC [.int x.2.1 t2, .int x.2.2 t3] m) ∈ rest := by
  obtain ⟨x, hx, d⟩ := dat_at h hv
  obtain ⟨a, v1, v2, n, rfl, hm, h1, h2⟩ := inv_two d
  obtain ⟨t1, rfl⟩ := inv_int h1
  obtain ⟨b, m, t2, t3, rfl, hm2⟩ := inv_pt h2
  exact ⟨x, a, b, n, m, t1, t2, t3, hx, rfl, hm, hm2⟩
section
variable {w : World} {loose : List Str} {mean : ExcName → Option Value} {mg mb : Str → Option Value}
theorem rules52_1 : True := by
  k_with "k_enter" => ((refine' code_def ?q177k1 ?q177k2 ?q177k3 ?q177k4 ?q177k5 ?q177kA ?q177kF ?q177kK ?q177k6 ?q177k7 ?q177k8 ?q177k9 ?q177kB ?_ ?q177c2 ?q177c3 ?q177c4 ?q177c5; (case q177kA => exact rfl); (case q177kF => assumption); (case q177kK => assumption); (case q177k1 => k_asm); (case q177k2 => k_asm); (case q177k3 => k_asm); (case q177k4 => k_asm); (case q177k5 => k_asm); (case q177k6 => k_is); (case q177k7 => k_is); (case q177k8 => k_room); (case q177k9 => first | exact BindsTo.of_eq rfl | exact binds_K (by k_in) rfl (by k_is) rfl rfl rfl); (case q177c5 => decide); (case q177kB => exact locs rfl); (case q177c2 => exact rfl); (case q177c3 => exact rfl); (case q177c4 => exact rfl); k_whole; intro _ _ _ _ _ _ B' _ _; (try dsimp only); (try k_lift B'); (try k_fold)))
  k_with "eval Name" => ((k_dflt (first
  | (refine' nameX_L ?q178F ?q178v ?_ ?q178a ?q178b; (case q178F => k_asm); (case q178a => exact rfl); (case q178b => exact rfl); (case q178v => exact rfl); k_whole)
  | (refine' nameX_K ?q178F ?q178X ?q178T ?q178e ?_ ?q178a ?q178b; (case q178F => k_asm); (case q178X => k_asm); (case q178T => k_asm); (case q178a => exact rfl); (case q178b => exact rfl); (case q178e => k_is); k_whole))))
  k_with "k_mem" => (((repeat (refine' List.mem_cons_of_mem _ ?_)); with_reducible assumption))
  k_with "subscriptTail Name Constant ref int" => ((k_dflt (refine tup_at (by k_asm) (by k_mem) (by decide) (by decide) (by rfl) ?_)))
  k_with "subscriptTail Subscript Constant ref int" => ((k_dflt (refine tup_at (by k_asm) (by k_mem) (by decide) (by decide) (by rfl) ?_)))
  k_with "ite" => ((first | (refine ite_pos (by with_reducible assumption) ?_) | (refine ite_neg (by with_reducible assumption) ?_) | (refine ite_pos (by simp only [beq_iff_eq, bne_iff_ne, beq_eq_false_iff_ne, decide_eq_true_eq, decide_eq_false_iff_not, Bool.not_eq_true', Bool.not_eq_false']; omega) ?_) | (refine ite_neg (by simp only [beq_iff_eq, bne_iff_ne, beq_eq_false_iff_ne, decide_eq_true_eq, decide_eq_false_iff_not, Bool.not_eq_true', Bool.not_eq_false']; omega) ?_)))
  k_with "ktr_rel" => (((repeat (refine List.mem_cons_of_mem _ ?_)); with_reducible assumption))
  k_with "k_all" => (assumption)
  k_with "call ref" => ((k_here; k_dflt (first
  | (refine' Spec.use (f := 596) ?q185C ?q185d1 ?q185d2 ?q185d3 ?q185kA ?q185kF ?q185kK ?q185k1 ?q185k2 ?q185k3 ?q185k4 ?q185k5 ?_; (case q185kA => exact rfl); (case q185kF => first | exact rfl | assumption); (case q185kK => first | exact rfl | assumption); (case q185k1 => k_asm); (case q185k2 => k_asm); (case q185k3 => k_asm); (case q185k4 => k_asm); (case q185k5 => k_asm); (case q185C => exact lsmall_spec); (case q185d3 => exact rfl); (case q185d1 => exact Nat.le_of_ble_eq_true rfl); (case q185d2 => exact Nat.le_of_ble_eq_true rfl); intro v' n' _ _ po _ _; refine cutP fun R' hR' => ?_; obtain ⟨t9, e1, e2⟩ := po; subst e1; subst n'; refine hR' ?_; clear hR' R'; kaf_suf; (try k_sweep)))))
  k_with "k_updF" => (first | exact Del.head | (refine' Del.tail ?q186a ?q186b; (case q186a => k_ne); (case q186b => k_updF)))
  k_with "eval ListComp" => ((k_here; (with_reducible show wpAny _ _ (eval (PySem.Expr.ListComp _ [⟨PySem.Expr.Tuple _ _ _, _, [], 0⟩] _ _) _) _ _ _); k_dflt (refine LCp.ListComp_P (F₀ := by k_asm) (by with_unfolding_all rfl) (by decide) (by rfl) (by decide) (by rfl) (by rfl) (by decide) ?_)))
  k_with "eval ListComp" => ((k_here; (with_reducible show wpAny _ _ (eval (PySem.Expr.ListComp _ [⟨PySem.Expr.Name _ _, _, [_], 0⟩] _ _) _) _ _ _); k_dflt (refine LCt.ListComp_T (F₀ := by k_asm) (by with_unfolding_all rfl) (by decide) (by rfl) (by decide) (by rfl) ?_)))
  k_with "eval ListComp" => ((k_here; (with_reducible show wpAny _ _ (eval (PySem.Expr.ListComp _ [⟨PySem.Expr.Name _ _, _, [], 0⟩] _ _) _) _ _ _); k_dflt (refine LCg.ListComp_U (F₀ := by k_asm) (by with_unfolding_all rfl) (by decide) (by rfl) (by decide) (by rfl) ?_)))
  k_with "exec Assign cons ListComp" => ((refine wpAny_Assign_Name ?_))
  k_with "call builtin:len" => ((k_here; (with_reducible show wpAny _ _ (call (Value.builtin "len") [Value.ref _]) _ _ _); k_dflt (refine len_listK (by k_asm) (by k_mem) (by k_extra "om") ?_); intro _ _))
  k_with "subscriptTail" => ((k_here; (with_reducible show wpAny _ _ (subscriptTail _ _ (Value.ref _) (Value.int _ _)) _ _ _); k_dflt (first | (refine list_at (by k_asm) (by ktr_rel) (by k_extra "om") (by k_extra "om") (by assumption) ?_) | (refine tupC_at (by k_asm) (by ktr_rel) (by decide) (by decide) (by rfl) ?_))))
  k_with "subscriptTail Subscript Constant ref int" => ((k_here; k_dflt (refine tupC_at (by k_asm) (by ktr_rel) (by decide) (by decide) (by rfl) ?_)))
  k_with "compareOp Eq ref ref" => ((k_here; k_dflt (refine eq_ints (by k_asm) (by k_mem) (by k_mem) (by assumption) (by assumption) (by exact Nat.le_of_ble_eq_true rfl) ?_)))
  k_with "CompEnd" => ((refine halt ?_))
  k_with "CompSrc" => ((refine halt ?_))
  k_with "CompSrcT" => ((refine halt ?_))
  k_with "SrcLP" => ((refine halt ?_))
  k_with "FinA" => ((refine halt ?_))
  k_with "FinE" => ((refine halt ?_))
  trivial
theorem places_spec {news : Led} {sl cw : Addr} {ss : List Sign} {svs cvs : List Value} {codes : List Int} {sn cn : Nat} {f : Bool} (hs : (sl, listOf svs.toArray sn) ∈ news) (hda : DatAll news svs (ss.map dL)) (hsl : ss.length ≤ 20) (hc : (cw, listOf cvs.toArray cn) ∈ news) (hi : IntsAre cvs codes) (hcl : codes.length ≤ 3) :
    Spec w loose mean mg mb 560 560 601 [.ref sl, .ref cw, .bool f] news (fun v n' => ∃ l n vs nn, v = .ref l ∧ n' = (l, listOf vs.toArray n) :: nn ∧ (∀ p ∈ news, p ∈ nn) ∧ DatAll nn vs ((hits ss (foldBy f) (codes.map (foldBy f)) ss.length).map dP)) := by
  intro gd env outer A₀ base h₀ L m s Q E hf hk B F X N T hret
  refine wpAny_call ?_
  k_dflt (refine' code_defC ?k1 ?k2 ?k3 ?k4 ?k5 ?kA ?kF ?kK ?k6 ?k7 ?k8 ?k9 ?kB ?kD ?_ ?c2 ?c3 ?c4; (case kA => exact rfl); (case kF => assumption); (case kK => assumption); (case k1 => k_asm); (case k2 => k_asm); (case k3 => k_asm); (case k4 => k_asm); (case k5 => k_asm); (case k6 => k_is); (case k7 => k_is); (case k8 => k_room); (case k9 => first | exact BindsTo.of_eq rfl | exact binds_K (by k_in) rfl (by k_is) rfl rfl rfl); (case kB => exact rfl); (case kD => decide +kernel); (case c2 => exact rfl); (case c3 => exact rfl); (case c4 => exact rfl); k_whole); intro g1 L1 h1 tk1 cells1 FG1 F1 N1 Y1 B1 X1 T1 l1; (try k_lt l1); k_cells Y1; (try simp only [List.cons_append, List.nil_append] at N1); (try dsimp only); (try k_lift B1); (try k_fold)
  rename_i oT oW oF oS dT dW dF dS9
  have n3 : ∀ p ∈ news, p.1 ≠ L1 + 1 + 1 + 1 := fun p hp => Nat.ne_of_lt (Nat.lt_trans (l1 p hp) (by k_extra "om"))
  have n4 : ∀ p ∈ news, p.1 ≠ L1 + 1 + 1 + 1 + 1 := fun p hp => Nat.ne_of_lt (Nat.lt_trans (l1 p hp) (by k_extra "om"))
  replace dF : oF.data = .cell (some (.bool f)) := dF
  replace dS9 : oS.data = .cell (some (.ref sl)) := dS9
  replace dT : oT.data = .cell none := dT
  replace dW : oW.data = .cell none := dW
  have hcvl := hi.length
  have hda' := hda.length
  rw [List.length_map] at hda'
  have hsz2 : cvs.toArray.size ≤ sizeLine := by rw [sizeLine_eq]; simp; k_extra "om"
  have hsz1 : svs.toArray.size ≤ sizeLine := by rw [sizeLine_eq]; simp; k_extra "om"
  k_steps
  rename Fr g1 L1 _ _ => F2
  rename News g1 L1 _ _ => N2
  refine Halt.go (LCg.CompSrc.ledger rfl F2 N2 (.tail _ (.tail _ (.tail _ (.tail _ hc)))) hsz2 (fun g => comp_ind (fun i ys nx => nx = (L1 + 1 + 1 + 1 + 1, oT) :: (L1 + 1 + 1 + 1, oW) :: (L1 + 1 + 1, oF) :: (L1 + 1, oS) :: news ∧ IntsAre ys ((codes.take i).map (foldBy f))) ?_ ?_ _ 0 [] _ (Nat.zero_add _) ⟨rfl, .nil⟩))
  · clear F2 N2
    rintro i ys nx v I oI C oC D m₂ h tk E' hi' ⟨rfl, hys⟩ hP hns hx F3 N3 off ne
    have hP' : cvs[i]? = some v := by simpa using hP
    have hil : i < codes.length := by rw [← hcvl]; exact (List.getElem?_eq_some_iff.mp hP').1
    obtain ⟨t9, e9⟩ := hi.get i (codes[i]'hil) (List.getElem?_eq_getElem hil)
    rw [hP'] at e9
    obtain rfl : v = _ := Option.some.inj e9
    have hxa : codes[i]? = some (codes[i]'hil) := List.getElem?_eq_getElem hil
    have off' := off
    simp only [LCg.Off3] at off'
    k_steps
    refine' Halt.go (compEnd_of ?cc1 ?cc2 ?cc3 ?cc4 ?cc5 off ?cc7 ⟨rfl, ?cc8⟩)
    case cc1 => k_asm
    case cc2 => k_asm
    case cc3 => k_updF
    case cc4 => k_updF
    case cc5 => k_updF
    case cc7 => exact .inr ⟨_, .tail _ (.tail _ (.tail _ (.tail _ hc))), rfl, _, rfl⟩
    case cc8 => rw [take_snoc hxa, List.map_append]; exact ints_snoc hys
  · clear F2 N2
    rintro wvs nx ⟨rfl, hwv⟩
    rw [List.take_of_length_le (by simp; k_extra "om")] at hwv
    refine Halt.go ?_
    intro D1 h3 tk3 F3 N3 o3
    simp only [LCg.Off1] at o3
    dsimp only
    walk1
    walk1
    refine wpAny_Assign_Name ?_
    k_steps
    obtain ⟨obW, hobW, dW2⟩ : ∃ ob : Obj, ob = _ ∧ ob.data = .cell (some (.ref D1)) := ⟨_, rfl, by assumption⟩
    subst hobW
    rename Fr g1 L1 _ _ => F4
    rename News g1 L1 _ _ => N4
    refine Halt.go (LCp.SrcLP.ledger rfl F4 N4 (.tail _ (.tail _ (.tail _ (.tail _ (.tail _ hs))))) hsz1 (fun g => compP_ind (fun i ys nx => nx = (D1, LCg.lst wvs) :: (L1 + 1 + 1 + 1 + 1, oT) :: (L1 + 1 + 1 + 1, obW) :: (L1 + 1 + 1, oF) :: (L1 + 1, oS) :: news ∧ IntsAre ys ((ss.take i).map fun x => foldBy f x.1)) ?_ ?_ _ 0 [] _ (Nat.zero_add _) ⟨rfl, .nil⟩))
    · clear F4 N4
      rintro i ys nx v hi' ⟨rfl, hys⟩ hP
      obtain ⟨x, a, b, na, nb, t3, t4, t5, hxa, rfl, hma, hmb⟩ := dL_at hda (k := i) (v := v) (by simpa using hP)
      refine ⟨a, tupC [.int x.1 t3, .ref b] na, .int x.1 t3, .ref b, na, rfl, .tail _ (.tail _ (.tail _ (.tail _ (.tail _ hma)))), rfl, rfl, ?_⟩
      intro I oI C oC D m₂ h tk E' hns hx hx₂ F5 N5 off ne
      have off' := off
      simp only [LCg.Off3] at off'
      dsimp only
      k_steps
      refine' Halt.go (compEnd_of ?ce1 ?ce2 ?ce3 ?ce4 ?ce5 off ?ce7 ⟨rfl, ?ce8⟩)
      case ce1 => k_asm
      case ce2 => k_asm
      case ce3 => k_updF
      case ce4 => k_updF
      case ce5 => k_updF
      case ce7 => exact .inr ⟨_, .tail _ (.tail _ (.tail _ (.tail _ (.tail _ hs)))), rfl, _, rfl⟩
      case ce8 => rw [take_snoc hxa, List.map_append]; exact ints_snoc hys
    · clear F4 N4
      rintro tvs nx ⟨rfl, htv⟩
      rw [List.take_of_length_le (by simp; k_extra "om")] at htv
      have htl := htv.length
      refine Halt.go ?_
      intro D2 h5 tk5 F5 N5 o5
      simp only [LCg.Off1] at o5
      dsimp only
      k_steps
      obtain ⟨obT, hobT, dT2⟩ : ∃ ob : Obj, ob = _ ∧ ob.data = .cell (some (.ref D2)) := ⟨_, rfl, by assumption⟩
      subst hobT
      rename IsRange _ _ _ _ _ _ _ _ => hR
      rename Fr g1 L1 _ _ => F6
      rename News g1 L1 _ _ => N6
      have hsz6 : svs.length ≤ sizeLine := by simpa using hsz1
      have hwl := hwv.length
      rw [List.length_map] at hwl htl
      refine Halt.go (LCt.CompSrcT.range rfl F6 N6 hR (rng_small (by k_extra "om")) (rng_size _) hsz6 (fun g => compT_ind (fun i ys nx => nx = (D2, LCg.lst tvs) :: (D1, LCg.lst wvs) :: (L1 + 1 + 1 + 1 + 1, obT) :: (L1 + 1 + 1 + 1, obW) :: (L1 + 1 + 1, oF) :: (L1 + 1, oS) :: news ∧ DatAll news ys ((hits ss (foldBy f) (codes.map (foldBy f)) i).map dP)) ?_ ?_ _ 0 [] _ (Nat.zero_add _) ⟨rfl, .nil⟩))
      · clear F6 N6 hR
        rintro i ys nx v I oI C oC D m₂ h tk E' hi' ⟨rfl, hys⟩ hP hns hx F7 N7 off ne
        obtain ⟨t7, rfl⟩ := hP
        obtain ⟨ci, hci⟩ : ∃ ci : Int, 0 + (i : Int) = ci := ⟨_, rfl⟩
        rw [hci] at hx
        have off' := off
        simp only [LCg.Off3] at off'
        obtain ⟨v1, hv1⟩ : ∃ v1, svs[ci.toNat]? = some v1 := ⟨_, List.getElem?_eq_getElem (by k_extra "om")⟩
        obtain ⟨x, a, b, na, nb, t3, t4, t5, hxa, rfl, hma, hmb⟩ := dL_at hda hv1
        have eci : ci.toNat = i := by k_extra "om"
        have hwl2 : wvs.length = (codes.map (foldBy f)).length := by rw [List.length_map]; exact hwl
        dsimp only
        k_steps
        · rename (List.take _ _ = _) => hh
          rw [mid_eq hci (by simp; k_extra "om"), hwl2] at hh
          rename Fr g1 L1 _ _ => F8
          rename News g1 L1 _ _ => N8
          replace N8 : News g1 L1 _ ((I, oI) :: (C, oC) :: (D, LCg.lst ys) :: (D2, LCg.lst tvs) :: (D1, LCg.lst wvs) :: (L1 + 1 + 1 + 1 + 1, obT) :: (L1 + 1 + 1 + 1, obW) :: (L1 + 1 + 1, oF) :: (L1 + 1, oS) :: news) := fun p hp => N8 p (.tail _ hp)
          refine Halt.go (compEnd_of F8 N8 .head .head .head off trivial ⟨rfl, ?_⟩)
          have e1 : hitAt ss (foldBy f) (codes.map (foldBy f)) i = true := decide_eq_true hh
          have e2 : place ss i = x.2 := by unfold place; rw [List.getD_eq_getElem?_getD, ← eci, hxa]; rfl
          rw [hits, if_pos e1, e2, List.map_append]
          exact hys.append (.one (dP_in hmb))
        · rename (¬ List.take _ _ = _) => hh
          rw [mid_eq hci (by simp; k_extra "om"), hwl2] at hh
          rename Fr g1 L1 _ _ => F8
          rename News g1 L1 _ _ => N8
          replace N8 : News g1 L1 _ ((I, oI) :: (C, oC) :: (D, LCg.lst ys) :: (D2, LCg.lst tvs) :: (D1, LCg.lst wvs) :: (L1 + 1 + 1 + 1 + 1, obT) :: (L1 + 1 + 1 + 1, obW) :: (L1 + 1 + 1, oF) :: (L1 + 1, oS) :: news) := fun p hp => N8 p (.tail _ hp)
          refine Halt.go (compEnd_of F8 N8 .head .head .head off trivial ⟨rfl, ?_⟩)
          have e1 : hitAt ss (foldBy f) (codes.map (foldBy f)) i = false := decide_eq_false hh
          rw [hits, e1, if_neg (by decide), List.append_nil]
          exact hys
      · clear F6 N6
        rintro ys nx ⟨rfl, hys⟩
        refine Halt.go ?_
        intro D3 h7 tk7 F7 N7 o7
        simp only [LCg.Off1] at o7
        dsimp only
        k_steps
        rw [hda'] at hys
        exact hret _ _ _ _ ⟨D3, _, ys, news, rfl, rfl, fun _ h => h, hys⟩ (by k_asm) (cb_drop (by k_asm) fun p hp => (List.mem_cons.mp hp).elim (fun e => List.mem_cons.mpr (.inl e)) fun hp => by ktr_rel)
end

end
end Mine
namespace Mine
section
theorem base54 : True := by
  k_with_none
  k_with "execs cons" => (k_here; (with_reducible refine wpAny_execs_cons ?_); (try dsimp only); k_fold)
  k_with "ne" => (first | with_reducible assumption | with_reducible exact Ne.symm (by with_reducible assumption) | with_reducible exact Nat.ne_of_gt (by with_reducible assumption) | with_reducible exact Nat.ne_of_lt (by with_reducible assumption) | with_reducible exact neu (by with_reducible assumption) | with_reducible exact neu' (by with_reducible assumption) | with_reducible exact neu2 (by with_reducible assumption) | with_reducible exact neu2' (by with_reducible assumption) | with_reducible exact Nat.ne_of_lt sl1 | with_reducible exact Nat.ne_of_lt sl2 | with_reducible exact Nat.ne_of_lt sl3 | with_reducible exact Nat.ne_of_lt sl4 | with_reducible exact Nat.ne_of_lt sl5 | with_reducible exact Nat.ne_of_gt sl1 | with_reducible exact Nat.ne_of_gt sl2 | with_reducible exact Nat.ne_of_gt sl3 | with_reducible exact Nat.ne_of_gt sl4 | with_reducible exact Nat.ne_of_gt sl5 | omega)
  k_with "lt2" => omega
  k_with "lt0" => (first | with_reducible assumption | omega)
  k_with "lt1" => omega
  k_with "om" => (first | with_reducible assumption | with_reducible exact Nat.le_of_ble_eq_true (by decide) | with_reducible exact ci0 | with_reducible exact ci1 | with_reducible exact cz0 (by with_reducible assumption) | with_reducible exact cz1 (by with_reducible assumption) | with_reducible exact cz2 (by with_reducible assumption) | with_reducible exact cz3 (by with_reducible assumption) | with_reducible exact lb1 (by with_reducible assumption) (by decide) | with_reducible exact lb4 (by with_reducible assumption) (by decide) | with_reducible exact lb2 (by with_reducible assumption) (by with_reducible assumption) (by decide) | with_reducible exact lb5 (by with_reducible assumption) (by with_reducible assumption) (by decide) | with_reducible exact ci4 (by with_reducible assumption) (by decide) | with_reducible exact ci5 (by with_reducible assumption) (by decide) | with_reducible exact cz4 (by with_reducible assumption) (by with_reducible assumption) | with_reducible exact cz5 (by with_reducible assumption) (by with_reducible assumption) | with_reducible exact cz6 (by with_reducible assumption) (by with_reducible assumption) (by with_reducible assumption) (by decide) | with_reducible exact lp1 (by with_reducible assumption) (by decide) | with_reducible exact le1 (by with_reducible assumption) | with_reducible exact le2 (by with_reducible assumption) | with_reducible exact Nat.le_succ _ | with_reducible exact leu (by with_reducible assumption) | with_reducible exact leu2 (by with_reducible assumption) | with_reducible exact zb1 (by with_reducible assumption) (by decide) | with_reducible exact zb2 (by with_reducible assumption) | with_reducible exact zb3 (by with_reducible assumption) (by decide) | with_reducible exact un1 (by with_reducible assumption) | with_reducible exact sl1 | with_reducible exact sl2 | with_reducible exact sl3 | with_reducible exact sl4 | with_reducible exact sl5 | omega)
  k_with "lt" => (first | with_reducible assumption | omega)
  trivial
theorem off1_mem {D : Addr} : ∀ {l : Led}, LCg.Off1 D l → ∀ p ∈ l, p.1 ≠ D
  | [], _, _, h => nomatch h
  | _ :: _, x, p, h => by
    rcases List.mem_cons.mp h with rfl | h
    · exact x.1
    · exact off1_mem x.2 p h
inductive DkInv (D1 : Nat) (news : Led) (lv : List Value) (left : List Itm) (m : Str → Option Value) (nx : Led) : Prop
  | mk (M : Int) (t : Tok) (u : Str → Option Value) (pre rest : List Value)
    (f0 : lv = pre ++ rest)
    (f1 : left = rest.map .val)
    (f2 : 0 ≤ M)
    (f3 : M < 1000003)
    (f4 : m = (fun y => if y = Str.ofString "mixed" then some (.int M t) else if y = Str.ofString "left" then some (.ref D1) else u y))
    (f5 : nx = (D1, listOf lv.toArray lv.length) :: news) : DkInv D1 news lv left m nx
section
variable {w : World} {loose : List Str} {mean : ExcName → Option Value} {mg mb : Str → Option Value}
theorem rules54_1 : True := by
  k_with "k_enter" => ((refine' code_def ?q201k1 ?q201k2 ?q201k3 ?q201k4 ?q201k5 ?q201kA ?q201kF ?q201kK ?q201k6 ?q201k7 ?q201k8 ?q201k9 ?q201kB ?_ ?q201c2 ?q201c3 ?q201c4 ?q201c5; (case q201kA => exact rfl); (case q201kF => assumption); (case q201kK => assumption); (case q201k1 => k_asm); (case q201k2 => k_asm); (case q201k3 => k_asm); (case q201k4 => k_asm); (case q201k5 => k_asm); (case q201k6 => k_is); (case q201k7 => k_is); (case q201k8 => k_room); (case q201k9 => first | exact BindsTo.of_eq rfl | exact binds_K (by k_in) rfl (by k_is) rfl rfl rfl); (case q201c5 => decide); (case q201kB => exact locs rfl); (case q201c2 => exact rfl); (case q201c3 => exact rfl); (case q201c4 => exact rfl); k_whole; intro _ _ _ _ _ _ B' _ _; (try dsimp only); (try k_lift B'); (try k_fold)))
  k_with "k_updF" => (first | exact Del.head | (refine' Del.tail ?q202a ?q202b; (case q202a => k_ne); (case q202b => k_updF)))
  k_with "eval ListComp" => ((k_here; (with_reducible show wpAny _ _ (eval (PySem.Expr.ListComp _ [⟨PySem.Expr.Name _ _, _, [], 0⟩] _ _) _) _ _ _); k_dflt (refine LCg.ListComp_U (F₀ := by k_asm) (by with_unfolding_all rfl) (by decide) (by rfl) (by decide) (by rfl) ?_)))
  k_with "CompEnd" => ((refine halt ?_))
  k_with "CompSrc" => ((refine halt ?_))
  k_with "exec For Name Name cons nil" => ((k_here; kxt_pos))
  k_with "pyIter ref" => ((refine halt ?_))
  k_with "UnrEndW" => ((refine halt ?_))
  trivial
theorem deck_spec {news : Led} {sa : Addr} {vs : List Value} {ns : List Int} (hi : IntsAre vs ns) (hn : ns.length ≤ 63) :
    ∀ (gd : Option (List Code)) (env : Env) (outer : List Env) (A₀ : Around) (base h₀ : Heap) (L : Addr) (m : Str → Option Value) (s : Shared) (Q E : Value → Shared → Prop),
    h₀.IsList sa vs.toArray → env.frame = some L → env.scope.kind = .function → Below A₀ base outer h₀ → Fr h₀ L s.heap m → (hd.heap_1 w.params).In h₀ → News h₀ L s.heap news → Top hd.view_1 loose mean mg mb h₀ →
    (∀ v news' h' tk', (∃ lf dk ol od, v = .ref dk ∧ news' = (lf, ol) :: (dk, od) :: news ∧ Deck w lf ol od ∧ (∀ p ∈ news, p.1 ≠ lf) ∧ AllLt dk news ∧ @LT.lt Nat _ lf dk) → Fr h₀ L h' m → News h₀ L h' news' → Q v { s with heap := h', toks := tk' }) →
    wpAny (model theProg w) (topA 560 560 gd env outer) (call (.ref 568) [.ref sa]) Q E s := by
  intro gd env outer A₀ base h₀ L m s Q E hsl hf hk B F X N T hret
  refine wpAny_call ?_
  k_dflt (refine' code_def ?k1 ?k2 ?k3 ?k4 ?k5 ?kA ?kF ?kK ?k6 ?k7 ?k8 ?k9 ?kB ?_ ?c2 ?c3 ?c4 ?c5; (case kA => exact rfl); (case kF => assumption); (case kK => assumption); (case k1 => k_asm); (case k2 => k_asm); (case k3 => k_asm); (case k4 => k_asm); (case k5 => k_asm); (case k6 => k_is); (case k7 => k_is); (case k8 => k_room); (case k9 => first | exact BindsTo.of_eq rfl | exact binds_K (by k_in) rfl (by k_is) rfl rfl rfl); (case c5 => decide); (case kB => exact locs rfl); (case c2 => exact rfl); (case c3 => exact rfl); (case c4 => exact rfl); k_whole); intro g1 L1 h1 FG1 F1 N1 B1 X1 T1; (try dsimp only); (try k_lift B1); (try k_fold)
  have hsl1 : g1.IsList sa vs.toArray := hsl.at fun o e => FG1.keep sa o e
  k_steps
  rename_i D0 ws9 _ F9 N9 lN hI9 hC9 hL9
  rename Fr g1 L1 _ _ => F2
  rename News g1 L1 _ _ => N2
  have hwl := hI9.length
  have hsz : ws9.toArray.size ≤ sizeLine := by rw [sizeLine_eq]; simp; k_extra "om"
  refine Halt.go (LCg.CompSrc.ledger rfl F2 N2 (.head _) hsz (fun g => comp_ind (fun i ys nx => nx = (D0, listOf ws9.toArray 0) :: news ∧ ys.length = i ∧ ∃ ms, IntsAre ys ms ∧ ∀ c ∈ ms, 0 ≤ c ∧ c < 1000003) ?_ ?_ _ 0 [] _ (Nat.zero_add _) ⟨rfl, rfl, [], .nil, fun _ h => nomatch h⟩))
  · clear F2 N2
    rintro i ys nx v I oI C oC D m₂ h tk E' hi' ⟨rfl, hyl, ms, hys, hms⟩ hP hns hx F3 N3 off ne
    have hP' : ws9[i]? = some v := by simpa using hP
    have hil : i < (List.take 24 ns).length := by rw [← hwl]; exact (List.getElem?_eq_some_iff.mp hP').1
    obtain ⟨t9, e9⟩ := hI9.get i ((List.take 24 ns)[i]'hil) (List.getElem?_eq_getElem hil)
    rw [hP'] at e9
    obtain rfl : v = _ := Option.some.inj e9
    have off' := off
    simp only [LCg.Off3] at off'
    obtain ⟨cc, hcc⟩ : ∃ cc, (List.take 24 ns)[i]'hil = cc := ⟨_, rfl⟩
    rw [hcc] at hx
    k_steps
    refine' Halt.go (compEnd_of ?ca1 ?ca2 ?ca3 ?ca4 ?ca5 off ?ca7 ⟨rfl, by simp [hyl], ms ++ [Int.fmod cc 1000003], ints_snoc hys, ?ca8⟩)
    case ca1 => k_asm
    case ca2 => k_asm
    case ca3 => k_updF
    case ca4 => k_updF
    case ca5 => k_updF
    case ca7 => exact .inr ⟨_, .head _, rfl, _, rfl⟩
    case ca8 =>
      intro c hc
      rcases List.mem_append.mp hc with hc | hc
      · exact hms c hc
      · obtain rfl : c = _ := by simpa using hc
        exact ⟨fmod_lo _ (by decide), fmod_hi _ (by decide)⟩
  · clear F2 N2
    rintro lv nx ⟨rfl, hyl, ms, hlv, hms⟩
    intro D1 h3 tk3 F3 N3 o3
    simp only [LCg.Off1] at o3
    dsimp only
    k_steps
    have nD1 := off1_mem o3.2
    rename Fr g1 L1 _ _ => F4
    rename News g1 L1 _ _ => N4
    replace N4 : News g1 L1 _ ((D1, listOf lv.toArray lv.length) :: news) := fun p hp => N4 p (by
      rcases List.mem_cons.mp hp with rfl | hp
      · exact .tail _ (.head _)
      · exact .tail _ (.tail _ (.tail _ hp)))
    have hlvl : lv.length ≤ 24 := by rw [hyl]; simp; k_extra "om"
    refine Halt.go (iter_listTurns (lo := listOf lv.toArray lv.length) (vs := lv) rfl F4 N4 (.head _) rfl rfl (fun I hI => items_ind (DkInv D1 news lv) ?_ ?_ _ _ _ ⟨2113, _, _, [], lv, rfl, rfl, by decide, by decide, named2 rfl rfl, rfl⟩))
    · clear F4 N4
      rintro a r m3 nx v h tk its ⟨M, tM, u, pre, rest, hpre, hleft, hM0, hM1, rfl, rfl⟩ hv hits F5 N5
      cases rest with
      | nil => cases hleft
      | cons v0 rest =>
      obtain ⟨rfl, rfl⟩ := List.cons.inj hleft
      obtain rfl : v = v0 := hv
      obtain ⟨oI, rfl, hcI⟩ := objs1 hits
      simp only [List.cons_append, List.nil_append] at N5
      replace N5 : News g1 L1 h _ := N5
      replace F5 : Fr g1 L1 h _ := F5
      have hvi : lv[pre.length]? = some v := by rw [hpre]; simp
      obtain ⟨c, tc, hc0, hc1, rfl⟩ : ∃ c t, 0 ≤ c ∧ c < 1000003 ∧ v = .int c t := by
        have hil : pre.length < ms.length := by rw [← hlv.length]; exact (List.getElem?_eq_some_iff.mp hvi).1
        obtain ⟨t9, e9⟩ := hlv.get pre.length (ms[pre.length]'hil) (List.getElem?_eq_getElem hil)
        rw [hvi] at e9
        have hb := hms _ (List.getElem_mem hil)
        exact ⟨_, t9, hb.1, hb.2, Option.some.inj e9⟩
      replace hI := allLt_of hI
      simp only [AllLt] at hI
      obtain ⟨i1, i2⟩ := hI
      replace i1 := ltN i1
      k_steps
      rename Fr g1 L1 _ _ => F6
      rename News g1 L1 _ _ => N6
      refine Halt.go (turn_end (its := [(I, oI)]) (fr := [(D1, listOf lv.toArray lv.length)]) F6 N6 (.cons .head (.cons .head .nil)) ?_ ?_ (SubL.one (.head _)) ⟨_, _, _, pre ++ [.int c tc], rest, by rw [hpre]; simp, rfl, fmod_lo _ (by decide), fmod_hi _ (by decide), named2 rfl rfl, rfl⟩)
      · intro q hq p hp
        simp only [List.mem_cons, List.not_mem_nil, or_false] at hq hp
        subst hq hp
        k_ne
      · intro q hq p hp
        simp only [List.mem_cons, List.not_mem_nil, or_false] at hq
        subst hq
        exact Nat.ne_of_lt (allLt_mem i2 p hp)
    · clear F4 N4
      rintro m3 nx h tk ⟨M, tM, u, pre, rest, hpre, hleft, hM0, hM1, rfl, rfl⟩ F5 N5
      replace N5 : News g1 L1 h _ := N5
      replace F5 : Fr g1 L1 h _ := F5
      k_steps
      rename (_ ∧ AllLt _ news) => l9
      refine hret _ _ _ _ ⟨D1, _, listOf lv.toArray lv.length, _, rfl, rfl, ⟨lv, ms, _, M, _, rfl, hlv, hlvl, by assumption, hM0, hM1⟩, nD1, l9.2, l9.1⟩ (by k_asm) (cb_drop (by k_asm) fun p hp => ?_)
      rcases List.mem_cons.mp hp with rfl | hp
      · exact .tail _ (.head _)
      · rcases List.mem_cons.mp hp with rfl | hp
        · exact .head _
        · exact .tail _ (.tail _ hp)
end
section
variable {w : World} {loose : List Str} {mean : ExcName → Option Value} {mg mb : Str → Option Value}
theorem deck_use {news : Led} {sa : Addr} {vs : List Value} {ns : List Int} {A A₀ : Around} {env : Env} {outer : List Env} {base h₀ : Heap} {L : Addr} {m : Str → Option Value} {s : Shared} {Q E : Value → Shared → Prop} (hi : IntsAre vs ns) (hn : ns.length ≤ 63)
    (hdp : A.depth ≤ 560) (hu : A.units ≤ 560) (hh : A.handled = none) (hA : A.frames = some (env :: outer)) (hsl : h₀.IsList sa vs.toArray) (hf : env.frame = some L) (hk : env.scope.kind = .function)
    (B : Below A₀ base outer h₀) (F : Fr h₀ L s.heap m) (X : (hd.heap_1 w.params).In h₀) (N : News h₀ L s.heap news) (T : Top hd.view_1 loose mean mg mb h₀)
    (ret : ∀ (lf dk : Nat) (ol od : Obj) h' tk', Deck w lf ol od → (∀ p ∈ news, @Ne Nat p.1 lf) → AllLt dk news → @LT.lt Nat _ lf dk → Fr h₀ L h' m → News h₀ L h' ((lf, ol) :: (dk, od) :: news) → Q (.ref dk) { s with heap := h', toks := tk' }) :
    wpAny (model theProg w) A (call (.ref 568) [.ref sa]) Q E s := by
  refine at_top hdp hu hh hA (deck_spec hi hn _ _ _ _ _ _ _ _ _ _ _ hsl hf hk B F X N T ?_)
  rintro v news' h' tk' ⟨lf, dk, ol, od, rfl, rfl, D, a, b, c⟩ F' N'
  exact ret lf dk ol od h' tk' D a b c F' N'
end

end
end Mine
namespace Mine
section
theorem base56 : True := by
  k_with_none
  k_with "execs cons" => (k_here; (with_reducible refine wpAny_execs_cons ?_); (try dsimp only); k_fold)
  k_with "ne" => (first | with_reducible assumption | exact Ne.symm (by with_reducible assumption) | omega)
  k_with "lt2" => omega
  k_with "lt0" => (first | with_reducible assumption | omega)
  k_with "lt1" => omega
  k_with "om" => (first | with_reducible assumption | with_reducible exact Nat.le_of_ble_eq_true (by decide) | omega)
  k_with "lt" => (first | with_reducible assumption | omega)
  trivial
theorem mul4 {w : World} {A : Around} {E : Value → Shared → Prop} {s : Shared} {h₀ : Heap} {L l : Addr} {m : Str → Option Value} {news : Led} {v : Value} {n : Nat} {x : Int} {u : Tok} {Q : Value → Shared → Prop} (F : Fr h₀ L s.heap m) (N : News h₀ L s.heap news) (hm : (l, listOf [v].toArray n) ∈ news) (hx : x = 4)
    (h : ∀ D h', Fr h₀ L h' m → News h₀ L h' ((D, listOf [v, v, v, v].toArray 0) :: news) → (∀ p ∈ news, p.1 < D) → Q (.ref D) { s with heap := h' }) : wpAny (model theProg w) A (binaryOp .Mult (.ref l) (.int x u)) Q E s := by
  subst hx
  refine mul_list (items := [v].toArray) (k := n) F N (N _ hm).1 (by decide) (by decide) (Nat.le_of_ble_eq_true rfl) fun h' F' N' => h _ h' F' ?_ fun p hp => Heap.lt_size (N p hp).1
  exact N'
/-- a new line: what it adds -/
inductive LineNew (P : Params) (news : Led) (ln : Nat) (n' : Led) : Prop
  | mk (dl cl c e : Nat) (n1 n2 : Nat) (sz vp vq : Value) (t1 t2 t3 tw : Tok)
    (f0 : n' = (cl, listOf [Value.ref c, .ref c, .ref c, .ref c].toArray n2) :: (dl, dictOf (lineDict P t1 t2 t3 cl false sz) n1) :: (ln, instObj 338 dl) :: (c, tupOf [.ref e, .int 1 tw, vp, vq]) :: (e, tupOf []) :: news)
    (f1 : AllLt dl news)
    (f2 : @LT.lt Nat _ dl ln)
    (f3 : @LT.lt Nat _ ln e)
    (f4 : @LT.lt Nat _ e c)
    (f5 : @LT.lt Nat _ c cl) : LineNew P news ln n'
theorem line_ret {P : Params} {h₀ h : Heap} {L ln dl cl c e : Nat} {news all : Led} {n1 n2 : Nat} {sz vp vq : Value} {t1 t2 t3 tw : Tok} {Z : Prop} (N : News h₀ L h all) (m1 : (ln, instObj 338 dl) ∈ all) (m2 : (dl, dictOf (lineDict P t1 t2 t3 cl false sz) n1) ∈ all)
    (m3 : (cl, listOf [Value.ref c, .ref c, .ref c, .ref c].toArray n2) ∈ all) (m4 : (c, tupOf [.ref e, .int 1 tw, vp, vq]) ∈ all) (m5 : (e, tupOf []) ∈ all) (hs : ∀ p ∈ news, p ∈ all)
    (a1 : AllLt dl news) (a2 : @LT.lt Nat _ dl ln) (a3 : @LT.lt Nat _ ln e) (a4 : @LT.lt Nat _ e c) (a5 : @LT.lt Nat _ c cl)
    (ret : ∀ n', LineNew P news ln n' → News h₀ L h n' → Z) : Z := by
  refine ret _ ⟨dl, cl, c, e, n1, n2, sz, vp, vq, t1, t2, t3, tw, rfl, a1, a2, a3, a4, a5⟩ fun p hp => N p ?_
  simp only [List.mem_cons] at hp
  rcases hp with rfl | rfl | rfl | rfl | rfl | hp
  · exact m3
  · exact m2
  · exact m1
  · exact m4
  · exact m5
  · exact hs p hp
/-- a new grid of two lines: what it adds -/
inductive GridNew (P : Params) (news : Led) (gr : Nat) (n' : Led) : Prop
  | mk (dg gl dl0 cl0 ln0 dl1 cl1 ln1 : Nat) (b0 b1 : Value) (k0 m0 k1 m1 gn : Nat) (z0 z1 v1 v2 : Value) (a1 a2 a3 c1 c2 c3 t1 t2 t3 : Tok) (own : Led)
    (f0 : n' = (cl0, listOf [b0, b0, b0, b0].toArray m0) :: (dl0, dictOf (lineDict P a1 a2 a3 cl0 false z0) k0) :: (cl1, listOf [b1, b1, b1, b1].toArray m1) :: (dl1, dictOf (lineDict P c1 c2 c3 cl1 false z1) k1) :: (own ++ news))
    (f1 : (gr, instObj 489 dg) ∈ own)
    (f2 : (dg, dictOf (gridDict P t1 t2 t3 v1 v2 gl) 3) ∈ own)
    (f3 : (gl, listOf [Value.ref ln0, .ref ln1].toArray gn) ∈ own)
    (f4 : (ln0, instObj 338 dl0) ∈ own)
    (f5 : (ln1, instObj 338 dl1) ∈ own)
    (f6 : CellIn own b0 (some 0))
    (f7 : CellIn own b1 (some 0))
    (f8 : AllLt dl0 news)
    (f9 : @LT.lt Nat _ dl0 cl0)
    (f10 : @LT.lt Nat _ cl0 dl1)
    (f11 : @LT.lt Nat _ dl1 cl1)
    (f12 : (∀ p ∈ own, @Ne Nat p.1 cl0 ∧ @Ne Nat p.1 dl0 ∧ @Ne Nat p.1 cl1 ∧ @Ne Nat p.1 dl1))
    (f13 : ∀ p ∈ own, ∀ q ∈ news, @Ne Nat q.1 p.1) : GridNew P news gr n'
theorem grid_ret {P : Params} {h₀ h : Heap} {L gr dg gl : Nat} {dl0 cl0 c0 e0 ln0 dl1 cl1 c1 e1 ln1 : Nat} {news all : Led} {k0 m0 k1 m1 gn : Nat} {z0 z1 v1 v2 p0 q0 p1 q1 : Value} {a1 a2 a3 b1 b2 b3 t1 t2 t3 w0 w1 : Tok} {Z : Prop} (N : News h₀ L h all)
    (x1 : (gr, instObj 489 dg) ∈ all) (x2 : (dg, dictOf (gridDict P t1 t2 t3 v1 v2 gl) 3) ∈ all) (x3 : (gl, listOf [Value.ref ln0, .ref ln1].toArray gn) ∈ all)
    (y1 : (ln0, instObj 338 dl0) ∈ all) (y2 : (dl0, dictOf (lineDict P a1 a2 a3 cl0 false z0) k0) ∈ all) (y3 : (cl0, listOf [Value.ref c0, .ref c0, .ref c0, .ref c0].toArray m0) ∈ all) (y4 : (c0, tupOf [.ref e0, .int 1 w0, p0, q0]) ∈ all) (y5 : (e0, tupOf []) ∈ all)
    (u1 : (ln1, instObj 338 dl1) ∈ all) (u2 : (dl1, dictOf (lineDict P b1 b2 b3 cl1 false z1) k1) ∈ all) (u3 : (cl1, listOf [Value.ref c1, .ref c1, .ref c1, .ref c1].toArray m1) ∈ all) (u4 : (c1, tupOf [.ref e1, .int 1 w1, p1, q1]) ∈ all) (u5 : (e1, tupOf []) ∈ all) (hs : ∀ p ∈ news, p ∈ all)
    (r0 : AllLt dg news) (r1 : @LT.lt Nat _ dg gr) (r2 : @LT.lt Nat _ gr dl0) (r3 : @LT.lt Nat _ dl0 ln0) (r4 : @LT.lt Nat _ ln0 e0) (r5 : @LT.lt Nat _ e0 c0) (r6 : @LT.lt Nat _ c0 cl0) (r7 : @LT.lt Nat _ cl0 dl1) (r8 : @LT.lt Nat _ dl1 ln1) (r9 : @LT.lt Nat _ ln1 e1) (r10 : @LT.lt Nat _ e1 c1) (r11 : @LT.lt Nat _ c1 cl1)
    (g0 : ∀ q ∈ news, @Ne Nat q.1 gl) (g1 : @Ne Nat cl0 gl) (g2 : @Ne Nat dl0 gl) (g3 : @Ne Nat cl1 gl) (g4 : @Ne Nat dl1 gl)
    (ret : ∀ n', GridNew P news gr n' → News h₀ L h n' → Z) : Z := by
  have low : ∀ q ∈ news, @LT.lt Nat _ q.1 dg := fun q hq => allLt_mem r0 q hq
  refine ret _ ⟨dg, gl, dl0, cl0, ln0, dl1, cl1, ln1, .ref c0, .ref c1, k0, m0, k1, m1, gn, z0, z1, v1, v2, a1, a2, a3, b1, b2, b3, t1, t2, t3,
    [(gr, instObj 489 dg), (dg, dictOf (gridDict P t1 t2 t3 v1 v2 gl) 3), (gl, listOf [Value.ref ln0, .ref ln1].toArray gn), (ln0, instObj 338 dl0), (ln1, instObj 338 dl1), (c0, tupOf [.ref e0, .int 1 w0, p0, q0]), (e0, tupOf []), (c1, tupOf [.ref e1, .int 1 w1, p1, q1]), (e1, tupOf [])],
    rfl, .head _, .tail _ (.head _), .tail _ (.tail _ (.head _)), .tail _ (.tail _ (.tail _ (.head _))), .tail _ (.tail _ (.tail _ (.tail _ (.head _)))), ?_, ?_, allLt_of fun q hq => ?_, by k_extra "lt", r7, by k_extra "lt", ?_, ?_⟩ fun p hp => N p ?_
  · exact cellIn_blank (.tail _ (.tail _ (.tail _ (.tail _ (.tail _ (.head _)))))) (.tail _ (.tail _ (.tail _ (.tail _ (.tail _ (.tail _ (.head _)))))))
  · exact cellIn_blank (.tail _ (.tail _ (.tail _ (.tail _ (.tail _ (.tail _ (.tail _ (.head _)))))))) (.tail _ (.tail _ (.tail _ (.tail _ (.tail _ (.tail _ (.tail _ (.tail _ (.head _)))))))))
  · have := low q hq
    exact Nat.lt_trans this (by k_extra "lt")
  · intro p hp
    simp only [List.mem_cons, List.not_mem_nil, or_false] at hp
    rcases hp with rfl | rfl | rfl | rfl | rfl | rfl | rfl | rfl | rfl <;> refine ⟨?_, ?_, ?_, ?_⟩ <;> k_ne
  · intro p hp q hq
    have hl := ltN (low q hq)
    have hg := g0 q hq
    simp only [List.mem_cons, List.not_mem_nil, or_false] at hp
    rcases hp with rfl | rfl | rfl | rfl | rfl | rfl | rfl | rfl | rfl <;> k_ne
  · simp only [List.mem_cons, List.cons_append, List.nil_append] at hp
    rcases hp with rfl | rfl | rfl | rfl | rfl | rfl | rfl | rfl | rfl | rfl | rfl | rfl | rfl | hp <;> first | assumption | exact hs p hp
section
variable {w : World} {loose : List Str} {mean : ExcName → Option Value} {mg mb : Str → Option Value}
theorem rules56_1 : True := by
  k_with "k_enter" => ((refine' code_def ?q209k1 ?q209k2 ?q209k3 ?q209k4 ?q209k5 ?q209kA ?q209kF ?q209kK ?q209k6 ?q209k7 ?q209k8 ?q209k9 ?q209kB ?_ ?q209c2 ?q209c3 ?q209c4 ?q209c5; (case q209kA => exact rfl); (case q209kF => assumption); (case q209kK => assumption); (case q209k1 => k_asm); (case q209k2 => k_asm); (case q209k3 => k_asm); (case q209k4 => k_asm); (case q209k5 => k_asm); (case q209k6 => k_is); (case q209k7 => k_is); (case q209k8 => k_room); (case q209k9 => first | exact BindsTo.of_eq rfl | exact binds_K (by k_in) rfl (by k_is) rfl rfl rfl); (case q209c5 => decide); (case q209kB => exact locs rfl); (case q209c2 => exact rfl); (case q209c3 => exact rfl); (case q209c4 => exact rfl); k_whole; intro _ _ _ _ _ _ B' _ _; (try dsimp only); (try k_lift B'); (try k_fold)))
  k_with "binaryOp Mult ref int" => ((k_here; k_dflt (refine' mul4 ?q210F ?q210N ?q210m ?q210x ?_; (case q210F => k_asm); (case q210N => k_asm); (case q210m => k_mem); (case q210x => rfl)); intro _ _ _ _; kaf_pre; (try k_sweep)))
  trivial
theorem line_spec {news : Led} {t : Tok} : Spec w loose mean mg mb 570 570 338 [.int 4 t, .ref 22] news (fun v n' => ∃ ln, v = .ref ln ∧ LineNew w.params news ln n') := by
  intro gd env outer A₀ base h₀ L m s Q E hf hk B F X N T hret
  k_steps
  rename News h₀ L _ _ => N9
  refine' line_ret (P := w.params) (news := news) N9 ?m1 ?m2 ?m3 ?m4 ?m5 ?hs ?a1 ?a2 ?a3 ?a4 ?a5 (fun n' LN N' => hret _ n' _ _ ⟨_, rfl, LN⟩ (by k_asm) N')
  case m1 => k_mem
  case m2 => k_mem
  case m3 => k_mem
  case m4 => k_mem
  case m5 => k_mem
  case hs => exact fun p hp => by (repeat (refine List.mem_cons_of_mem _ ?_)); assumption
  case a1 => first | tbn_find | exact allLt_of (by assumption)
  case a2 => first | k_extra "lt" | k_extra "om"
  case a3 => first | k_extra "lt" | k_extra "om"
  case a4 => first | k_extra "lt" | k_extra "om"
  case a5 => first | k_extra "lt" | k_extra "om"
theorem hist_spec {news : Led} {t : Tok} : Spec w loose mean mg mb 570 570 559 [.int 9 t] news (fun v n' => ∃ hi dh hl t1 t2 t3 v1 v3, v = .ref hi ∧ n' = (hl, listOf ([] : List Value).toArray 0) :: (hi, instObj 559 dh) :: (dh, dictOf (histDict w.params t1 t2 t3 v1 v3 hl) 3) :: news ∧ v1 = .int 9 t ∧ AllLt dh news ∧ @LT.lt Nat _ dh hi ∧ @LT.lt Nat _ hi hl) := by
  intro gd env outer A₀ base h₀ L m s Q E hf hk B F X N T hret
  k_steps
  rename Fr h₀ L _ _ => F9
  rename News h₀ L _ _ => N9
  refine' hret _ _ _ _ ⟨_, _, _, _, _, _, _, _, rfl, rfl, rfl, ?a, ?b, ?c⟩ F9 N9
  case a => first | tbn_find | exact allLt_of (by assumption)
  case b => assumption
  case c => exact And.left (by assumption)
theorem rules56_2 : True := by
  k_with "k_enter" => ((refine' code_defC ?q211k1 ?q211k2 ?q211k3 ?q211k4 ?q211k5 ?q211kA ?q211kF ?q211kK ?q211k6 ?q211k7 ?q211k8 ?q211k9 ?q211kB ?q211kD ?_ ?q211c2 ?q211c3 ?q211c4; (case q211kA => exact rfl); (case q211kF => assumption); (case q211kK => assumption); (case q211k1 => k_asm); (case q211k2 => k_asm); (case q211k3 => k_asm); (case q211k4 => k_asm); (case q211k5 => k_asm); (case q211k6 => k_is); (case q211k7 => k_is); (case q211k8 => k_room); (case q211k9 => first | exact BindsTo.of_eq rfl | exact binds_K (by k_in) rfl (by k_is) rfl rfl rfl); (case q211kB => exact rfl); (case q211kD => decide +kernel); (case q211c2 => exact rfl); (case q211c3 => exact rfl); (case q211c4 => exact rfl); k_whole; intro _ _ _ _ _ _ _ N' Y' B' _ _ l1; (try k_lt l1); k_cells Y'; (try simp only [List.cons_append, List.nil_append] at N'); (try dsimp only); (try k_lift B'); (try k_fold)))
  k_with "eval Name" => ((k_dflt (first
  | (refine' nameX_L ?q212F ?q212v ?_ ?q212a ?q212b; (case q212F => k_asm); (case q212a => exact rfl); (case q212b => exact rfl); (case q212v => exact rfl); k_whole)
  | (refine' nameX_K ?q212F ?q212X ?q212T ?q212e ?_ ?q212a ?q212b; (case q212F => k_asm); (case q212X => k_asm); (case q212T => k_asm); (case q212a => exact rfl); (case q212b => exact rfl); (case q212e => k_is); k_whole))))
  k_with "k_mem" => (((repeat (refine' List.mem_cons_of_mem _ ?_)); with_reducible assumption))
  k_with "subscriptTail Name Constant ref int" => ((k_dflt (refine tup_at (by k_asm) (by k_mem) (by decide) (by decide) (by rfl) ?_)))
  k_with "subscriptTail Subscript Constant ref int" => ((k_dflt (refine tup_at (by k_asm) (by k_mem) (by decide) (by decide) (by rfl) ?_)))
  k_with "ite" => ((first | (refine ite_pos (by with_reducible assumption) ?_) | (refine ite_neg (by with_reducible assumption) ?_) | (refine ite_pos (by simp only [beq_iff_eq, bne_iff_ne, beq_eq_false_iff_ne, decide_eq_true_eq, decide_eq_false_iff_not, Bool.not_eq_true', Bool.not_eq_false']; omega) ?_) | (refine ite_neg (by simp only [beq_iff_eq, bne_iff_ne, beq_eq_false_iff_ne, decide_eq_true_eq, decide_eq_false_iff_not, Bool.not_eq_true', Bool.not_eq_false']; omega) ?_)))
  k_with "call ref" => ((k_here; k_dflt (first
  | (refine' Spec.use (f := 338) ?q217C ?q217d1 ?q217d2 ?q217d3 ?q217kA ?q217kF ?q217kK ?q217k1 ?q217k2 ?q217k3 ?q217k4 ?q217k5 ?_; (case q217kA => exact rfl); (case q217kF => first | exact rfl | assumption); (case q217kK => first | exact rfl | assumption); (case q217k1 => k_asm); (case q217k2 => k_asm); (case q217k3 => k_asm); (case q217k4 => k_asm); (case q217k5 => k_asm); (case q217C => exact line_spec); (case q217d3 => exact rfl); (case q217d1 => exact Nat.le_of_ble_eq_true rfl); (case q217d2 => exact Nat.le_of_ble_eq_true rfl); intro v' n' _ _ po _ _; refine cutP fun R' hR' => ?_; obtain ⟨ln9, e1, dl9, cl9, c9, e9, n19, n29, sz9, vp9, vq9, t19, t29, t39, tw9, e2, o1, o2, o3, o4, o5⟩ := po; subst e1; subst n'; (try simp only [AllLt] at o1); refine hR' ?_; clear hR' R'; kaf_suf; (try k_sweep)))))
  k_with "k_updF" => (first | exact Del.head | (refine' Del.tail ?q218a ?q218b; (case q218a => k_ne); (case q218b => k_updF)))
  k_with "eval ListComp" => ((k_here; (with_reducible show wpAny _ _ (eval (PySem.Expr.ListComp _ [⟨PySem.Expr.Name _ _, _, [], 0⟩] _ _) _) _ _ _); k_dflt (refine LCg.ListComp_U (F₀ := by k_asm) (by with_unfolding_all rfl) (by decide) (by rfl) (by decide) (by rfl) ?_)))
  k_with "CompEnd" => ((refine halt ?_))
  k_with "CompSrc" => ((refine halt ?_))
  k_with "FinE" => ((refine halt ?_))
  trivial
theorem grid_spec {news : Led} {t t' : Tok} : Spec w loose mean mg mb 560 560 489 [.int 2 t, .int 4 t'] news (fun v n' => ∃ gr, v = .ref gr ∧ GridNew w.params news gr n') := by
  intro gd env outer A₀ base h₀ L m s Q E hf hk B F X N T hret
  k_steps
  rename IsRange _ _ _ _ _ _ _ _ => hR
  rename_i F9 N9 _
  refine Halt.go (LCg.CompSrc.range (n := 2) rfl F9 N9 hR rfl rfl (Nat.le_of_ble_eq_true rfl) (fun g => LCg.CompRest.succ ?_))
  intro v I oI C oC D m₂ h tk E' hP hns hx F3 N3 off ne
  clear F9 N9
  obtain ⟨t9, rfl⟩ := hP
  have off' := off
  simp only [LCg.Off3] at off'
  dsimp only
  k_steps
  refine' Halt.go (compEnd_of ?ca1 ?ca2 ?ca3 ?ca4 ?ca5 ?ca6 trivial (LCg.CompRest.succ ?_))
  case ca1 => k_asm
  case ca2 => k_asm
  case ca3 => k_updF
  case ca4 => k_updF
  case ca5 => k_updF
  case ca6 => exact ⟨⟨by k_ne, by k_ne, by k_ne⟩, ⟨by k_ne, by k_ne, by k_ne⟩, ⟨by k_ne, by k_ne, by k_ne⟩, ⟨by k_ne, by k_ne, by k_ne⟩, ⟨by k_ne, by k_ne, by k_ne⟩, off⟩
  clear off off' ne hns hx
  intro v I2 oI2 C2 oC2 D2 m₃ h tk E' hP hns hx F3 N3 off ne
  obtain ⟨t9, rfl⟩ := hP
  have off' := off
  simp only [LCg.Off3] at off'
  dsimp only
  k_steps
  refine' Halt.go (compEnd_of ?cb1 ?cb2 ?cb3 ?cb4 ?cb5 ?cb6 trivial (LCg.CompRest.zero (Halt.go ?_)))
  case cb1 => k_asm
  case cb2 => k_asm
  case cb3 => k_updF
  case cb4 => k_updF
  case cb5 => k_updF
  case cb6 => exact ⟨⟨by k_ne, by k_ne, by k_ne⟩, ⟨by k_ne, by k_ne, by k_ne⟩, ⟨by k_ne, by k_ne, by k_ne⟩, ⟨by k_ne, by k_ne, by k_ne⟩, ⟨by k_ne, by k_ne, by k_ne⟩, off⟩
  clear off off' ne hns hx
  intro D5 h5 tk5 F5 N5 o5
  have nD5 := off1_mem o5
  simp only [LCg.Off1] at o5
  dsimp only
  k_steps
  rename News h₀ L _ _ => N9
  refine' grid_ret (P := w.params) (news := news) N9 ?x1 ?x2 ?x3 ?y1 ?y2 ?y3 ?y4 ?y5 ?u1 ?u2 ?u3 ?u4 ?u5 ?hs ?r0 ?r1 ?r2 ?r3 ?r4 ?r5 ?r6 ?r7 ?r8 ?r9 ?r10 ?r11 ?g0 ?g1 ?g2 ?g3 ?g4 (fun n' GN N' => hret _ n' _ _ ⟨_, rfl, GN⟩ (by k_asm) N')
  case x1 => k_mem
  case x2 => k_mem
  case x3 => k_mem
  case y1 => k_mem
  case y2 => k_mem
  case y3 => k_mem
  case y4 => k_mem
  case y5 => k_mem
  case u1 => k_mem
  case u2 => k_mem
  case u3 => k_mem
  case u4 => k_mem
  case u5 => k_mem
  case hs => exact fun p hp => by (repeat (refine List.mem_cons_of_mem _ ?_)); assumption
  case r0 => first | tbn_find | exact allLt_of (by assumption)
  case r1 => first | k_extra "lt" | k_extra "om"
  case r2 => first | k_extra "lt" | k_extra "om"
  case r3 => first | k_extra "lt" | k_extra "om"
  case r4 => first | k_extra "lt" | k_extra "om"
  case r5 => first | k_extra "lt" | k_extra "om"
  case r6 => first | k_extra "lt" | k_extra "om"
  case r7 => first | k_extra "lt" | k_extra "om"
  case r8 => first | k_extra "lt" | k_extra "om"
  case r9 => first | k_extra "lt" | k_extra "om"
  case r10 => first | k_extra "lt" | k_extra "om"
  case r11 => first | k_extra "lt" | k_extra "om"
  case g0 => exact fun q hq => nD5 q (by (repeat (refine List.mem_cons_of_mem _ ?_)); assumption)
  case g1 => k_ne
  case g2 => k_ne
  case g3 => k_ne
  case g4 => k_ne
end

end
end Mine
namespace Mine
section
theorem base57 : True := by
  k_with_none
  k_with "execs cons" => (k_here; (with_reducible refine wpAny_execs_cons ?_); (try dsimp only); k_fold)
  k_with "ne" => (first | with_reducible assumption | with_reducible exact Ne.symm (by with_reducible assumption) | with_reducible exact Nat.ne_of_gt (by with_reducible assumption) | with_reducible exact Nat.ne_of_lt (by with_reducible assumption) | with_reducible exact neu (by with_reducible assumption) | with_reducible exact neu' (by with_reducible assumption) | with_reducible exact neu2 (by with_reducible assumption) | with_reducible exact neu2' (by with_reducible assumption) | with_reducible exact Nat.ne_of_lt sl1 | with_reducible exact Nat.ne_of_lt sl2 | with_reducible exact Nat.ne_of_lt sl3 | with_reducible exact Nat.ne_of_lt sl4 | with_reducible exact Nat.ne_of_lt sl5 | with_reducible exact Nat.ne_of_gt sl1 | with_reducible exact Nat.ne_of_gt sl2 | with_reducible exact Nat.ne_of_gt sl3 | with_reducible exact Nat.ne_of_gt sl4 | with_reducible exact Nat.ne_of_gt sl5 | omega)
  k_with "lt2" => omega
  k_with "lt0" => (first | with_reducible assumption | omega)
  k_with "lt1" => omega
  k_with "om" => (first | with_reducible assumption | with_reducible exact Nat.le_of_ble_eq_true (by decide) | with_reducible exact ci0 | with_reducible exact ci1 | with_reducible exact cz0 (by with_reducible assumption) | with_reducible exact cz1 (by with_reducible assumption) | with_reducible exact cz2 (by with_reducible assumption) | with_reducible exact cz3 (by with_reducible assumption) | with_reducible exact lb1 (by with_reducible assumption) (by decide) | with_reducible exact lb4 (by with_reducible assumption) (by decide) | with_reducible exact lb2 (by with_reducible assumption) (by with_reducible assumption) (by decide) | with_reducible exact lb5 (by with_reducible assumption) (by with_reducible assumption) (by decide) | with_reducible exact ci4 (by with_reducible assumption) (by decide) | with_reducible exact ci5 (by with_reducible assumption) (by decide) | with_reducible exact cz4 (by with_reducible assumption) (by with_reducible assumption) | with_reducible exact cz5 (by with_reducible assumption) (by with_reducible assumption) | with_reducible exact cz6 (by with_reducible assumption) (by with_reducible assumption) (by with_reducible assumption) (by decide) | with_reducible exact lp1 (by with_reducible assumption) (by decide) | with_reducible exact le1 (by with_reducible assumption) | with_reducible exact le2 (by with_reducible assumption) | with_reducible exact Nat.le_succ _ | with_reducible exact leu (by with_reducible assumption) | with_reducible exact leu2 (by with_reducible assumption) | with_reducible exact zb1 (by with_reducible assumption) (by decide) | with_reducible exact zb2 (by with_reducible assumption) | with_reducible exact zb3 (by with_reducible assumption) (by decide) | with_reducible exact un1 (by with_reducible assumption) | with_reducible exact sl1 | with_reducible exact sl2 | with_reducible exact sl3 | with_reducible exact sl4 | with_reducible exact sl5 | omega)
  k_with "lt" => (first | with_reducible assumption | omega)
  trivial
section
variable {w : World} {loose : List Str} {mean : ExcName → Option Value} {mg mb : Str → Option Value}
theorem rules57_1 : True := by
  k_with "k_enter" => ((refine' code_def ?q223k1 ?q223k2 ?q223k3 ?q223k4 ?q223k5 ?q223kA ?q223kF ?q223kK ?q223k6 ?q223k7 ?q223k8 ?q223k9 ?q223kB ?_ ?q223c2 ?q223c3 ?q223c4 ?q223c5; (case q223kA => exact rfl); (case q223kF => assumption); (case q223kK => assumption); (case q223k1 => k_asm); (case q223k2 => k_asm); (case q223k3 => k_asm); (case q223k4 => k_asm); (case q223k5 => k_asm); (case q223k6 => k_is); (case q223k7 => k_is); (case q223k8 => k_room); (case q223k9 => first | exact BindsTo.of_eq rfl | exact binds_K (by k_in) rfl (by k_is) rfl rfl rfl); (case q223c5 => decide); (case q223kB => exact locs rfl); (case q223c2 => exact rfl); (case q223c3 => exact rfl); (case q223c4 => exact rfl); k_whole; intro _ _ _ _ _ _ B' _ _; (try dsimp only); (try k_lift B'); (try k_fold)))
  k_with "eval Name" => ((k_dflt (first
  | (refine' nameX_L ?q224F ?q224v ?_ ?q224a ?q224b; (case q224F => k_asm); (case q224a => exact rfl); (case q224b => exact rfl); (case q224v => exact rfl); k_whole)
  | (refine' nameX_K ?q224F ?q224X ?q224T ?q224e ?_ ?q224a ?q224b; (case q224F => k_asm); (case q224X => k_asm); (case q224T => k_asm); (case q224a => exact rfl); (case q224b => exact rfl); (case q224e => k_is); k_whole))))
  k_with "k_mem" => (((repeat (refine' List.mem_cons_of_mem _ ?_)); with_reducible assumption))
  k_with "subscriptTail Name Constant ref int" => ((k_dflt (refine tup_at (by k_asm) (by k_mem) (by decide) (by decide) (by rfl) ?_)))
  k_with "subscriptTail Subscript Constant ref int" => ((k_dflt (refine tup_at (by k_asm) (by k_mem) (by decide) (by decide) (by rfl) ?_)))
  k_with "ite" => ((first | (refine ite_pos (by with_reducible assumption) ?_) | (refine ite_neg (by with_reducible assumption) ?_) | (refine ite_pos (by simp only [beq_iff_eq, bne_iff_ne, beq_eq_false_iff_ne, decide_eq_true_eq, decide_eq_false_iff_not, Bool.not_eq_true', Bool.not_eq_false']; omega) ?_) | (refine ite_neg (by simp only [beq_iff_eq, bne_iff_ne, beq_eq_false_iff_ne, decide_eq_true_eq, decide_eq_false_iff_not, Bool.not_eq_true', Bool.not_eq_false']; omega) ?_)))
  k_with "k_all" => (assumption)
  k_with "call builtin:len" => ((k_here; (with_reducible show wpAny _ _ (call (Value.builtin "len") [Value.ref _]) _ _ _); k_dflt (refine len_listK (by k_asm) (by k_mem) (by simp only [List.length_append, List.length_cons, List.length_nil]; k_extra "om") ?_); intro _ _; (try simp only [List.length_append, List.length_cons, List.length_nil])))
  k_with "call builtin:list.append" => ((k_here; k_dflt (refine' list_push ?q231F ?q231N ?q231U ?q231z ?_; (case q231F => k_asm); (case q231N => k_asm); (case q231U => k_upd); (case q231z => k_extra "om")); intro _ _ _; (try k_sweep)))
  trivial
theorem push_spec {hi dh hl ln : Addr} {hvs : List Value} {n n1 : Nat} {t t1 t2 t3 : Tok} {v3 : Value} {rest : Led} (hz : hvs.length ≤ 4) (m1 : (hi, instObj 559 dh) ∈ rest) (m2 : (dh, dictOf (histDict w.params t1 t2 t3 (.int 9 t) v3 hl) n1) ∈ rest) (r1 : ∀ p ∈ rest, p.1 ≠ hl) :
    Spec w loose mean mg mb 560 560 521 [.ref hi, .ref ln] ((hl, listOf hvs.toArray n) :: rest) (fun v n' => v = .none ∧ n' = (hl, listOf (hvs ++ [Value.ref ln]).toArray (n + 1)) :: rest) := by
  intro gd env outer A₀ base h₀ L m s Q E hf hk B F X N T hret
  refine wpAny_call ?_
  k_dflt (refine' code_def ?k1 ?k2 ?k3 ?k4 ?k5 ?kA ?kF ?kK ?k6 ?k7 ?k8 ?k9 ?kB ?_ ?c2 ?c3 ?c4 ?c5; (case kA => exact rfl); (case kF => assumption); (case kK => assumption); (case k1 => k_asm); (case k2 => k_asm); (case k3 => k_asm); (case k4 => k_asm); (case k5 => k_asm); (case k6 => k_is); (case k7 => k_is); (case k8 => k_room); (case k9 => first | exact BindsTo.of_eq rfl | exact binds_K (by k_in) rfl (by k_is) rfl rfl rfl); (case c5 => decide); (case kB => exact locs rfl); (case c2 => exact rfl); (case c3 => exact rfl); (case c4 => exact rfl); k_whole); intro g1 L1 h1 FG1 F1 N1 B1 X1 T1; (try dsimp only); (try k_lift B1); (try k_fold)
  k_steps
  exact hret _ _ _ _ ⟨rfl, rfl⟩ (by k_asm) (by k_asm)
end
section
variable {w : World} {loose : List Str} {mean : ExcName → Option Value} {mg mb : Str → Option Value}
theorem push_use {hi dh hl ln : Addr} {hvs : List Value} {n n1 : Nat} {t t1 t2 t3 : Tok} {v3 : Value} {news : Led} {g : Obj → Led} {A A₀ : Around} {env : Env} {outer : List Env} {base h₀ : Heap} {L : Addr} {m : Str → Option Value} {s : Shared} {Q E : Value → Shared → Prop}
    (U : UpdF hl (listOf hvs.toArray n) news g) (hz : hvs.length ≤ 4) (m1 : (hi, instObj 559 dh) ∈ news) (m2 : (dh, dictOf (histDict w.params t1 t2 t3 (.int 9 t) v3 hl) n1) ∈ news)
    (hdp : A.depth ≤ 560) (hu : A.units ≤ 560) (hh : A.handled = none) (hA : A.frames = some (env :: outer)) (hf : env.frame = some L) (hk : env.scope.kind = .function)
    (B : Below A₀ base outer h₀) (F : Fr h₀ L s.heap m) (X : (hd.heap_1 w.params).In h₀) (N : News h₀ L s.heap news) (T : Top hd.view_1 loose mean mg mb h₀)
    (ret : ∀ h' tk', Fr h₀ L h' m → News h₀ L h' (g (listOf (hvs ++ [Value.ref ln]).toArray (n + 1))) → Q .none { s with heap := h', toks := tk' }) :
    wpAny (model theProg w) A (call (.ref 521) [.ref hi, .ref ln]) Q E s := by
  obtain ⟨p1, p2, p3⟩ := pick1 U
  have hm : (hl, listOf hvs.toArray n) ∈ news := p1 _ (.head _)
  refine Spec.use (push_spec (rest := less news [hl]) hz (mem_less1 N m1 hm (by simp)) (mem_less1 N m2 hm (by simp)) p2) hdp hu hh hA hf hk B F X (fun p hp => N p (p1 p hp)) T ?_
  rintro v n' h' tk' ⟨rfl, rfl⟩ F' N'
  exact ret h' tk' F' fun p hp => N' p (p3 _ p hp)
end

end
end Mine
namespace Mine
section
theorem base60 : True := by
  k_with_none
  k_with "execs cons" => (k_here; (with_reducible refine wpAny_execs_cons ?_); (try dsimp only); k_fold)
  k_with "ne" => (first | with_reducible assumption | with_reducible exact Ne.symm (by with_reducible assumption) | with_reducible exact Nat.ne_of_gt (by with_reducible assumption) | with_reducible exact Nat.ne_of_lt (by with_reducible assumption) | with_reducible exact neu (by with_reducible assumption) | with_reducible exact neu' (by with_reducible assumption) | with_reducible exact neu2 (by with_reducible assumption) | with_reducible exact neu2' (by with_reducible assumption) | with_reducible exact Nat.ne_of_lt sl1 | with_reducible exact Nat.ne_of_lt sl2 | with_reducible exact Nat.ne_of_lt sl3 | with_reducible exact Nat.ne_of_lt sl4 | with_reducible exact Nat.ne_of_lt sl5 | with_reducible exact Nat.ne_of_gt sl1 | with_reducible exact Nat.ne_of_gt sl2 | with_reducible exact Nat.ne_of_gt sl3 | with_reducible exact Nat.ne_of_gt sl4 | with_reducible exact Nat.ne_of_gt sl5 | omega)
  k_with "lt2" => omega
  k_with "lt0" => (first | with_reducible assumption | omega)
  k_with "lt1" => omega
  k_with "om" => (first | with_reducible assumption | with_reducible exact Nat.le_of_ble_eq_true (by decide) | with_reducible exact ci0 | with_reducible exact ci1 | with_reducible exact cz0 (by with_reducible assumption) | with_reducible exact cz1 (by with_reducible assumption) | with_reducible exact cz2 (by with_reducible assumption) | with_reducible exact cz3 (by with_reducible assumption) | with_reducible exact lb1 (by with_reducible assumption) (by decide) | with_reducible exact lb4 (by with_reducible assumption) (by decide) | with_reducible exact lb2 (by with_reducible assumption) (by with_reducible assumption) (by decide) | with_reducible exact lb5 (by with_reducible assumption) (by with_reducible assumption) (by decide) | with_reducible exact ci4 (by with_reducible assumption) (by decide) | with_reducible exact ci5 (by with_reducible assumption) (by decide) | with_reducible exact cz4 (by with_reducible assumption) (by with_reducible assumption) | with_reducible exact cz5 (by with_reducible assumption) (by with_reducible assumption) | with_reducible exact cz6 (by with_reducible assumption) (by with_reducible assumption) (by with_reducible assumption) (by decide) | with_reducible exact lp1 (by with_reducible assumption) (by decide) | with_reducible exact le1 (by with_reducible assumption) | with_reducible exact le2 (by with_reducible assumption) | with_reducible exact Nat.le_succ _ | with_reducible exact leu (by with_reducible assumption) | with_reducible exact leu2 (by with_reducible assumption) | with_reducible exact zb1 (by with_reducible assumption) (by decide) | with_reducible exact zb2 (by with_reducible assumption) | with_reducible exact zb3 (by with_reducible assumption) (by decide) | with_reducible exact un1 (by with_reducible assumption) | with_reducible exact sl1 | with_reducible exact sl2 | with_reducible exact sl3 | with_reducible exact sl4 | with_reducible exact sl5 | omega)
  k_with "lt" => (first | with_reducible assumption | omega)
  trivial
/-- the addresses that the law's loop over the rows knows -/
structure LawAddr where
  c0 : Nat
  lf : Nat
  dk : Nat
  sg : Nat
  jr : Nat
  hi : Nat
  hl : Nat
  gr : Nat
  dl0 : Nat
  cl0 : Nat
  ln0 : Nat
  dl1 : Nat
  cl1 : Nat
  ln1 : Nat
abbrev lawFrame (a : LawAddr) (mv : Value) (u : Str → Option Value) : Str → Option Value := fun y =>
  if y = Str.ofString "deck" then some (.ref a.dk) else if y = Str.ofString "signs" then some (.ref a.sg) else if y = Str.ofString "joined_rows" then some (.ref a.jr) else if y = Str.ofString "history" then some (.ref a.hi) else if y = Str.ofString "grid" then some (.ref a.gr) else if y = Str.ofString "many" then some mv else u y
abbrev rowFrame (a : LawAddr) (mv rv : Value) (ln : Nat) (u : Str → Option Value) : Str → Option Value := fun y =>
  if y = Str.ofString "line" then some (.ref ln) else if y = Str.ofString "row" then some rv else if y = Str.ofString "deck" then some (.ref a.dk) else if y = Str.ofString "signs" then some (.ref a.sg) else if y = Str.ofString "joined_rows" then some (.ref a.jr) else if y = Str.ofString "history" then some (.ref a.hi) else if y = Str.ofString "grid" then some (.ref a.gr) else if y = Str.ofString "many" then some mv else u y
/-- the order of the addresses -/
structure LawOrd (a : LawAddr) (I : Nat) : Prop where
  o0 : a.c0 ≠ a.lf
  oc : a.c0 < a.dk
  o1 : a.lf < a.dk
  o2 : a.dk < a.sg
  o3 : a.sg < a.jr
  o6 : a.jr < a.hl
  o7 : a.hl < a.dl0
  o8 : a.dl0 < a.cl0
  o9 : a.cl0 < a.dl1
  o10 : a.dl1 < a.cl1
  o11 : a.cl1 < I
/-- an address that is none of those that the loop turns -/
def OffA (a : LawAddr) (I M k x : Nat) : Prop := x ≠ I ∧ x ≠ a.c0 ∧ x ≠ a.lf ∧ x ≠ a.dk ∧ x ≠ a.sg ∧ x ≠ a.jr ∧ x ≠ a.hl ∧ (k ≤ M → x ≠ a.dl0 ∧ x ≠ a.cl0) ∧ (k ≤ M + 1 → x ≠ a.dl1 ∧ x ≠ a.cl1)
theorem LawOrd.all {a : LawAddr} {I : Nat} (O : LawOrd a I) : a.c0 < I ∧ a.lf < I ∧ a.dk < I ∧ a.sg < I ∧ a.jr < I ∧ a.hl < I ∧ a.dl0 < I ∧ a.cl0 < I ∧ a.dl1 < I ∧ a.cl1 < I := by
  have h1 := O.o11
  have h2 := Nat.lt_trans O.o10 h1
  have h3 := Nat.lt_trans O.o9 h2
  have h4 := Nat.lt_trans O.o8 h3
  have h5 := Nat.lt_trans O.o7 h4
  have h6 := Nat.lt_trans O.o6 h5
  have h7 := Nat.lt_trans O.o3 h6
  have h8 := Nat.lt_trans O.o2 h7
  exact ⟨Nat.lt_trans O.oc h8, Nat.lt_trans O.o1 h8, h8, h7, h6, h5, h4, h3, h2, h1⟩
theorem LawOrd.six {a : LawAddr} {I x : Nat} (O : LawOrd a I) (h1 : a.dl0 ≤ x) (h2 : x < I) : x ≠ I ∧ x ≠ a.c0 ∧ x ≠ a.lf ∧ x ≠ a.dk ∧ x ≠ a.sg ∧ x ≠ a.jr ∧ x ≠ a.hl := by
  have h5 := Nat.lt_of_lt_of_le O.o7 h1
  have h6 := Nat.lt_trans O.o6 h5
  have h7 := Nat.lt_trans O.o3 h6
  have h8 := Nat.lt_trans O.o2 h7
  exact ⟨Nat.ne_of_lt h2, Nat.ne_of_gt (Nat.lt_trans O.oc h8), Nat.ne_of_gt (Nat.lt_trans O.o1 h8), Nat.ne_of_gt h8, Nat.ne_of_gt h7, Nat.ne_of_gt h6, Nat.ne_of_gt h5⟩
/-- the four of the grid's lines -/
theorem LawOrd.four {a : LawAddr} {I : Nat} (O : LawOrd a I) : a.dl0 ≤ a.cl0 ∧ a.dl0 ≤ a.dl1 ∧ a.dl0 ≤ a.cl1 ∧ a.dl0 < a.dl1 ∧ a.dl0 < a.cl1 ∧ a.cl0 < a.cl1 :=
  ⟨Nat.le_of_lt O.o8, Nat.le_of_lt (Nat.lt_trans O.o8 O.o9), Nat.le_of_lt (Nat.lt_trans (Nat.lt_trans O.o8 O.o9) O.o10), Nat.lt_trans O.o8 O.o9, Nat.lt_trans (Nat.lt_trans O.o8 O.o9) O.o10, Nat.lt_trans O.o9 O.o10⟩
theorem offA_gt {a : LawAddr} {I M k x : Nat} (O : LawOrd a I) (h : I < x) : OffA a I M k x := by
  obtain ⟨c0, lf, dk, sg, jr, hl, dl0, cl0, dl1, cl1⟩ := O.all
  have g : ∀ {y : Nat}, y < I → x ≠ y := fun hy => Nat.ne_of_gt (Nat.lt_trans hy h)
  exact ⟨Nat.ne_of_gt h, g c0, g lf, g dk, g sg, g jr, g hl, fun _ => ⟨g dl0, g cl0⟩, fun _ => ⟨g dl1, g cl1⟩⟩
theorem OffA.succ {a : LawAddr} {I M k x : Nat} (h : OffA a I M k x) : OffA a I M (k + 1) x := by
  obtain ⟨b1, b2, b3, b4, b5, b6, b7, b8, b9⟩ := h
  exact ⟨b1, b2, b3, b4, b5, b6, b7, fun e => b8 (Nat.le_of_succ_le e), fun e => b9 (Nat.le_of_succ_le e)⟩
abbrev pendOf (P : Params) (cl dl : Nat) (b z : Value) (m k : Nat) (t1 t2 t3 : Tok) : Led := [(cl, listOf [b, b, b, b].toArray m), (dl, dictOf (lineDict P t1 t2 t3 cl false z) k)]
/-- the state after k turns of the law's loop over the rows -/
inductive RowSt (w : World) (a : LawAddr) (I M : Nat) (oc : Obj) (mv : Value) (base pend : Led) (gd : List Value) (hk k : Nat) (m : Str → Option Value) (nx : Led) : Prop
  | mk (rows : Rows) (svs hvs : List Value) (ol od : Obj) (ns nj nh : Nat) (rest : Led) (u : Str → Option Value)
    (f0 : rows.length = k)
    (f1 : (∀ x ∈ rows, x.1.length = 4))
    (f2 : (k = M + 2 → ∀ x, rows.getLast? = some x → x.2 = false))
    (f3 : hvs.length = hk)
    (f4 : Deck w a.lf ol od)
    (f5 : m = lawFrame a mv u)
    (f6 : nx = (a.lf, ol) :: (a.dk, od) :: (a.sg, listOf svs.toArray ns) :: (a.jr, listOf (rows.map fun x => Value.bool x.2).toArray nj) :: (a.hl, listOf hvs.toArray nh) :: (a.c0, oc) :: (pend ++ rest))
    (f7 : All2 (SignsIn rest) svs (rows.map (·.1)))
    (f8 : All2 (LineIn w.params rest) (hvs ++ gd) rows)
    (f9 : (∀ p ∈ base, p ∈ rest))
    (f10 : ∀ p ∈ rest, OffA a I M k p.1) : RowSt w a I M oc mv base pend gd hk k m nx
def Stage (a : LawAddr) (M : Nat) (pe0 pe1 : Led) (k : Nat) (pend : Led) (gd : List Value) (hk : Nat) : Prop :=
  (k ≤ M ∧ pend = pe0 ++ pe1 ∧ gd = [] ∧ hk = k) ∨ (k = M + 1 ∧ pend = pe1 ∧ gd = [.ref a.ln0] ∧ hk = M) ∨ (k = M + 2 ∧ pend = [] ∧ gd = [.ref a.ln0, .ref a.ln1] ∧ hk = M)
inductive RowInv (w : World) (a : LawAddr) (I M : Nat) (oc : Obj) (mv : Value) (base pe0 pe1 : Led) (left : List Itm) (m : Str → Option Value) (nx : Led) : Prop
  | mk (k : Nat) (pend : Led) (gd : List Value) (hk : Nat)
    (f0 : left = rangeItems 0 k (M + 2 - k))
    (f1 : k ≤ M + 2)
    (f2 : Stage a M pe0 pe1 k pend gd hk)
    (f3 : RowSt w a I M oc mv base pend gd hk k m nx) : RowInv w a I M oc mv base pe0 pe1 left m nx
/-- the state behind «line = ..» -/
inductive LnReady (w : World) (a : LawAddr) (g : Heap) (L I M k : Nat) (oI oc ol od osg ojr ohl : Obj) (mv rv : Value) (s : Shared) (pend rest : Led) (S' : Shared) : Prop
  | mk (h : Heap) (tk : Nat) (u : Str → Option Value) (ln dl cl n1 n2 : Nat) (b0 b1 b2 b3 sz : Value) (t1 t2 t3 : Tok) (R : Led)
    (f0 : S' = { s with heap := h, toks := tk })
    (f1 : Fr g L h (rowFrame a mv rv ln u))
    (f2 : News g L h ((I, oI) :: (a.lf, ol) :: (a.dk, od) :: (a.sg, osg) :: (a.jr, ojr) :: (a.hl, ohl) :: (a.c0, oc) :: (cl, listOf [b0, b1, b2, b3].toArray n2) :: (dl, dictOf (lineDict w.params t1 t2 t3 cl false sz) n1) :: (pend ++ R)))
    (f3 : (ln, instObj 338 dl) ∈ R)
    (f4 : CellIn R b0 (some 0))
    (f5 : CellIn R b1 (some 0))
    (f6 : CellIn R b2 (some 0))
    (f7 : CellIn R b3 (some 0))
    (f8 : (∀ p ∈ rest, p ∈ R))
    (f9 : (∀ p ∈ R, OffA a I M (k + 1) p.1))
    (f10 : OffA a I M (k + 1) dl)
    (f11 : OffA a I M (k + 1) cl)
    (f12 : (∀ p ∈ pend ++ R, @Ne Nat p.1 dl ∧ @Ne Nat p.1 cl))
    (f13 : a.hl < dl)
    (f14 : dl < cl)
    (f15 : dl ≠ I)
    (f16 : cl ≠ I)
    (f17 : (k = M → ln = a.ln0))
    (f18 : (k = M + 1 → ln = a.ln1)) : LnReady w a g L I M k oI oc ol od osg ojr ohl mv rv s pend rest S'
theorem turn_end2 {h₀ : Heap} {L : Addr} {its news : Led} {rest : (Str → Option Value) → Led → Prop} {s₁ : Shared} {h' : Heap} {tk : Nat} {m' : Str → Option Value} {all : Led} {keep : Led} (F : Fr h₀ L h' m') (N : News h₀ L h' all) (d : ∀ p ∈ its ++ news, p ∈ all)
    (off : ∀ q ∈ its, ∀ p ∈ news, p.1 ≠ q.1) (k : SubL keep news) (h : rest m' news) : UnrEndW h₀ L s₁ its (fun m' n' => SubL keep n' ∧ rest m' n') { s₁ with heap := h', toks := tk } :=
  ⟨h', tk, m', news, rfl, F, fun p hp => N p (d p hp), fun p hp q hq => off q hq p hp, k, h⟩
theorem row_pack {e0 e1 e2 e3 e4 e5 e6 e7 e8 : Addr × Obj} {P R own : Led} : ∀ p ∈ [e0] ++ (e1 :: e2 :: e3 :: e4 :: e5 :: e6 :: (P ++ (e8 :: e7 :: (R ++ own)))), p ∈ e0 :: e1 :: e2 :: e3 :: e4 :: e5 :: e6 :: e7 :: e8 :: ((P ++ R) ++ own) := by
  intro p hp
  simp only [List.cons_append, List.nil_append, List.mem_cons, List.mem_append] at hp ⊢
  rcases hp with h | h | h | h | h | h | h | h | h | h | h | h <;> simp [h]
theorem CellIn.to {news news' : Led} {v : Value} {x : Option Int} (h : CellIn news v x) (hs : ∀ a vs, (a, tupOf vs) ∈ news → (a, tupOf vs) ∈ news') : CellIn news' v x :=
  let ⟨c, e, vp, vq, tw, es, a, b, d, f⟩ := h; ⟨c, e, vp, vq, tw, es, a, hs _ _ b, hs _ _ d, f⟩
theorem tup_strip {a b : Addr} {vs : List Value} {o : Obj} {r : Led} (h : (a, tupOf vs) ∈ (b, o) :: r) (ho : ∀ vs, o ≠ tupOf vs) : (a, tupOf vs) ∈ r := by
  rcases List.mem_cons.mp h with e | h
  · exact absurd (congrArg Prod.snd e).symm (ho vs)
  · exact h
theorem list_ntup {vs : Array Value} {n : Nat} : ∀ ws, listOf vs n ≠ tupOf ws := fun ws h => by
  have := congrArg Obj.cls h
  simp at this
theorem dict_ntup {es : List DictEntry} {n : Nat} : ∀ ws, dictOf es n ≠ tupOf ws := fun ws h => by
  have := congrArg Obj.cls h
  simp at this
theorem Deck.ntup {w : World} {lf : Addr} {ol od : Obj} (D : Deck w lf ol od) : (∀ ws, ol ≠ tupOf ws) ∧ ∀ ws, od ≠ tupOf ws := by
  obtain ⟨vs, ns, n, M, t, rfl, -, -, hdd, -, -⟩ := D
  have hdc : od.cls = .type "dict" := hdd.choose_spec.choose_spec.1.1
  refine ⟨list_ntup, fun ws h => ?_⟩
  have := congrArg Obj.cls h
  rw [hdc] at this
  simp at this
theorem cell_ntup {oc : Obj} {v : Option Value} (h : oc.data = .cell v) : ∀ ws, oc ≠ tupOf ws := fun ws e => by
  rw [e] at h
  simp at h
theorem law_led {h₀ h : Heap} {L lf dk sg jr hl c0 : Addr} {a b c d : Addr × Obj} {ol od os oj oh oc : Obj} {own tail r1 r2 r3 r4 r5 r6 : Led} (N : News h₀ L h (a :: b :: c :: d :: (own ++ tail))) (e1 : Del lf ol tail r1) (e2 : Del dk od r1 r2) (e3 : Del sg os r2 r3) (e4 : Del jr oj r3 r4) (e5 : Del hl oh r4 r5) (e6 : Del c0 oc r5 r6) :
    News h₀ L h ((lf, ol) :: (dk, od) :: (sg, os) :: (jr, oj) :: (hl, oh) :: (c0, oc) :: a :: b :: c :: d :: (own ++ r6)) := by
  have D : Dels [(lf, ol), (dk, od), (sg, os), (jr, oj), (hl, oh), (c0, oc)] tail r6 := .cons e1 (.cons e2 (.cons e3 (.cons e4 (.cons e5 (.cons e6 .nil)))))
  intro p hp
  refine N p ?_
  have q := D.sub p
  simp only [List.cons_append, List.nil_append, List.mem_cons, List.mem_append] at hp q ⊢
  rcases hp with h | h | h | h | h | h | h | h | h | h | h | h
  · exact .inr (.inr (.inr (.inr (.inr (q (.inl h))))))
  · exact .inr (.inr (.inr (.inr (.inr (q (.inr (.inl h)))))))
  · exact .inr (.inr (.inr (.inr (.inr (q (.inr (.inr (.inl h))))))))
  · exact .inr (.inr (.inr (.inr (.inr (q (.inr (.inr (.inr (.inl h)))))))))
  · exact .inr (.inr (.inr (.inr (.inr (q (.inr (.inr (.inr (.inr (.inl h))))))))))
  · exact .inr (.inr (.inr (.inr (.inr (q (.inr (.inr (.inr (.inr (.inr (.inl h)))))))))))
  · exact .inl h
  · exact .inr (.inl h)
  · exact .inr (.inr (.inl h))
  · exact .inr (.inr (.inr (.inl h)))
  · exact .inr (.inr (.inr (.inr (.inl h))))
  · exact .inr (.inr (.inr (.inr (.inr (q (.inr (.inr (.inr (.inr (.inr (.inr h)))))))))))
theorem off_nine {q1 q2 q3 q4 q5 q6 q7 q8 q9 : Addr × Obj} {x : Addr} (h : ∀ q ∈ [q1, q2, q3, q4, q5, q6, q7, q8, q9], @Ne Nat q.1 x) : @Ne Nat q1.1 x ∧ @Ne Nat q2.1 x ∧ @Ne Nat q3.1 x ∧ @Ne Nat q4.1 x ∧ @Ne Nat q5.1 x ∧ @Ne Nat q6.1 x ∧ @Ne Nat q7.1 x ∧ @Ne Nat q8.1 x ∧ @Ne Nat q9.1 x :=
  ⟨h _ (.head _), h _ (.tail _ (.head _)), h _ (.tail _ (.tail _ (.head _))), h _ (.tail _ (.tail _ (.tail _ (.head _)))), h _ (.tail _ (.tail _ (.tail _ (.tail _ (.head _))))), h _ (.tail _ (.tail _ (.tail _ (.tail _ (.tail _ (.head _)))))), h _ (.tail _ (.tail _ (.tail _ (.tail _ (.tail _ (.tail _ (.head _))))))), h _ (.tail _ (.tail _ (.tail _ (.tail _ (.tail _ (.tail _ (.tail _ (.head _)))))))), h _ (.tail _ (.tail _ (.tail _ (.tail _ (.tail _ (.tail _ (.tail _ (.tail _ (.head _))))))))) ⟩
theorem addr_intro (c0 lf dk sg jr hi hl gr dl0 cl0 ln0 dl1 cl1 ln1 : Nat) : ∃ a : LawAddr, c0 = a.c0 ∧ lf = a.lf ∧ dk = a.dk ∧ sg = a.sg ∧ jr = a.jr ∧ hi = a.hi ∧ hl = a.hl ∧ gr = a.gr ∧ dl0 = a.dl0 ∧ cl0 = a.cl0 ∧ ln0 = a.ln0 ∧ dl1 = a.dl1 ∧ cl1 = a.cl1 ∧ ln1 = a.ln1 :=
  ⟨⟨c0, lf, dk, sg, jr, hi, hl, gr, dl0, cl0, ln0, dl1, cl1, ln1⟩, rfl, rfl, rfl, rfl, rfl, rfl, rfl, rfl, rfl, rfl, rfl, rfl, rfl, rfl⟩
theorem c0_of {h₀ h : Heap} {L x : Addr} {oc : Obj} (_N : News h₀ L h [(x, oc)]) : ∃ c0 : Nat, x = c0 := ⟨x, rfl⟩
theorem mem_tail3 {own base : Led} {x y z : Addr × Obj} (h : own ++ [x, y, z] = base) : x ∈ base ∧ y ∈ base ∧ ∀ p ∈ own, p ∈ base := by
  subst h
  exact ⟨List.mem_append_right _ (.head _), List.mem_append_right _ (.tail _ (.head _)), fun p hp => List.mem_append_left _ hp⟩
theorem stage_next {a : LawAddr} {M k hk : Nat} {pe0 pe1 pend : Led} {gd : List Value} (hst : Stage a M pe0 pe1 k pend gd hk) (hkn : k < M + 2) : ∃ pend' gd' hk', Stage a M pe0 pe1 (k + 1) pend' gd' hk' ∧
    ((k < M ∧ pend = pend' ∧ gd = [] ∧ gd' = gd ∧ hk = k ∧ hk' = k + 1) ∨ (k = M ∧ pend = pe0 ++ pend' ∧ pend' = pe1 ∧ gd' = gd ++ [Value.ref a.ln0] ∧ hk' = hk) ∨ (k = M + 1 ∧ pend = pe1 ++ pend' ∧ pend' = [] ∧ gd' = gd ++ [Value.ref a.ln1] ∧ hk' = hk)) := by
  rcases hst with ⟨h1, rfl, rfl, rfl⟩ | ⟨rfl, rfl, rfl, rfl⟩ | ⟨rfl, rfl, rfl, rfl⟩
  · by_cases hkM : hk = M
    · exact ⟨_, _, M, .inr (.inl ⟨by omega, rfl, rfl, rfl⟩), .inr (.inl ⟨hkM, rfl, rfl, rfl, hkM.symm⟩)⟩
    · exact ⟨_, _, _, .inl ⟨by omega, rfl, rfl, rfl⟩, .inl ⟨by omega, rfl, rfl, rfl, rfl, rfl⟩⟩
  · exact ⟨_, _, _, .inr (.inr ⟨rfl, rfl, rfl, rfl⟩), .inr (.inr ⟨rfl, by simp, rfl, rfl, rfl⟩)⟩
  · omega

end
end Mine
namespace Mine
section
theorem base61 : True := by
  k_with_none
  k_with "execs cons" => (k_here; (with_reducible refine wpAny_execs_cons ?_); (try dsimp only); k_fold)
  k_with "ne" => (first | with_reducible assumption | with_reducible exact Ne.symm (by with_reducible assumption) | with_reducible exact Nat.ne_of_gt (by with_reducible assumption) | with_reducible exact Nat.ne_of_lt (by with_reducible assumption) | with_reducible exact neu (by with_reducible assumption) | with_reducible exact neu' (by with_reducible assumption) | with_reducible exact neu2 (by with_reducible assumption) | with_reducible exact neu2' (by with_reducible assumption) | with_reducible exact Nat.ne_of_lt sl1 | with_reducible exact Nat.ne_of_lt sl2 | with_reducible exact Nat.ne_of_lt sl3 | with_reducible exact Nat.ne_of_lt sl4 | with_reducible exact Nat.ne_of_lt sl5 | with_reducible exact Nat.ne_of_gt sl1 | with_reducible exact Nat.ne_of_gt sl2 | with_reducible exact Nat.ne_of_gt sl3 | with_reducible exact Nat.ne_of_gt sl4 | with_reducible exact Nat.ne_of_gt sl5 | omega)
  k_with "lt2" => omega
  k_with "lt0" => (first | with_reducible assumption | omega)
  k_with "lt1" => omega
  k_with "om" => (first | with_reducible assumption | with_reducible exact Nat.le_of_ble_eq_true (by decide) | with_reducible exact ci0 | with_reducible exact ci1 | with_reducible exact cz0 (by with_reducible assumption) | with_reducible exact cz1 (by with_reducible assumption) | with_reducible exact cz2 (by with_reducible assumption) | with_reducible exact cz3 (by with_reducible assumption) | with_reducible exact lb1 (by with_reducible assumption) (by decide) | with_reducible exact lb4 (by with_reducible assumption) (by decide) | with_reducible exact lb2 (by with_reducible assumption) (by with_reducible assumption) (by decide) | with_reducible exact lb5 (by with_reducible assumption) (by with_reducible assumption) (by decide) | with_reducible exact ci4 (by with_reducible assumption) (by decide) | with_reducible exact ci5 (by with_reducible assumption) (by decide) | with_reducible exact cz4 (by with_reducible assumption) (by with_reducible assumption) | with_reducible exact cz5 (by with_reducible assumption) (by with_reducible assumption) | with_reducible exact cz6 (by with_reducible assumption) (by with_reducible assumption) (by with_reducible assumption) (by decide) | with_reducible exact lp1 (by with_reducible assumption) (by decide) | with_reducible exact le1 (by with_reducible assumption) | with_reducible exact le2 (by with_reducible assumption) | with_reducible exact Nat.le_succ _ | with_reducible exact leu (by with_reducible assumption) | with_reducible exact leu2 (by with_reducible assumption) | with_reducible exact zb1 (by with_reducible assumption) (by decide) | with_reducible exact zb2 (by with_reducible assumption) | with_reducible exact zb3 (by with_reducible assumption) (by decide) | with_reducible exact un1 (by with_reducible assumption) | with_reducible exact sl1 | with_reducible exact sl2 | with_reducible exact sl3 | with_reducible exact sl4 | with_reducible exact sl5 | omega)
  k_with "lt" => (first | with_reducible assumption | omega)
  trivial
theorem pack_ln {a b c d e i0 i1 i2 i3 i4 i5 i6 : Addr × Obj} {P R : Led} : ∀ p ∈ i0 :: i1 :: i2 :: i3 :: i4 :: i5 :: i6 :: a :: b :: (P ++ (c :: d :: e :: R)), p ∈ a :: b :: c :: d :: e :: i0 :: i1 :: i2 :: i3 :: i4 :: i5 :: i6 :: (P ++ R) := by
  intro p hp
  simp only [List.mem_cons, List.mem_append] at hp ⊢
  rcases hp with h | h | h | h | h | h | h | h | h | h | h | h | h | h <;> simp [h]
section
variable {w : World} {a : LawAddr} {g h : Heap} {L I M k : Nat} {oI oc ol od osg ojr ohl : Obj} {mv rv : Value} {s : Shared} {pend rest : Led} {tk : Nat} {u : Str → Option Value}
theorem lnReadyA {ln dl cl c e n1 n2 : Nat} {sz vp vq : Value} {t1 t2 t3 tw : Tok} (O : LawOrd a I) (hoff : ∀ p ∈ rest, OffA a I M k p.1) (hk : k < M) (F : Fr g L h (rowFrame a mv rv ln u))
    (N : News g L h ((cl, listOf [Value.ref c, .ref c, .ref c, .ref c].toArray n2) :: (dl, dictOf (lineDict w.params t1 t2 t3 cl false sz) n1) :: (ln, instObj 338 dl) :: (c, tupOf [.ref e, .int 1 tw, vp, vq]) :: (e, tupOf []) :: (I, oI) :: (a.lf, ol) :: (a.dk, od) :: (a.sg, osg) :: (a.jr, ojr) :: (a.hl, ohl) :: (a.c0, oc) :: (pend ++ rest)))
    (q1 : I < dl) (q0 : AllLt dl (pend ++ rest)) (q2 : dl < ln) (q3 : ln < e) (q4 : e < c) (q5 : c < cl) :
    LnReady w a g L I M k oI oc ol od osg ojr ohl mv rv s pend rest { s with heap := h, toks := tk } := by
  have hI := O.all
  have l1 := Nat.lt_trans q2 q3
  have l2 := Nat.lt_trans q3 q4
  have l3 := Nat.lt_trans q1 q2
  have l4 := Nat.lt_trans q4 q5
  have l5 := Nat.lt_trans l1 q4
  have l6 := Nat.lt_trans l5 q5
  refine ⟨h, tk, u, ln, dl, cl, n1, n2, .ref c, .ref c, .ref c, .ref c, sz, t1, t2, t3, (ln, instObj 338 dl) :: (c, tupOf [.ref e, .int 1 tw, vp, vq]) :: (e, tupOf []) :: rest, rfl, F, fun p hp => N p (pack_ln p hp), .head _, ?_, ?_, ?_, ?_, fun p hp => .tail _ (.tail _ (.tail _ hp)), ?_, offA_gt O q1, offA_gt O (Nat.lt_trans q1 l6), ?_, Nat.lt_trans hI.2.2.2.2.2.1 q1, l6, Nat.ne_of_gt q1, Nat.ne_of_gt (Nat.lt_trans q1 l6), fun h => absurd h (Nat.ne_of_lt hk), fun h => absurd h (Nat.ne_of_lt (Nat.lt_succ_of_lt hk))⟩
  · exact cellIn_blank (.tail _ (.head _)) (.tail _ (.tail _ (.head _)))
  · exact cellIn_blank (.tail _ (.head _)) (.tail _ (.tail _ (.head _)))
  · exact cellIn_blank (.tail _ (.head _)) (.tail _ (.tail _ (.head _)))
  · exact cellIn_blank (.tail _ (.head _)) (.tail _ (.tail _ (.head _)))
  · intro p hp
    simp only [List.mem_cons] at hp
    rcases hp with rfl | rfl | rfl | hp
    · exact offA_gt O l3
    · exact offA_gt O (Nat.lt_trans l3 l2)
    · exact offA_gt O (Nat.lt_trans l3 q3)
    · exact (hoff p hp).succ
  · intro p hp
    simp only [List.mem_append, List.mem_cons] at hp
    rcases hp with hp | rfl | rfl | rfl | hp
    · have := ltN (allLt_mem q0 p (List.mem_append_left _ hp))
      exact ⟨Nat.ne_of_lt this, Nat.ne_of_lt (Nat.lt_trans this l6)⟩
    · exact ⟨Nat.ne_of_gt q2, Nat.ne_of_lt (Nat.lt_trans l2 q5)⟩
    · exact ⟨Nat.ne_of_gt l5, Nat.ne_of_lt q5⟩
    · exact ⟨Nat.ne_of_gt l1, Nat.ne_of_lt l4⟩
    · have := ltN (allLt_mem q0 p (List.mem_append_right _ hp))
      exact ⟨Nat.ne_of_lt this, Nat.ne_of_lt (Nat.lt_trans this l6)⟩
theorem lnReady0 {b z : Value} {m0 k0 : Nat} {t1 t2 t3 : Tok} (O : LawOrd a I) (hoff : ∀ p ∈ rest, OffA a I M k p.1) (hk : k = M) (hp : ∀ p ∈ pend, @Eq Nat p.1 a.dl1 ∨ @Eq Nat p.1 a.cl1) (F : Fr g L h (rowFrame a mv rv a.ln0 u)) (hl : (a.ln0, instObj 338 a.dl0) ∈ rest) (hb : CellIn rest b (some 0))
    (N : News g L h ((I, oI) :: (a.lf, ol) :: (a.dk, od) :: (a.sg, osg) :: (a.jr, ojr) :: (a.hl, ohl) :: (a.c0, oc) :: (pendOf w.params a.cl0 a.dl0 b z m0 k0 t1 t2 t3 ++ pend ++ rest))) :
    LnReady w a g L I M k oI oc ol od osg ojr ohl mv rv s pend rest { s with heap := h, toks := tk } := by
  subst hk
  have hI := O.all
  have h4 := O.four
  have s0 := O.six (Nat.le_refl _) hI.2.2.2.2.2.2.1
  have s1 := O.six h4.1 hI.2.2.2.2.2.2.2.1
  have nk : ∀ {X : Prop}, k + 1 ≤ k → X := fun e => absurd e (Nat.not_succ_le_self _)
  refine ⟨h, tk, u, a.ln0, a.dl0, a.cl0, k0, m0, b, b, b, b, z, t1, t2, t3, rest, rfl, F, N, hl, hb, hb, hb, hb, fun p hp => hp, fun p hp => (hoff p hp).succ, ⟨s0.1, s0.2.1, s0.2.2.1, s0.2.2.2.1, s0.2.2.2.2.1, s0.2.2.2.2.2.1, s0.2.2.2.2.2.2, nk, fun _ => ⟨Nat.ne_of_lt h4.2.2.2.1, Nat.ne_of_lt h4.2.2.2.2.1⟩⟩, ⟨s1.1, s1.2.1, s1.2.2.1, s1.2.2.2.1, s1.2.2.2.2.1, s1.2.2.2.2.2.1, s1.2.2.2.2.2.2, nk, fun _ => ⟨Nat.ne_of_lt O.o9, Nat.ne_of_lt h4.2.2.2.2.2⟩⟩, ?_, O.o7, O.o8, s0.1, s1.1, fun _ => rfl, fun h => absurd h (Nat.ne_of_lt (Nat.lt_succ_self _))⟩
  intro p hpp
  rcases List.mem_append.mp hpp with h | h
  · rcases hp p h with e | e
    · exact ⟨Nat.ne_of_gt (Nat.lt_of_lt_of_eq h4.2.2.2.1 e.symm), Nat.ne_of_gt (Nat.lt_of_lt_of_eq O.o9 e.symm)⟩
    · exact ⟨Nat.ne_of_gt (Nat.lt_of_lt_of_eq h4.2.2.2.2.1 e.symm), Nat.ne_of_gt (Nat.lt_of_lt_of_eq h4.2.2.2.2.2 e.symm)⟩
  · exact (hoff p h).2.2.2.2.2.2.2.1 (Nat.le_refl _)
theorem lnReady1 {b z : Value} {m0 k0 : Nat} {t1 t2 t3 : Tok} (O : LawOrd a I) (hoff : ∀ p ∈ rest, OffA a I M k p.1) (hk : k = M + 1) (F : Fr g L h (rowFrame a mv rv a.ln1 u)) (hl : (a.ln1, instObj 338 a.dl1) ∈ rest) (hb : CellIn rest b (some 0))
    (N : News g L h ((I, oI) :: (a.lf, ol) :: (a.dk, od) :: (a.sg, osg) :: (a.jr, ojr) :: (a.hl, ohl) :: (a.c0, oc) :: (pendOf w.params a.cl1 a.dl1 b z m0 k0 t1 t2 t3 ++ [] ++ rest))) :
    LnReady w a g L I M k oI oc ol od osg ojr ohl mv rv s [] rest { s with heap := h, toks := tk } := by
  subst hk
  have hI := O.all
  have h4 := O.four
  have s0 := O.six h4.2.1 hI.2.2.2.2.2.2.2.2.1
  have s1 := O.six h4.2.2.1 hI.2.2.2.2.2.2.2.2.2
  have nk : ∀ {X : Prop}, M + 1 + 1 ≤ M + 1 → X := fun e => absurd e (Nat.not_succ_le_self _)
  have nj : ∀ {X : Prop}, M + 1 + 1 ≤ M → X := fun e => absurd (Nat.le_of_succ_le e) (Nat.not_succ_le_self _)
  refine ⟨h, tk, u, a.ln1, a.dl1, a.cl1, k0, m0, b, b, b, b, z, t1, t2, t3, rest, rfl, F, N, hl, hb, hb, hb, hb, fun p hp => hp, fun p hp => (hoff p hp).succ, ⟨s0.1, s0.2.1, s0.2.2.1, s0.2.2.2.1, s0.2.2.2.2.1, s0.2.2.2.2.2.1, s0.2.2.2.2.2.2, nj, nk⟩, ⟨s1.1, s1.2.1, s1.2.2.1, s1.2.2.2.1, s1.2.2.2.2.1, s1.2.2.2.2.2.1, s1.2.2.2.2.2.2, nj, nk⟩, ?_, Nat.lt_of_lt_of_le O.o7 h4.2.1, O.o10, s0.1, s1.1, fun h => absurd h (Nat.ne_of_gt (Nat.lt_succ_self _)), fun _ => rfl⟩
  intro p hpp
  exact (hoff p hpp).2.2.2.2.2.2.2.2 (Nat.le_refl _)
end
section
variable {w : World} {loose : List Str} {mean : ExcName → Option Value} {mg mb : Str → Option Value}
theorem rules61_1 : True := by
  k_with "k_enter" => ((refine' code_def ?q232k1 ?q232k2 ?q232k3 ?q232k4 ?q232k5 ?q232kA ?q232kF ?q232kK ?q232k6 ?q232k7 ?q232k8 ?q232k9 ?q232kB ?_ ?q232c2 ?q232c3 ?q232c4 ?q232c5; (case q232kA => exact rfl); (case q232kF => assumption); (case q232kK => assumption); (case q232k1 => k_asm); (case q232k2 => k_asm); (case q232k3 => k_asm); (case q232k4 => k_asm); (case q232k5 => k_asm); (case q232k6 => k_is); (case q232k7 => k_is); (case q232k8 => k_room); (case q232k9 => first | exact BindsTo.of_eq rfl | exact binds_K (by k_in) rfl (by k_is) rfl rfl rfl); (case q232c5 => decide); (case q232kB => exact locs rfl); (case q232c2 => exact rfl); (case q232c3 => exact rfl); (case q232c4 => exact rfl); k_whole; intro _ _ _ _ _ _ B' _ _; (try dsimp only); (try k_lift B'); (try k_fold)))
  k_with "eval Name" => ((k_dflt (first
  | (refine' nameX_L ?q233F ?q233v ?_ ?q233a ?q233b; (case q233F => k_asm); (case q233a => exact rfl); (case q233b => exact rfl); (case q233v => exact rfl); k_whole)
  | (refine' nameX_K ?q233F ?q233X ?q233T ?q233e ?_ ?q233a ?q233b; (case q233F => k_asm); (case q233X => k_asm); (case q233T => k_asm); (case q233a => exact rfl); (case q233b => exact rfl); (case q233e => k_is); k_whole))))
  k_with "k_mem" => (((repeat (refine' List.mem_cons_of_mem _ ?_)); with_reducible assumption))
  k_with "subscriptTail Name Constant ref int" => ((k_dflt (refine tup_at (by k_asm) (by k_mem) (by decide) (by decide) (by rfl) ?_)))
  k_with "subscriptTail Subscript Constant ref int" => ((k_dflt (refine tup_at (by k_asm) (by k_mem) (by decide) (by decide) (by rfl) ?_)))
  k_with "ite" => ((first | (refine ite_pos (by with_reducible assumption) ?_) | (refine ite_neg (by with_reducible assumption) ?_) | (refine ite_pos (by simp only [beq_iff_eq, bne_iff_ne, beq_eq_false_iff_ne, decide_eq_true_eq, decide_eq_false_iff_not, Bool.not_eq_true', Bool.not_eq_false']; omega) ?_) | (refine ite_neg (by simp only [beq_iff_eq, bne_iff_ne, beq_eq_false_iff_ne, decide_eq_true_eq, decide_eq_false_iff_not, Bool.not_eq_true', Bool.not_eq_false']; omega) ?_)))
  k_with "subscriptTail" => ((k_here; (with_reducible show wpAny _ _ (subscriptTail _ _ (Value.ref _) (Value.int _ _)) _ _ _); k_dflt (refine list_at (by k_asm) (by k_mem) (by assumption) (by omega) (by assumption) ?_)))
  trivial
theorem gline_spec {gr dg gl : Addr} {gvs : List Value} {news : Led} {i : Int} {t t1 t2 t3 : Tok} {v v1 v2 : Value} {n1 n2 : Nat} (m1 : (gr, instObj 489 dg) ∈ news) (m2 : (dg, dictOf (gridDict w.params t1 t2 t3 v1 v2 gl) n1) ∈ news) (m3 : (gl, listOf gvs.toArray n2) ∈ news) (h0 : 0 ≤ i) (h1 : i < 100) (hx : gvs[i.toNat]? = some v) :
    Spec w loose mean mg mb 560 560 361 [.ref gr, .int i t] news (fun v' n' => v' = v ∧ n' = news) := by
  intro gd env outer A₀ base h₀ L m s Q E hf hk B F X N T hret
  refine wpAny_call ?_
  k_dflt (refine' code_def ?k1 ?k2 ?k3 ?k4 ?k5 ?kA ?kF ?kK ?k6 ?k7 ?k8 ?k9 ?kB ?_ ?c2 ?c3 ?c4 ?c5; (case kA => exact rfl); (case kF => assumption); (case kK => assumption); (case k1 => k_asm); (case k2 => k_asm); (case k3 => k_asm); (case k4 => k_asm); (case k5 => k_asm); (case k6 => k_is); (case k7 => k_is); (case k8 => k_room); (case k9 => first | exact BindsTo.of_eq rfl | exact binds_K (by k_in) rfl (by k_is) rfl rfl rfl); (case c5 => decide); (case kB => exact locs rfl); (case c2 => exact rfl); (case c3 => exact rfl); (case c4 => exact rfl); k_whole); intro g1 L1 h1 FG1 F1 N1 B1 X1 T1; (try dsimp only); (try k_lift B1); (try k_fold)
  k_steps
  exact hret _ _ _ _ ⟨rfl, rfl⟩ (by k_asm) (by k_asm)
end
theorem pend_adr {P : Params} {cl dl : Nat} {b z : Value} {m k : Nat} {t1 t2 t3 : Tok} : ∀ p ∈ pendOf P cl dl b z m k t1 t2 t3, @Eq Nat p.1 dl ∨ @Eq Nat p.1 cl := by
  intro p hp
  simp only [List.mem_cons, List.not_mem_nil, or_false] at hp
  rcases hp with rfl | rfl
  · exact .inr rfl
  · exact .inl rfl

end
end Mine
namespace Mine
section
theorem base62 : True := by
  k_with_none
  k_with "execs cons" => (k_here; (with_reducible refine wpAny_execs_cons ?_); (try dsimp only); k_fold)
  k_with "ne" => (first | with_reducible assumption | with_reducible exact Ne.symm (by with_reducible assumption) | with_reducible exact Nat.ne_of_gt (by with_reducible assumption) | with_reducible exact Nat.ne_of_lt (by with_reducible assumption) | with_reducible exact neu (by with_reducible assumption) | with_reducible exact neu' (by with_reducible assumption) | with_reducible exact neu2 (by with_reducible assumption) | with_reducible exact neu2' (by with_reducible assumption) | with_reducible exact Nat.ne_of_lt sl1 | with_reducible exact Nat.ne_of_lt sl2 | with_reducible exact Nat.ne_of_lt sl3 | with_reducible exact Nat.ne_of_lt sl4 | with_reducible exact Nat.ne_of_lt sl5 | with_reducible exact Nat.ne_of_gt sl1 | with_reducible exact Nat.ne_of_gt sl2 | with_reducible exact Nat.ne_of_gt sl3 | with_reducible exact Nat.ne_of_gt sl4 | with_reducible exact Nat.ne_of_gt sl5 | omega)
  k_with "lt2" => omega
  k_with "lt0" => (first | with_reducible assumption | omega)
  k_with "lt1" => omega
  k_with "om" => (first | with_reducible assumption | with_reducible exact Nat.le_of_ble_eq_true (by decide) | with_reducible exact ci0 | with_reducible exact ci1 | with_reducible exact cz0 (by with_reducible assumption) | with_reducible exact cz1 (by with_reducible assumption) | with_reducible exact cz2 (by with_reducible assumption) | with_reducible exact cz3 (by with_reducible assumption) | with_reducible exact lb1 (by with_reducible assumption) (by decide) | with_reducible exact lb4 (by with_reducible assumption) (by decide) | with_reducible exact lb2 (by with_reducible assumption) (by with_reducible assumption) (by decide) | with_reducible exact lb5 (by with_reducible assumption) (by with_reducible assumption) (by decide) | with_reducible exact ci4 (by with_reducible assumption) (by decide) | with_reducible exact ci5 (by with_reducible assumption) (by decide) | with_reducible exact cz4 (by with_reducible assumption) (by with_reducible assumption) | with_reducible exact cz5 (by with_reducible assumption) (by with_reducible assumption) | with_reducible exact cz6 (by with_reducible assumption) (by with_reducible assumption) (by with_reducible assumption) (by decide) | with_reducible exact lp1 (by with_reducible assumption) (by decide) | with_reducible exact le1 (by with_reducible assumption) | with_reducible exact le2 (by with_reducible assumption) | with_reducible exact Nat.le_succ _ | with_reducible exact leu (by with_reducible assumption) | with_reducible exact leu2 (by with_reducible assumption) | with_reducible exact zb1 (by with_reducible assumption) (by decide) | with_reducible exact zb2 (by with_reducible assumption) | with_reducible exact zb3 (by with_reducible assumption) (by decide) | with_reducible exact un1 (by with_reducible assumption) | with_reducible exact sl1 | with_reducible exact sl2 | with_reducible exact sl3 | with_reducible exact sl4 | with_reducible exact sl5 | omega)
  k_with "lt" => (first | with_reducible assumption | omega)
  trivial
theorem stage_adr {P : Params} {a : LawAddr} {M k hk : Nat} {pend : Led} {gd : List Value} {b0 z0 b1 z1 : Value} {m0 k0 m1 k1 : Nat} {x1 x2 x3 y1 y2 y3 : Tok} (hst : Stage a M (pendOf P a.cl0 a.dl0 b0 z0 m0 k0 x1 x2 x3) (pendOf P a.cl1 a.dl1 b1 z1 m1 k1 y1 y2 y3) k pend gd hk) :
    ∀ p ∈ pend, (@Eq Nat p.1 a.dl0 ∨ @Eq Nat p.1 a.cl0 ∨ @Eq Nat p.1 a.dl1 ∨ @Eq Nat p.1 a.cl1) ∧ ∀ ws, p.2 ≠ tupOf ws := by
  intro p hp
  rcases hst with ⟨-, rfl, -, -⟩ | ⟨-, rfl, -, -⟩ | ⟨-, rfl, -, -⟩
  · simp only [List.cons_append, List.nil_append, List.mem_cons, List.not_mem_nil, or_false] at hp
    rcases hp with rfl | rfl | rfl | rfl
    · exact ⟨.inr (.inl rfl), list_ntup⟩
    · exact ⟨.inl rfl, dict_ntup⟩
    · exact ⟨.inr (.inr (.inr rfl)), list_ntup⟩
    · exact ⟨.inr (.inr (.inl rfl)), dict_ntup⟩
  · simp only [List.mem_cons, List.not_mem_nil, or_false] at hp
    rcases hp with rfl | rfl
    · exact ⟨.inr (.inr (.inr rfl)), list_ntup⟩
    · exact ⟨.inr (.inr (.inl rfl)), dict_ntup⟩
  · exact nomatch hp
/-- an address is off those that stand written out -/
def OffE (a : LawAddr) (I dl cl x : Nat) : Prop := x ≠ I ∧ x ≠ a.lf ∧ x ≠ a.dk ∧ x ≠ a.sg ∧ x ≠ a.jr ∧ x ≠ a.hl ∧ x ≠ a.c0 ∧ x ≠ cl ∧ x ≠ dl
theorem tail_off {P : Params} {a : LawAddr} {I M k hk dl cl : Nat} {pend R : Led} {gd : List Value} {b0 z0 b1 z1 : Value} {m0 k0 m1 k1 : Nat} {x1 x2 x3 y1 y2 y3 : Tok} (O : LawOrd a I) (hst : Stage a M (pendOf P a.cl0 a.dl0 b0 z0 m0 k0 x1 x2 x3) (pendOf P a.cl1 a.dl1 b1 z1 m1 k1 y1 y2 y3) (k + 1) pend gd hk)
    (hoffR : ∀ p ∈ R, OffA a I M (k + 1) p.1) (hoffT : ∀ p ∈ pend ++ R, @Ne Nat p.1 dl ∧ @Ne Nat p.1 cl) : ∀ p ∈ pend ++ R, OffE a I dl cl p.1 := by
  have hI := O.all
  have h4 := O.four
  intro p hp
  have q := hoffT p hp
  rcases List.mem_append.mp hp with h | h
  · have s : p.1 ≠ I ∧ p.1 ≠ a.c0 ∧ p.1 ≠ a.lf ∧ p.1 ≠ a.dk ∧ p.1 ≠ a.sg ∧ p.1 ≠ a.jr ∧ p.1 ≠ a.hl := by
      rcases (stage_adr hst p h).1 with e | e | e | e
      · exact O.six (Nat.le_of_eq e.symm) (by rw [e]; exact hI.2.2.2.2.2.2.1)
      · exact O.six (Nat.le_trans h4.1 (Nat.le_of_eq e.symm)) (by rw [e]; exact hI.2.2.2.2.2.2.2.1)
      · exact O.six (Nat.le_trans h4.2.1 (Nat.le_of_eq e.symm)) (by rw [e]; exact hI.2.2.2.2.2.2.2.2.1)
      · exact O.six (Nat.le_trans h4.2.2.1 (Nat.le_of_eq e.symm)) (by rw [e]; exact hI.2.2.2.2.2.2.2.2.2)
    exact ⟨s.1, s.2.2.1, s.2.2.2.1, s.2.2.2.2.1, s.2.2.2.2.2.1, s.2.2.2.2.2.2, s.2.1, q.2, q.1⟩
  · have e := hoffR p h
    exact ⟨e.1, e.2.2.1, e.2.2.2.1, e.2.2.2.2.1, e.2.2.2.2.2.1, e.2.2.2.2.2.2.1, e.2.1, q.2, q.1⟩
theorem OffE.news {a : LawAddr} {I dl cl : Nat} {T : Led} (h : ∀ p ∈ T, OffE a I dl cl p.1) : (∀ p ∈ T, p.1 ≠ I) ∧ (∀ p ∈ T, p.1 ≠ a.lf) ∧ (∀ p ∈ T, p.1 ≠ a.dk) ∧ (∀ p ∈ T, p.1 ≠ a.sg) ∧ (∀ p ∈ T, p.1 ≠ a.jr) ∧ (∀ p ∈ T, p.1 ≠ a.hl) ∧ (∀ p ∈ T, p.1 ≠ a.c0) ∧ (∀ p ∈ T, p.1 ≠ cl) ∧ (∀ p ∈ T, p.1 ≠ dl) :=
  ⟨fun p hp => (h p hp).1, fun p hp => (h p hp).2.1, fun p hp => (h p hp).2.2.1, fun p hp => (h p hp).2.2.2.1, fun p hp => (h p hp).2.2.2.2.1, fun p hp => (h p hp).2.2.2.2.2.1, fun p hp => (h p hp).2.2.2.2.2.2.1, fun p hp => (h p hp).2.2.2.2.2.2.2.1, fun p hp => (h p hp).2.2.2.2.2.2.2.2⟩
theorem cells_strip {e0 e1 e2 e3 e4 e5 e6 e7 e8 : Addr × Obj} {P R own : Led} {cs : List Value} {xs : List (Option Int)} (h : All2 (CellIn (e0 :: e1 :: e2 :: e3 :: e4 :: e5 :: e6 :: e7 :: e8 :: ((P ++ R) ++ own))) cs xs)
    (h0 : ∀ ws, e0.2 ≠ tupOf ws) (h1 : ∀ ws, e1.2 ≠ tupOf ws) (h2 : ∀ ws, e2.2 ≠ tupOf ws) (h3 : ∀ ws, e3.2 ≠ tupOf ws) (h4 : ∀ ws, e4.2 ≠ tupOf ws) (h5 : ∀ ws, e5.2 ≠ tupOf ws) (h6 : ∀ ws, e6.2 ≠ tupOf ws) (h7 : ∀ ws, e7.2 ≠ tupOf ws) (h8 : ∀ ws, e8.2 ≠ tupOf ws)
    (hP : ∀ p ∈ P, ∀ ws, p.2 ≠ tupOf ws) : All2 (CellIn (R ++ own)) cs xs := by
  refine h.mono fun v x hc => hc.to fun b vs hm => ?_
  have q := tup_strip (tup_strip (tup_strip (tup_strip (tup_strip (tup_strip (tup_strip (tup_strip (tup_strip hm h0) h1) h2) h3) h4) h5) h6) h7) h8
  rw [List.append_assoc] at q
  rcases List.mem_append.mp q with q | q
  · exact absurd rfl (hP _ q vs)
  · exact q
theorem cls_ntup {o : Obj} {c : String} (h : o.cls = .type c) (hc : c ≠ "tuple") : ∀ ws, o ≠ tupOf ws := fun ws e => by
  rw [e] at h
  simp at h
  exact hc h.symm
theorem row_end {w : World} {a : LawAddr} {g h : Heap} {L I M k n1 n2 ns nj nh hk' nt tk : Nat} {ol od oI oc : Obj} {mv : Value} {base pend rest R own : Led} {svs hvs hvs' gd gd' cs tv : List Value} {rows : Rows} {xs : List (Option Int)} {b : Bool} {sz b0 z0 b1 z1 : Value} {t1 t2 t3 x1 x2 x3 y1 y2 y3 : Tok} {m0 k0 m1 k1 ln dl cl tl : Nat}
    {m : Str → Option Value} {s₁ : Shared} (O : LawOrd a I) (hkn : k < M + 2) (hst : Stage a M (pendOf w.params a.cl0 a.dl0 b0 z0 m0 k0 x1 x2 x3) (pendOf w.params a.cl1 a.dl1 b1 z1 m1 k1 y1 y2 y3) (k + 1) pend gd' hk')
    (hrl : rows.length = k) (hr4 : ∀ x ∈ rows, x.1.length = 4) (hx : xs.length = 4) (hb : k = M + 1 → b = false) (hhv : hvs'.length = hk') (D : Deck w a.lf ol od) (hsg : All2 (SignsIn rest) svs (rows.map (·.1))) (hln : All2 (LineIn w.params rest) (hvs ++ gd) rows)
    (hcase : hvs' ++ gd' = hvs ++ gd ++ [.ref ln]) (hsubB : ∀ p ∈ base, p ∈ rest) (hsubR : ∀ p ∈ rest, p ∈ R) (hlnR : (ln, instObj 338 dl) ∈ R) (hoffR : ∀ p ∈ R, OffA a I M (k + 1) p.1) (hodl : OffA a I M (k + 1) dl) (hocl : OffA a I M (k + 1) cl)
    (hown : ∀ p ∈ own, @LT.lt Nat _ I p.1) (htl : (tl, listOf tv.toArray nt) ∈ own) (htv : All2 TellV tv xs) (hcs : All2 (CellIn (R ++ own)) cs xs)
    (F : Fr g L h m) (N : News g L h ((I, oI) :: (a.lf, ol) :: (a.dk, od) :: (a.sg, listOf (svs ++ [Value.ref tl]).toArray ns) :: (a.jr, listOf ((rows.map fun x => Value.bool x.2) ++ [Value.bool b]).toArray nj) :: (a.hl, listOf hvs'.toArray nh) :: (a.c0, oc) :: (cl, listOf cs.toArray n2) :: (dl, dictOf (lineDict w.params t1 t2 t3 cl b sz) n1) :: ((pend ++ R) ++ own)))
    (e1 : m (Str.ofString "deck") = some (.ref a.dk)) (e2 : m (Str.ofString "signs") = some (.ref a.sg)) (e3 : m (Str.ofString "joined_rows") = some (.ref a.jr)) (e4 : m (Str.ofString "history") = some (.ref a.hi)) (e5 : m (Str.ofString "grid") = some (.ref a.gr)) (e6 : m (Str.ofString "many") = some mv) :
    UnrEndW g L s₁ [(I, oI)] (fun m' n' => SubL [] n' ∧ RowInv w a I M oc mv base (pendOf w.params a.cl0 a.dl0 b0 z0 m0 k0 x1 x2 x3) (pendOf w.params a.cl1 a.dl1 b1 z1 m1 k1 y1 y2 y3) (rangeItems 0 (k + 1) (M + 2 - (k + 1))) m' n') { s₁ with heap := h, toks := tk } := by
  have F3 := fr_name (fr_name (fr_name (fr_name (fr_name (fr_name F (Str.ofString "many") e6) (Str.ofString "grid") e5) (Str.ofString "history") e4) (Str.ofString "joined_rows") e3) (Str.ofString "signs") e2) (Str.ofString "deck") e1
  have sR : ∀ p ∈ R, p ∈ (dl, dictOf (lineDict w.params t1 t2 t3 cl b sz) n1) :: (cl, listOf cs.toArray n2) :: (R ++ own) := fun p hp => .tail _ (.tail _ (List.mem_append_left _ hp))
  have sRO : ∀ p ∈ R ++ own, p ∈ (dl, dictOf (lineDict w.params t1 t2 t3 cl b sz) n1) :: (cl, listOf cs.toArray n2) :: (R ++ own) := fun p hp => .tail _ (.tail _ hp)
  have hoff : ∀ p ∈ (dl, dictOf (lineDict w.params t1 t2 t3 cl b sz) n1) :: (cl, listOf cs.toArray n2) :: (R ++ own), OffA a I M (k + 1) p.1 := by
    intro p hp
    simp only [List.mem_cons, List.mem_append] at hp
    rcases hp with rfl | rfl | hp | hp
    · exact hodl
    · exact hocl
    · exact hoffR p hp
    · exact offA_gt O (hown p hp)
  refine turn_end2 F3 N row_pack ?_ trivial ⟨k + 1, pend, gd', hk', rfl, hkn, hst, rows ++ [(xs, b)], svs ++ [Value.ref tl], hvs', ol, od, ns, nj, nh, _, m, ?_, ?_, ?_, hhv, D, rfl, ?_, ?_, ?_, fun p hp => sR p (hsubR p (hsubB p hp)), hoff⟩
  · have hI := O.all
    intro q hq p hp
    obtain rfl : q = (I, oI) := by simpa using hq
    show @Ne Nat p.1 I
    simp only [List.mem_cons, List.mem_append] at hp
    rcases hp with rfl | rfl | rfl | rfl | rfl | rfl | hp | hp
    · exact Nat.ne_of_lt hI.2.1
    · exact Nat.ne_of_lt hI.2.2.1
    · exact Nat.ne_of_lt hI.2.2.2.1
    · exact Nat.ne_of_lt hI.2.2.2.2.1
    · exact Nat.ne_of_lt hI.2.2.2.2.2.1
    · exact Nat.ne_of_lt hI.1
    · rcases (stage_adr hst p hp).1 with e | e | e | e
      · exact Nat.ne_of_lt (by rw [e]; exact hI.2.2.2.2.2.2.1)
      · exact Nat.ne_of_lt (by rw [e]; exact hI.2.2.2.2.2.2.2.1)
      · exact Nat.ne_of_lt (by rw [e]; exact hI.2.2.2.2.2.2.2.2.1)
      · exact Nat.ne_of_lt (by rw [e]; exact hI.2.2.2.2.2.2.2.2.2)
    · exact (hoff p (by simpa using hp)).1
  · rw [List.length_append, hrl]; rfl
  · intro x hx'
    rcases List.mem_append.mp hx' with h | h
    · exact hr4 x h
    · obtain rfl : x = (xs, b) := by simpa using h
      exact hx
  · intro hk x hx'
    rw [List.getLast?_append] at hx'
    obtain rfl : (xs, b) = x := by simpa using hx'
    exact hb (Nat.succ.inj hk)
  · rw [List.map_append]
    rfl
  · rw [List.map_append]
    exact (hsg.mono fun _ _ h => h.mono fun p hp => sR p (hsubR p hp)).snoc ⟨tl, tv, nt, rfl, sRO _ (List.mem_append_right _ htl), htv⟩
  · rw [hcase]
    exact (hln.mono fun _ _ h => h.mono fun p hp => sR p (hsubR p hp)).snoc ⟨ln, dl, cl, n1, n2, sz, t1, t2, t3, cs, rfl, sR _ hlnR, .head _, .tail _ (.head _), hcs.mono fun _ _ h => h.mono sRO⟩
theorem own_off {a : LawAddr} {I dl cl : Nat} {oI o1 o2 o3 o4 o5 o6 o7 o8 : Obj} {T own : Led} (h : ∀ p ∈ own, AllLt p.1 ((I, oI) :: (a.lf, o1) :: (a.dk, o2) :: (a.sg, o3) :: (a.jr, o4) :: (a.hl, o5) :: (a.c0, o6) :: (cl, o7) :: (dl, o8) :: T)) : ∀ p ∈ own, OffE a I dl cl p.1 := by
  intro p hp
  obtain ⟨h1, h2, h3, h4, h5, h6, h7, h8, h9, -⟩ := h p hp
  exact ⟨Nat.ne_of_gt h1, Nat.ne_of_gt h2, Nat.ne_of_gt h3, Nat.ne_of_gt h4, Nat.ne_of_gt h5, Nat.ne_of_gt h6, Nat.ne_of_gt h7, Nat.ne_of_gt h8, Nat.ne_of_gt h9⟩
theorem put_wrapped {P : Params} {t1 t2 t3 : Tok} {cl : Addr} {b b' : Bool} {sz key : Value} {hh : Int} {n : Nat} : (putL (Str.ofString "is_wrapped") hh key (.bool b') (lineDict P t1 t2 t3 cl b sz), putN (Str.ofString "is_wrapped") (lineDict P t1 t2 t3 cl b sz) n) = (lineDict P t1 t2 t3 cl b' sz, n) := by
  rfl

end
end Mine
namespace Mine
section
theorem base63 : True := by
  k_with_none
  k_with "execs cons" => (k_here; (with_reducible refine wpAny_execs_cons ?_); (try dsimp only); k_fold)
  k_with "ne" => (first | with_reducible assumption | with_reducible exact Ne.symm (by with_reducible assumption) | with_reducible exact Nat.ne_of_gt (by with_reducible assumption) | with_reducible exact Nat.ne_of_lt (by with_reducible assumption) | with_reducible exact neu (by with_reducible assumption) | with_reducible exact neu' (by with_reducible assumption) | with_reducible exact neu2 (by with_reducible assumption) | with_reducible exact neu2' (by with_reducible assumption) | with_reducible exact Nat.ne_of_lt sl1 | with_reducible exact Nat.ne_of_lt sl2 | with_reducible exact Nat.ne_of_lt sl3 | with_reducible exact Nat.ne_of_lt sl4 | with_reducible exact Nat.ne_of_lt sl5 | with_reducible exact Nat.ne_of_gt sl1 | with_reducible exact Nat.ne_of_gt sl2 | with_reducible exact Nat.ne_of_gt sl3 | with_reducible exact Nat.ne_of_gt sl4 | with_reducible exact Nat.ne_of_gt sl5 | omega)
  k_with "lt2" => omega
  k_with "lt0" => (first | with_reducible assumption | omega)
  k_with "lt1" => omega
  k_with "om" => (first | with_reducible assumption | with_reducible exact Nat.le_of_ble_eq_true (by decide) | with_reducible exact ci0 | with_reducible exact ci1 | with_reducible exact cz0 (by with_reducible assumption) | with_reducible exact cz1 (by with_reducible assumption) | with_reducible exact cz2 (by with_reducible assumption) | with_reducible exact cz3 (by with_reducible assumption) | with_reducible exact lb1 (by with_reducible assumption) (by decide) | with_reducible exact lb4 (by with_reducible assumption) (by decide) | with_reducible exact lb2 (by with_reducible assumption) (by with_reducible assumption) (by decide) | with_reducible exact lb5 (by with_reducible assumption) (by with_reducible assumption) (by decide) | with_reducible exact ci4 (by with_reducible assumption) (by decide) | with_reducible exact ci5 (by with_reducible assumption) (by decide) | with_reducible exact cz4 (by with_reducible assumption) (by with_reducible assumption) | with_reducible exact cz5 (by with_reducible assumption) (by with_reducible assumption) | with_reducible exact cz6 (by with_reducible assumption) (by with_reducible assumption) (by with_reducible assumption) (by decide) | with_reducible exact lp1 (by with_reducible assumption) (by decide) | with_reducible exact le1 (by with_reducible assumption) | with_reducible exact le2 (by with_reducible assumption) | with_reducible exact Nat.le_succ _ | with_reducible exact leu (by with_reducible assumption) | with_reducible exact leu2 (by with_reducible assumption) | with_reducible exact zb1 (by with_reducible assumption) (by decide) | with_reducible exact zb2 (by with_reducible assumption) | with_reducible exact zb3 (by with_reducible assumption) (by decide) | with_reducible exact un1 (by with_reducible assumption) | with_reducible exact sl1 | with_reducible exact sl2 | with_reducible exact sl3 | with_reducible exact sl4 | with_reducible exact sl5 | omega)
  k_with "lt" => (first | with_reducible assumption | omega)
  trivial
theorem stage_end {a : LawAddr} {M k hk : Nat} {pe0 pe1 pend : Led} {gd : List Value} (hst : Stage a M pe0 pe1 k pend gd hk) (h : M + 2 ≤ k) : k = M + 2 ∧ pend = [] ∧ gd = [.ref a.ln0, .ref a.ln1] ∧ hk = M := by
  rcases hst with ⟨h1, -, -, -⟩ | ⟨h1, -, -, -⟩ | ⟨h1, h2, h3, h4⟩
  · k_extra "om"
  · k_extra "om"
  · exact ⟨h1, h2, h3, h4⟩
theorem datL_to {nn nn' : Led} (hs : ∀ a vs n, (a, tupC vs n) ∈ nn → (a, tupC vs n) ∈ nn') : ∀ {ss : List Sign} {vs : List Value}, DatAll nn vs (ss.map dL) → DatAll nn' vs (ss.map dL)
  | [], _, h => by rw [inv_nil h]; exact .nil
  | x :: ss, _, h => by
    obtain ⟨v, r, rfl, d, h⟩ := inv_cons h
    refine .cons ?_ (datL_to hs h)
    obtain ⟨a, v1, v2, n, rfl, hm, h1, h2⟩ := inv_two d
    obtain ⟨t1, rfl⟩ := inv_int h1
    obtain ⟨b, m, t2, t3, rfl, hm2⟩ := inv_pt h2
    exact .tuple (hs _ _ _ hm) (.cons (.int _ _) (.cons (.tuple (hs _ _ _ hm2) (.cons (.int _ _) (.cons (.int _ _) .nil))) .nil))
/-- a ledger that holds the old one is the old one and what lies above it -/
theorem led_split {news nn : Led} {l : Nat} (lt : AllLt l news) (up : Up l news nn) : ∀ p ∈ nn, p ∈ news ++ nn.filter (above news) := by
  intro p hp
  rcases up p hp with h | h
  · exact List.mem_append_left _ h
  · exact List.mem_append_right _ (List.mem_filter.mpr ⟨hp, above_iff.mpr (allLt_of fun q hq => Nat.lt_trans (allLt_mem lt q hq) h)⟩)
theorem goodRows_of {M : Nat} {rows : Rows} (hM : M < 3) (hl : rows.length = M + 2) (h4 : ∀ x ∈ rows, x.1.length = 4) (hlast : ∀ x, rows.getLast? = some x → x.2 = false) : GoodRows rows := ⟨h4, by k_extra "om", by k_extra "om", hlast⟩
section
variable {w : World} {loose : List Str} {mean : ExcName → Option Value} {mg mb : Str → Option Value}
theorem rules63_1 : True := by
  k_with "k_enter" => ((refine' code_def ?q239k1 ?q239k2 ?q239k3 ?q239k4 ?q239k5 ?q239kA ?q239kF ?q239kK ?q239k6 ?q239k7 ?q239k8 ?q239k9 ?q239kB ?_ ?q239c2 ?q239c3 ?q239c4 ?q239c5; (case q239kA => exact rfl); (case q239kF => assumption); (case q239kK => assumption); (case q239k1 => k_asm); (case q239k2 => k_asm); (case q239k3 => k_asm); (case q239k4 => k_asm); (case q239k5 => k_asm); (case q239k6 => k_is); (case q239k7 => k_is); (case q239k8 => k_room); (case q239k9 => first | exact BindsTo.of_eq rfl | exact binds_K (by k_in) rfl (by k_is) rfl rfl rfl); (case q239c5 => decide); (case q239kB => exact locs rfl); (case q239c2 => exact rfl); (case q239c3 => exact rfl); (case q239c4 => exact rfl); k_whole; intro _ _ _ _ _ _ B' _ _; (try dsimp only); (try k_lift B'); (try k_fold)))
  trivial
theorem view_spec {news : Led} {hi gr : Addr} : Spec w loose mean mg mb 570 570 135 [.ref hi, .ref gr] news (fun v n' => ∃ vw dv t1 t2, v = .ref vw ∧ n' = (vw, instObj 135 dv) :: (dv, dictOf (viewDict w.params t1 t2 hi gr) 2) :: news ∧ AllLt dv news ∧ @LT.lt Nat _ dv vw) := by
  intro gd env outer A₀ base h₀ L m s Q E hf hk B F X N T hret
  k_steps
  rename Fr h₀ L _ _ => F9
  rename News h₀ L _ _ => N9
  refine' hret _ _ _ _ ⟨_, _, _, _, rfl, rfl, ?a, ?b⟩ F9 N9
  case a => first | tbn_find | exact allLt_of (by assumption)
  case b => first | assumption | exact And.left (by assumption)
end
theorem ntup_cls {o : Obj} (h : o.cls ≠ .type "tuple") : ∀ vs n, o ≠ tupC vs n := fun vs n e => h (by rw [e])
theorem ntup_cell {o : Obj} {v : Option Value} (h : o.data = .cell v) : ∀ vs n, o ≠ tupC vs n := fun vs n e => by
  rw [e] at h
  simp at h
theorem Deck.ncls {w : World} {lf : Addr} {ol od : Obj} (D : Deck w lf ol od) : (∀ vs n, ol ≠ tupC vs n) ∧ ∀ vs n, od ≠ tupC vs n := by
  obtain ⟨vs, ns, n, M, t, rfl, -, -, hdd, -, -⟩ := D
  have hdc : od.cls = .type "dict" := hdd.choose_spec.choose_spec.1.1
  exact ⟨ntup_cls (by simp), ntup_cls (by rw [hdc]; simp)⟩
theorem stream_pack {h₀ h : Heap} {L : Addr} {e1 e2 e3 e4 e5 : Addr × Obj} {Wd nn : Led} {sl sn : Nat} {ssv : List Value} {ss : List Sign} (N : News h₀ L h ((sl, listOf ssv.toArray sn) :: nn)) (hnn : ∀ p ∈ e1 :: e2 :: e3 :: e4 :: e5 :: Wd, p ∈ nn) (hlt : AllLt sl (e1 :: e2 :: e3 :: e4 :: e5 :: Wd)) (hup : Up sl (e1 :: e2 :: e3 :: e4 :: e5 :: Wd) nn)
    (hda : DatAll nn ssv (ss.map dL)) (t1 : ∀ vs n, e1.2 ≠ tupC vs n) (t2 : ∀ vs n, e2.2 ≠ tupC vs n) (t3 : ∀ vs n, e3.2 ≠ tupC vs n) (t4 : ∀ vs n, e4.2 ≠ tupC vs n) (t5 : ∀ vs n, e5.2 ≠ tupC vs n) :
    ∃ W2 : Led, News h₀ L h (e3 :: e4 :: e5 :: W2) ∧ e1 ∈ W2 ∧ e2 ∈ W2 ∧ (∀ p ∈ Wd, p ∈ W2) ∧ (sl, listOf ssv.toArray sn) ∈ W2 ∧ DatAll W2 ssv (ss.map dL) ∧ ∀ x ∈ [e3.1, e4.1, e5.1], e1.1 ≠ x → e2.1 ≠ x → (∀ p ∈ Wd, p.1 ≠ x) → ∀ p ∈ W2, p.1 ≠ x := by
  have sp := led_split hlt hup
  refine ⟨(sl, listOf ssv.toArray sn) :: e1 :: e2 :: (Wd ++ nn.filter (above (e1 :: e2 :: e3 :: e4 :: e5 :: Wd))), fun p hp => N p ?_, .tail _ (.head _), .tail _ (.tail _ (.head _)), fun p hp => .tail _ (.tail _ (.tail _ (List.mem_append_left _ hp))), .head _, ?_, ?_⟩
  · simp only [List.mem_cons, List.mem_append] at hp hnn ⊢
    rcases hp with h | h | h | h | h | h | h | h
    · exact .inr (hnn p (.inr (.inr (.inl h))))
    · exact .inr (hnn p (.inr (.inr (.inr (.inl h)))))
    · exact .inr (hnn p (.inr (.inr (.inr (.inr (.inl h))))))
    · exact .inl h
    · exact .inr (hnn p (.inl h))
    · exact .inr (hnn p (.inr (.inl h)))
    · exact .inr (hnn p (.inr (.inr (.inr (.inr (.inr h))))))
    · exact .inr (List.mem_filter.mp h).1
  · refine datL_to (fun b vs n hm => ?_) hda
    have q := sp _ hm
    simp only [List.cons_append, List.mem_cons, List.mem_append] at q ⊢
    rcases q with h | h | h | h | h | h | h
    · exact absurd (congrArg Prod.snd h).symm (t1 vs n)
    · exact absurd (congrArg Prod.snd h).symm (t2 vs n)
    · exact absurd (congrArg Prod.snd h).symm (t3 vs n)
    · exact absurd (congrArg Prod.snd h).symm (t4 vs n)
    · exact absurd (congrArg Prod.snd h).symm (t5 vs n)
    · exact .inr (.inr (.inr (.inl h)))
    · exact .inr (.inr (.inr (.inr h)))
  · intro x hx h1 h2 h3 p hp
    have hin : ∃ q ∈ e1 :: e2 :: e3 :: e4 :: e5 :: Wd, q.1 = x := by
      simp only [List.mem_cons, List.not_mem_nil, or_false] at hx
      rcases hx with rfl | rfl | rfl
      · exact ⟨e3, .tail _ (.tail _ (.head _)), rfl⟩
      · exact ⟨e4, .tail _ (.tail _ (.tail _ (.head _))), rfl⟩
      · exact ⟨e5, .tail _ (.tail _ (.tail _ (.tail _ (.head _)))), rfl⟩
    obtain ⟨q, hq, rfl⟩ := hin
    simp only [List.mem_cons, List.mem_append] at hp
    rcases hp with rfl | rfl | rfl | hp | hp
    · exact Nat.ne_of_gt (allLt_mem hlt q hq)
    · exact h1
    · exact h2
    · exact h3 p hp
    · exact Nat.ne_of_gt (allLt_mem (above_iff.mp (List.mem_filter.mp hp).2) q hq)
abbrev codeFrame (cw vw sl dk : Nat) (mv : Value) (u : Str → Option Value) : Str → Option Value := fun y =>
  if y = Str.ofString "codes" then some (.ref cw) else if y = Str.ofString "view" then some (.ref vw) else if y = Str.ofString "stream" then some (.ref sl) else if y = Str.ofString "deck" then some (.ref dk) else if y = Str.ofString "many" then some mv else u y
inductive CodeInv (w : World) (cw vw sl lf dk c0 n : Nat) (oc : Obj) (mv : Value) (W2 : Led) (left : List Itm) (m : Str → Option Value) (nx : Led) : Prop
  | mk (i : Nat) (cvs : List Value) (codes : List Int) (cn : Nat) (ol od : Obj) (u : Str → Option Value)
    (f0 : left = rangeItems 0 i (n - i))
    (f1 : i ≤ n)
    (f2 : IntsAre cvs codes)
    (f3 : codes.length = i + 1)
    (f4 : Deck w lf ol od)
    (f5 : m = codeFrame cw vw sl dk mv u)
    (f6 : nx = (cw, listOf cvs.toArray cn) :: (lf, ol) :: (dk, od) :: (c0, oc) :: W2) : CodeInv w cw vw sl lf dk c0 n oc mv W2 left m nx
theorem code_frame {h₀ h : Heap} {L : Addr} {m : Str → Option Value} {cw vw sl dk : Nat} {mv : Value} (F : Fr h₀ L h m) (e1 : m (Str.ofString "codes") = some (.ref cw)) (e2 : m (Str.ofString "view") = some (.ref vw)) (e3 : m (Str.ofString "stream") = some (.ref sl)) (e4 : m (Str.ofString "deck") = some (.ref dk)) (e5 : m (Str.ofString "many") = some mv) :
    Fr h₀ L h (codeFrame cw vw sl dk mv m) := fr_name (fr_name (fr_name (fr_name (fr_name F (Str.ofString "many") e5) (Str.ofString "deck") e4) (Str.ofString "stream") e3) (Str.ofString "view") e2) (Str.ofString "codes") e1
theorem led_name {h₀ h : Heap} {L : Addr} {led : Led} (N : News h₀ L h led) : ∃ V, V = led ∧ News h₀ L h V := ⟨_, rfl, N⟩
abbrev finFrame (cw vw du la ah : Nat) (fv : Value) (u : Str → Option Value) : Str → Option Value := fun y =>
  if y = Str.ofString "codes" then some (.ref cw) else if y = Str.ofString "view" then some (.ref vw) else if y = Str.ofString "is_folded" then some fv else if y = Str.ofString "due" then some (.ref du) else if y = Str.ofString "later" then some (.ref la) else if y = Str.ofString "ahead" then some (.ref ah) else u y
theorem fin_frame {h₀ h : Heap} {L : Addr} {m : Str → Option Value} {cw vw du la ah : Nat} {fv : Value} (F : Fr h₀ L h m) (e1 : m (Str.ofString "codes") = some (.ref cw)) (e2 : m (Str.ofString "view") = some (.ref vw)) (e3 : m (Str.ofString "is_folded") = some fv) (e4 : m (Str.ofString "due") = some (.ref du)) (e5 : m (Str.ofString "later") = some (.ref la)) (e6 : m (Str.ofString "ahead") = some (.ref ah)) :
    Fr h₀ L h (finFrame cw vw du la ah fv m) := fr_name (fr_name (fr_name (fr_name (fr_name (fr_name F (Str.ofString "ahead") e6) (Str.ofString "later") e5) (Str.ofString "due") e4) (Str.ofString "is_folded") e3) (Str.ofString "view") e2) (Str.ofString "codes") e1
/-- behind an if that falls through -/
inductive AfterIf (s : Shared) (g : Heap) (L : Addr) (m : Str → Option Value) (V : Led) (S' : Shared) : Prop
  | mk (h tk V')
    (f0 : S' = { s with heap := h, toks := tk })
    (f1 : Fr g L h m)
    (f2 : News g L h V')
    (f3 : ∀ p ∈ V, p ∈ V') : AfterIf s g L m V S'
theorem AfterIf.intro {s : Shared} {g h : Heap} {L : Addr} {m : Str → Option Value} {V V' : Led} {tk : Nat} (F : Fr g L h m) (N : News g L h V') (hs : ∀ p ∈ V, p ∈ V') : AfterIf s g L m V { s with heap := h, toks := tk } := ⟨h, tk, V', rfl, F, N, hs⟩
theorem dO_ok (o : Option (Int × Int)) : kqdOk 8 (dO o) = true := by cases o <;> rfl
theorem ne_same {w : World} {A : Around} {E : Value → Shared → Prop} {s : Shared} {h₀ : Heap} {L : Addr} {news : Led} {v v' : Value} {o : Option (Int × Int)} {Q : Value → Shared → Prop} (N : News h₀ L s.heap news) (h1 : DatIn news v (dO o)) (h2 : DatIn news v' (dO o)) (hu : A.units + 64 < cLine) (h : Q (.bool false) s) :
    wpAny (model theProg w) A (compareOp .NotEq v v') Q E s := by
  have hk := dO_ok o
  obtain ⟨as, ra⟩ := kqd_in N 8 h1 hk
  obtain ⟨bs, rb⟩ := kqd_in N 8 h2 hk
  have l := kqd_lay 8 _ hk
  have e : PyData.eqv (kqdP (dO o)) (kqdP (dO o)) = true := (kqd_eqv 8 _ _ 8 hk hk).mpr rfl
  have hs : SeqAt.shaped (kqdP (dO o)) = true := by
    unfold SeqAt.shaped; rw [l.1, Bool.true_and]; exact decide_eq_true (Nat.le_trans l.2 (by decide))
  exact ne_dataH ra rb hs hs hu (by rw [e]; exact h)
theorem dO_cases {news : Led} {v : Value} {o : Option (Int × Int)} (h : DatIn news v (dO o)) : (o = none ∧ v = .none) ∨ ∃ x a n t1 t2, o = some x ∧ v = .ref a ∧ (a, tupC [.int x.1 t1, .int x.2 t2] n) ∈ news := by
  cases o with
  | none => cases h; exact .inl ⟨rfl, rfl⟩
  | some x =>
    obtain ⟨a, n, t1, t2, rfl, hm⟩ := inv_pt h
    exact .inr ⟨x, a, n, t1, t2, rfl, rfl, hm⟩
theorem ne_same2 {w : World} {A : Around} {E : Value → Shared → Prop} {s : Shared} {h₀ : Heap} {L : Addr} {V news : Led} {v v' : Value} {o : Option (Int × Int)} {Q : Value → Shared → Prop} (N : News h₀ L s.heap news) (h1 : DatIn V v (dO o)) (h2 : DatIn V v' (dO o)) (hs : ∀ p ∈ V, p ∈ news) (hu : A.units + 64 < cLine) (h : Q (.bool false) s) :
    wpAny (model theProg w) A (compareOp .NotEq v v') Q E s := ne_same N (h1.mono hs) (h2.mono hs) hu h

end
end Mine
namespace Mine
section
theorem base64 : True := by
  k_with_none
  k_with "execs cons" => (k_here; (with_reducible refine wpAny_execs_cons ?_); (try dsimp only); k_fold)
  k_with "ne" => (first | with_reducible assumption | with_reducible exact Ne.symm (by with_reducible assumption) | with_reducible exact Nat.ne_of_gt (by with_reducible assumption) | with_reducible exact Nat.ne_of_lt (by with_reducible assumption) | with_reducible exact neu (by with_reducible assumption) | with_reducible exact neu' (by with_reducible assumption) | with_reducible exact neu2 (by with_reducible assumption) | with_reducible exact neu2' (by with_reducible assumption) | with_reducible exact Nat.ne_of_lt sl1 | with_reducible exact Nat.ne_of_lt sl2 | with_reducible exact Nat.ne_of_lt sl3 | with_reducible exact Nat.ne_of_lt sl4 | with_reducible exact Nat.ne_of_lt sl5 | with_reducible exact Nat.ne_of_gt sl1 | with_reducible exact Nat.ne_of_gt sl2 | with_reducible exact Nat.ne_of_gt sl3 | with_reducible exact Nat.ne_of_gt sl4 | with_reducible exact Nat.ne_of_gt sl5 | omega)
  k_with "lt2" => omega
  k_with "lt0" => (first | with_reducible assumption | omega)
  k_with "lt1" => omega
  k_with "om" => (first | with_reducible assumption | with_reducible exact Nat.le_of_ble_eq_true (by decide) | with_reducible exact ci0 | with_reducible exact ci1 | with_reducible exact cz0 (by with_reducible assumption) | with_reducible exact cz1 (by with_reducible assumption) | with_reducible exact cz2 (by with_reducible assumption) | with_reducible exact cz3 (by with_reducible assumption) | with_reducible exact lb1 (by with_reducible assumption) (by decide) | with_reducible exact lb4 (by with_reducible assumption) (by decide) | with_reducible exact lb2 (by with_reducible assumption) (by with_reducible assumption) (by decide) | with_reducible exact lb5 (by with_reducible assumption) (by with_reducible assumption) (by decide) | with_reducible exact ci4 (by with_reducible assumption) (by decide) | with_reducible exact ci5 (by with_reducible assumption) (by decide) | with_reducible exact cz4 (by with_reducible assumption) (by with_reducible assumption) | with_reducible exact cz5 (by with_reducible assumption) (by with_reducible assumption) | with_reducible exact cz6 (by with_reducible assumption) (by with_reducible assumption) (by with_reducible assumption) (by decide) | with_reducible exact lp1 (by with_reducible assumption) (by decide) | with_reducible exact le1 (by with_reducible assumption) | with_reducible exact le2 (by with_reducible assumption) | with_reducible exact Nat.le_succ _ | with_reducible exact leu (by with_reducible assumption) | with_reducible exact leu2 (by with_reducible assumption) | with_reducible exact zb1 (by with_reducible assumption) (by decide) | with_reducible exact zb2 (by with_reducible assumption) | with_reducible exact zb3 (by with_reducible assumption) (by decide) | with_reducible exact un1 (by with_reducible assumption) | with_reducible exact sl1 | with_reducible exact sl2 | with_reducible exact sl3 | with_reducible exact sl4 | with_reducible exact sl5 | omega)
  k_with "lt" => (first | with_reducible assumption | omega)
  trivial
theorem datO_to {nn nn' : Led} (hs : ∀ a vs n, (a, tupC vs n) ∈ nn → (a, tupC vs n) ∈ nn') {v : Value} {o : Option (Int × Int)} (h : DatIn nn v (dO o)) : DatIn nn' v (dO o) := by
  rcases dO_cases h with ⟨rfl, rfl⟩ | ⟨x, a, n, t1, t2, rfl, rfl, hm⟩
  · exact .none
  · exact dP_in (hs _ _ _ hm)
theorem find_pack {h₀ h : Heap} {L : Addr} {e0 fe : Addr × Obj} {V n' : Led} {B : Nat} {v : Value} {o : Option (Int × Int)} (N : News h₀ L h n') (sub : ∀ p ∈ e0 :: fe :: V, p ∈ n') (ltB : AllLt B (e0 :: fe :: V)) (upB : Up B (e0 :: fe :: V) n') (dat : DatIn n' v (dO o))
    (hfe : fe.2.cls ≠ .type "tuple") (h0 : @Ne Nat e0.1 fe.1) (hV : ∀ p ∈ V, p.1 ≠ fe.1) :
    ∃ V' : Led, News h₀ L h (fe :: V') ∧ (∀ p ∈ V, p ∈ V') ∧ DatIn V' v (dO o) ∧ ∀ p ∈ V', p.1 ≠ fe.1 := by
  have sp := led_split ltB upB
  refine ⟨e0 :: (V ++ n'.filter (above (e0 :: fe :: V))), fun p hp => N p ?_, fun p hp => .tail _ (List.mem_append_left _ hp), datO_to (fun a vs n hm => ?_) dat, ?_⟩
  · simp only [List.mem_cons, List.mem_append] at hp sub
    rcases hp with h | h | h | h
    · exact sub p (.inr (.inl h))
    · exact sub p (.inl h)
    · exact sub p (.inr (.inr h))
    · exact (List.mem_filter.mp h).1
  · have q := sp _ hm
    simp only [List.cons_append, List.mem_cons, List.mem_append] at q ⊢
    rcases q with h | h | h | h
    · exact .inl h
    · exact absurd (congrArg Prod.snd h).symm (ntup_cls hfe vs n)
    · exact .inr (.inl h)
    · exact .inr (.inr h)
  · intro p hp
    simp only [List.mem_cons, List.mem_append] at hp
    rcases hp with rfl | hp | hp
    · exact h0
    · exact hV p hp
    · exact Nat.ne_of_gt (allLt_mem (above_iff.mp (List.mem_filter.mp hp).2) fe (.tail _ (.head _)))
abbrev whFrame (cw vw du fl : Nat) (fv av : Value) (u : Str → Option Value) : Str → Option Value := fun y =>
  if y = Str.ofString "codes" then some (.ref cw) else if y = Str.ofString "view" then some (.ref vw) else if y = Str.ofString "is_folded" then some fv else if y = Str.ofString "due" then some (.ref du) else if y = Str.ofString "found" then some (.ref fl) else if y = Str.ofString "at" then some av else u y
theorem wh_frame {h₀ h : Heap} {L : Addr} {m : Str → Option Value} {cw vw du fl : Nat} {fv av : Value} (F : Fr h₀ L h m) (e1 : m (Str.ofString "codes") = some (.ref cw)) (e2 : m (Str.ofString "view") = some (.ref vw)) (e3 : m (Str.ofString "is_folded") = some fv) (e4 : m (Str.ofString "due") = some (.ref du)) (e5 : m (Str.ofString "found") = some (.ref fl)) (e6 : m (Str.ofString "at") = some av) :
    Fr h₀ L h (whFrame cw vw du fl fv av m) := fr_name (fr_name (fr_name (fr_name (fr_name (fr_name F (Str.ofString "at") e6) (Str.ofString "found") e5) (Str.ofString "due") e4) (Str.ofString "is_folded") e3) (Str.ofString "view") e2) (Str.ofString "codes") e1
/-- the state at the head of the law's last while -/
inductive WhInv (s : Shared) (g : Heap) (L cw vw du fl : Nat) (fv : Value) (due : List (Int × Int)) (V0 : Led) (k : Nat) (S' : Shared) : Prop
  | mk (h : Heap) (tk : Nat) (V : Led) (vs : List Value) (nf : Nat) (v : Value) (u : Str → Option Value)
    (f0 : S' = { s with heap := h, toks := tk })
    (f1 : k ≤ due.length)
    (f2 : DatAll V vs ((due.take k).map dP))
    (f3 : DatIn V v (dO due[k]?))
    (f4 : Fr g L h (whFrame cw vw du fl fv v u))
    (f5 : News g L h ((fl, listOf vs.toArray nf) :: V))
    (f6 : (∀ p ∈ V, p.1 ≠ fl))
    (f7 : ∀ p ∈ V0, p ∈ V) : WhInv s g L cw vw du fl fv due V0 k S'
theorem WhInv.intro {s : Shared} {g : Heap} {L cw vw du fl : Nat} {fv : Value} {due : List (Int × Int)} {V0 : Led} {k : Nat} {h : Heap} {tk : Nat} {V : Led} {vs : List Value} {nf : Nat} {v : Value} {m : Str → Option Value} (hk : k ≤ due.length) (hda : DatAll V vs ((due.take k).map dP)) (hd : DatIn V v (dO due[k]?))
    (F : Fr g L h m) (N : News g L h ((fl, listOf vs.toArray nf) :: V)) (off : ∀ p ∈ V, p.1 ≠ fl) (sub : ∀ p ∈ V0, p ∈ V)
    (e1 : m (Str.ofString "codes") = some (.ref cw)) (e2 : m (Str.ofString "view") = some (.ref vw)) (e3 : m (Str.ofString "is_folded") = some fv) (e4 : m (Str.ofString "due") = some (.ref du)) (e5 : m (Str.ofString "found") = some (.ref fl)) (e6 : m (Str.ofString "at") = some v) :
    WhInv s g L cw vw du fl fv due V0 k { s with heap := h, toks := tk } := ⟨h, tk, V, vs, nf, v, m, rfl, hk, hda, hd, wh_frame F e1 e2 e3 e4 e5 e6, N, off, sub⟩
theorem dO_snoc {V : Led} {vs : List Value} {due : List (Int × Int)} {k : Nat} {x : Int × Int} {v : Value} (hx : due[k]? = some x) (hda : DatAll V vs ((due.take k).map dP)) (hd : DatIn V v (dP x)) : DatAll V (vs ++ [v]) ((due.take (k + 1)).map dP) := by
  rw [take_snoc hx, List.map_append]
  exact hda.append (.one hd)

end
end Mine
namespace Mine
section
theorem base70 : True := by
  k_with_none
  k_with "execs cons" => (k_here; (with_reducible refine wpAny_execs_cons ?_); (try dsimp only); k_fold)
  k_with "ne" => (first | with_reducible assumption | with_reducible exact Ne.symm (by with_reducible assumption) | with_reducible exact Nat.ne_of_gt (by with_reducible assumption) | with_reducible exact Nat.ne_of_lt (by with_reducible assumption) | with_reducible exact neu (by with_reducible assumption) | with_reducible exact neu' (by with_reducible assumption) | with_reducible exact neu2 (by with_reducible assumption) | with_reducible exact neu2' (by with_reducible assumption) | with_reducible exact Nat.ne_of_lt sl1 | with_reducible exact Nat.ne_of_lt sl2 | with_reducible exact Nat.ne_of_lt sl3 | with_reducible exact Nat.ne_of_lt sl4 | with_reducible exact Nat.ne_of_lt sl5 | with_reducible exact Nat.ne_of_gt sl1 | with_reducible exact Nat.ne_of_gt sl2 | with_reducible exact Nat.ne_of_gt sl3 | with_reducible exact Nat.ne_of_gt sl4 | with_reducible exact Nat.ne_of_gt sl5 | omega)
  k_with "lt2" => omega
  k_with "lt0" => (first | with_reducible assumption | omega)
  k_with "lt1" => omega
  k_with "om" => (first | with_reducible assumption | with_reducible exact Nat.le_of_ble_eq_true (by decide) | with_reducible exact ci0 | with_reducible exact ci1 | with_reducible exact cz0 (by with_reducible assumption) | with_reducible exact cz1 (by with_reducible assumption) | with_reducible exact cz2 (by with_reducible assumption) | with_reducible exact cz3 (by with_reducible assumption) | with_reducible exact lb1 (by with_reducible assumption) (by decide) | with_reducible exact lb4 (by with_reducible assumption) (by decide) | with_reducible exact lb2 (by with_reducible assumption) (by with_reducible assumption) (by decide) | with_reducible exact lb5 (by with_reducible assumption) (by with_reducible assumption) (by decide) | with_reducible exact ci4 (by with_reducible assumption) (by decide) | with_reducible exact ci5 (by with_reducible assumption) (by decide) | with_reducible exact cz4 (by with_reducible assumption) (by with_reducible assumption) | with_reducible exact cz5 (by with_reducible assumption) (by with_reducible assumption) | with_reducible exact cz6 (by with_reducible assumption) (by with_reducible assumption) (by with_reducible assumption) (by decide) | with_reducible exact lp1 (by with_reducible assumption) (by decide) | with_reducible exact le1 (by with_reducible assumption) | with_reducible exact le2 (by with_reducible assumption) | with_reducible exact Nat.le_succ _ | with_reducible exact leu (by with_reducible assumption) | with_reducible exact leu2 (by with_reducible assumption) | with_reducible exact zb1 (by with_reducible assumption) (by decide) | with_reducible exact zb2 (by with_reducible assumption) | with_reducible exact zb3 (by with_reducible assumption) (by decide) | with_reducible exact un1 (by with_reducible assumption) | with_reducible exact sl1 | with_reducible exact sl2 | with_reducible exact sl3 | with_reducible exact sl4 | with_reducible exact sl5 | omega)
  k_with "lt" => (first | with_reducible assumption | omega)
  trivial
theorem cs_in (i : Int) : ∀ (l : List (Option Int)) (c : Int), ∀ x ∈ cellSigns i c l, x.2.1 = i ∧ c ≤ x.2.2 ∧ x.2.2 < c + l.length
  | [], _, _, h => nomatch h
  | y :: r, c, x, h => by
    unfold cellSigns at h
    rcases List.mem_append.mp h with h | h
    · cases y with
      | none => exact nomatch h
      | some k =>
        obtain rfl : x = (shown k, i, c) := by simpa [sgn] using h
        rw [List.length_cons]
        exact ⟨rfl, Int.le_refl _, by show c < c + ((r.length + 1 : Nat) : Int); omega⟩
    · have q := cs_in i r (c + 1) x h
      simp only [List.length_cons]
      exact ⟨q.1, by omega, by omega⟩
theorem cs_pw (i : Int) : ∀ (l : List (Option Int)) (c : Int), (cellSigns i c l).Pairwise fun x y => plt x.2 y.2 = true
  | [], _ => .nil
  | y :: r, c => by
    unfold cellSigns
    cases y with
    | none => simpa [sgn] using cs_pw i r (c + 1)
    | some k =>
      simp only [sgn, List.singleton_append]
      refine .cons (fun x hx => ?_) (cs_pw i r (c + 1))
      have q := cs_in i r (c + 1) x hx
      exact decide_eq_true (.inr ⟨q.1.symm, by show c < x.2.2; omega⟩)
theorem row_in (rows : Rows) (i : Nat) : ∀ x ∈ rowSigns rows i, x.2.1 = (i : Int) ∧ 0 ≤ x.2.2 := by
  intro x hx
  unfold rowSigns at hx
  rcases List.mem_append.mp hx with hx | hx
  · have q := cs_in (i : Int) _ 0 x hx
    exact ⟨q.1, q.2.1⟩
  · split at hx
    · exact nomatch hx
    · obtain rfl : x = (10, (i : Int), (wid rows i : Int)) := by simpa using hx
      refine ⟨?_, ?_⟩
      · first | rfl | trivial
      · show 0 ≤ (wid rows i : Int)
        omega
theorem row_pw (rows : Rows) (i : Nat) : (rowSigns rows i).Pairwise fun x y => plt x.2 y.2 = true := by
  unfold rowSigns
  refine List.pairwise_append.mpr ⟨cs_pw _ _ _, ?_, ?_⟩
  · split <;> simp
  · intro x hx y hy
    split at hy
    · exact nomatch hy
    · obtain rfl : y = (10, (i : Int), (wid rows i : Int)) := by simpa using hy
      have q := cs_in (i : Int) _ 0 x hx
      rw [List.length_take] at q
      exact decide_eq_true (.inr ⟨q.1, by show x.2.2 < (wid rows i : Int); omega⟩)
theorem flow_in (rows : Rows) : ∀ n, ∀ x ∈ flow rows n, 0 ≤ x.2.1 ∧ x.2.1 < n ∧ 0 ≤ x.2.2
  | 0, _, h => nomatch h
  | n + 1, x, h => by
    unfold flow at h
    rcases List.mem_append.mp h with h | h
    · have q := flow_in rows n x h
      exact ⟨q.1, by omega, q.2.2⟩
    · have q := row_in rows n x h
      exact ⟨by omega, by omega, q.2⟩
theorem flow_pw (rows : Rows) : ∀ n, (flow rows n).Pairwise fun x y => plt x.2 y.2 = true
  | 0 => .nil
  | n + 1 => by
    unfold flow
    refine List.pairwise_append.mpr ⟨flow_pw rows n, row_pw rows n, fun x hx y hy => ?_⟩
    have q := flow_in rows n x hx
    have r := row_in rows n y hy
    exact decide_eq_true (.inl (by omega))
theorem plt_ne {p q : Int × Int} (h : plt p q = true) : p ≠ q := by
  rintro rfl
  have := of_decide_eq_true h
  omega
theorem flow_apart (rows : Rows) (n : Nat) : Apart (flow rows n) := by
  intro k x y hx hy
  have hp := List.pairwise_iff_getElem.mp (flow_pw rows n)
  obtain ⟨h1, e1⟩ := List.getElem?_eq_some_iff.mp hx
  obtain ⟨h2, e2⟩ := List.getElem?_eq_some_iff.mp hy
  have := hp k (k + 1) h1 h2 (Nat.lt_succ_self k)
  rw [e1, e2] at this
  exact plt_ne this
theorem hit_end {ss : List Sign} {g : Int → Int} {wn : List Int} (hw : wn ≠ []) {n : Nat} (h : ss.length + 1 - wn.length ≤ n) : hitAt ss g wn n = false := by
  refine decide_eq_false fun e => ?_
  have l := congrArg List.length e
  rw [List.length_take, List.length_drop, List.length_map] at l
  have : 0 < wn.length := List.length_pos_iff.mpr hw
  omega
theorem hits_from {ss : List Sign} {g : Int → Int} {wn : List Int} (hw : wn ≠ []) : ∀ k, hits ss g wn (ss.length + 1 - wn.length + k) = hits ss g wn (ss.length + 1 - wn.length)
  | 0 => rfl
  | k + 1 => by
    rw [← Nat.add_assoc, hits, hit_end hw (Nat.le_add_right _ _), if_neg (by decide), List.append_nil]
    exact hits_from hw k
theorem hits_all {ss : List Sign} {g : Int → Int} {codes : List Int} (hc : codes ≠ []) (f : Int → Int) : hits ss g (codes.map f) (cnt ss codes) = hits ss g (codes.map f) ss.length := by
  have hw : codes.map f ≠ [] := by simpa using hc
  have e : cnt ss codes = ss.length + 1 - (codes.map f).length := by rw [cnt, if_neg hc, List.length_map]
  rw [e]
  have hl : 0 < codes.length := List.length_pos_iff.mpr hc
  obtain ⟨k, hk⟩ : ∃ k, ss.length = ss.length + 1 - (codes.map f).length + k := ⟨ss.length - (ss.length + 1 - (codes.map f).length), by rw [List.length_map]; omega⟩
  have h := hits_from (ss := ss) (g := g) hw k
  rw [← hk] at h
  exact h.symm
theorem hits_mem {ss : List Sign} {g : Int → Int} {wn : List Int} : ∀ n, n ≤ ss.length → ∀ p ∈ hits ss g wn n, ∃ k x, k < n ∧ ss[k]? = some x ∧ p = x.2
  | 0, _, _, h => nomatch h
  | n + 1, hn, p, h => by
    unfold hits at h
    rcases List.mem_append.mp h with h | h
    · obtain ⟨k, x, a, b, c⟩ := hits_mem n (by omega) p h
      exact ⟨k, x, by omega, b, c⟩
    · split at h
      · have hx : ss[n]? = some (ss[n]'(by omega)) := List.getElem?_eq_getElem (by omega)
        refine ⟨n, _, Nat.lt_succ_self n, hx, ?_⟩
        have : p = place ss n := by simpa using h
        rw [this, place, List.getD_eq_getElem?_getD, hx]
        rfl
      · exact nomatch h
theorem hits_pw {ss : List Sign} {g : Int → Int} {wn : List Int} (hs : ss.Pairwise fun x y => plt x.2 y.2 = true) : ∀ n, n ≤ ss.length → (hits ss g wn n).Pairwise fun p q => plt p q = true
  | 0, _ => .nil
  | n + 1, hn => by
    unfold hits
    refine List.pairwise_append.mpr ⟨hits_pw hs n (by omega), by split <;> simp, fun p hp q hq => ?_⟩
    split at hq
    · obtain ⟨k, x, hk, hx, rfl⟩ := hits_mem n (by omega) p hp
      have hq' : q = place ss n := by simpa using hq
      have hn' : ss[n]? = some (ss[n]'(by omega)) := List.getElem?_eq_getElem (by omega)
      rw [hq', place, List.getD_eq_getElem?_getD, hn']
      obtain ⟨h1, e1⟩ := List.getElem?_eq_some_iff.mp hx
      have := List.pairwise_iff_getElem.mp hs k n h1 (by omega) hk
      rw [e1] at this
      exact this
    · exact nomatch hq
/-- the next place -/
theorem next_place : ∀ (hp : List (Int × Int)), (hp.Pairwise fun p q => plt p q = true) → ∀ (n : Nat) (p : Int × Int), hp[n]? = some p → (hp.filter fun q => pge q (p.1, p.2 + 1)).head? = hp[n + 1]?
  | [], _, _, _, h => by simp at h
  | x :: r, hpw, 0, p, h => by
    obtain rfl : x = p := by simpa using h
    cases hpw with
    | cons h1 h2 =>
      have e0 : pge x (x.1, x.2 + 1) = false := decide_eq_false (by simp only; omega)
      have e1 : (r.filter fun q => pge q (x.1, x.2 + 1)) = r := List.filter_eq_self.mpr fun q hq => by
        have := of_decide_eq_true (h1 q hq)
        exact decide_eq_true (by simp only; omega)
      rw [List.filter_cons, e0, if_neg (by decide), e1, List.head?_eq_getElem?]
      rfl
  | x :: r, hpw, n + 1, p, h => by
    cases hpw with
    | cons h1 h2 =>
      have h' : r[n]? = some p := by simpa using h
      have hm : p ∈ r := List.mem_of_getElem? h'
      have := of_decide_eq_true (h1 p hm)
      have e0 : pge x (p.1, p.2 + 1) = false := decide_eq_false (by simp only; omega)
      rw [List.filter_cons, e0, if_neg (by decide), next_place r h2 n p h']
      rfl
theorem first_place {hp : List (Int × Int)} (h : ∀ p ∈ hp, 0 ≤ p.1 ∧ 0 ≤ p.2) : (hp.filter fun q => pge q (0, 0)).head? = hp[0]? := by
  have e : (hp.filter fun q => pge q (0, 0)) = hp := List.filter_eq_self.mpr fun q hq => by
    have := h q hq
    exact decide_eq_true (by simp only; omega)
  rw [e, List.head?_eq_getElem?]

end
end Mine
namespace Mine
section
theorem base72 : True := by
  k_with_none
  k_with "execs cons" => (k_here; (with_reducible refine wpAny_execs_cons ?_); (try dsimp only); k_fold)
  k_with "ne" => (first | with_reducible assumption | with_reducible exact Ne.symm (by with_reducible assumption) | with_reducible exact Nat.ne_of_gt (by with_reducible assumption) | with_reducible exact Nat.ne_of_lt (by with_reducible assumption) | with_reducible exact neu (by with_reducible assumption) | with_reducible exact neu' (by with_reducible assumption) | with_reducible exact neu2 (by with_reducible assumption) | with_reducible exact neu2' (by with_reducible assumption) | with_reducible exact Nat.ne_of_lt sl1 | with_reducible exact Nat.ne_of_lt sl2 | with_reducible exact Nat.ne_of_lt sl3 | with_reducible exact Nat.ne_of_lt sl4 | with_reducible exact Nat.ne_of_lt sl5 | with_reducible exact Nat.ne_of_gt sl1 | with_reducible exact Nat.ne_of_gt sl2 | with_reducible exact Nat.ne_of_gt sl3 | with_reducible exact Nat.ne_of_gt sl4 | with_reducible exact Nat.ne_of_gt sl5 | omega)
  k_with "lt2" => omega
  k_with "lt0" => (first | with_reducible assumption | omega)
  k_with "lt1" => omega
  k_with "om" => (first | with_reducible assumption | with_reducible exact Nat.le_of_ble_eq_true (by decide) | with_reducible exact ci0 | with_reducible exact ci1 | with_reducible exact cz0 (by with_reducible assumption) | with_reducible exact cz1 (by with_reducible assumption) | with_reducible exact cz2 (by with_reducible assumption) | with_reducible exact cz3 (by with_reducible assumption) | with_reducible exact lb1 (by with_reducible assumption) (by decide) | with_reducible exact lb4 (by with_reducible assumption) (by decide) | with_reducible exact lb2 (by with_reducible assumption) (by with_reducible assumption) (by decide) | with_reducible exact lb5 (by with_reducible assumption) (by with_reducible assumption) (by decide) | with_reducible exact ci4 (by with_reducible assumption) (by decide) | with_reducible exact ci5 (by with_reducible assumption) (by decide) | with_reducible exact cz4 (by with_reducible assumption) (by with_reducible assumption) | with_reducible exact cz5 (by with_reducible assumption) (by with_reducible assumption) | with_reducible exact cz6 (by with_reducible assumption) (by with_reducible assumption) (by with_reducible assumption) (by decide) | with_reducible exact lp1 (by with_reducible assumption) (by decide) | with_reducible exact le1 (by with_reducible assumption) | with_reducible exact le2 (by with_reducible assumption) | with_reducible exact Nat.le_succ _ | with_reducible exact leu (by with_reducible assumption) | with_reducible exact leu2 (by with_reducible assumption) | with_reducible exact zb1 (by with_reducible assumption) (by decide) | with_reducible exact zb2 (by with_reducible assumption) | with_reducible exact zb3 (by with_reducible assumption) (by decide) | with_reducible exact un1 (by with_reducible assumption) | with_reducible exact sl1 | with_reducible exact sl2 | with_reducible exact sl3 | with_reducible exact sl4 | with_reducible exact sl5 | omega)
  k_with "lt" => (first | with_reducible assumption | omega)
  trivial
theorem eq_dps {w : World} {A : Around} {E : Value → Shared → Prop} {s : Shared} {h₀ : Heap} {L a b : Addr} {V news : Led} {xs ys : List Value} {ka kb : Nat} {ds : List (Int × Int)} {Q : Value → Shared → Prop} (N : News h₀ L s.heap news) (Da : DatAll V xs (ds.map dP)) (Db : DatAll V ys (ds.map dP)) (ma : (a, listOf xs.toArray ka) ∈ news) (mb : (b, listOf ys.toArray kb) ∈ news)
    (hs : ∀ p ∈ V, p ∈ news) (hu : A.units + 64 < cLine) (h : Q (.bool true) s) : wpAny (model theProg w) A (compareOp .Eq (.ref a) (.ref b)) Q E s := by
  have hk : ∀ d ∈ ds.map dP, kqdOk 8 d = true := fun d hd => by obtain ⟨x, _, rfl⟩ := List.mem_map.mp hd; rfl
  refine kqd_eq N ma rfl rfl Da hs mb rfl rfl Db hs hk hk hu ?_
  simpa using h
theorem tuple_same {w : World} {A : Around} {E : Value → Shared → Prop} {s : Shared} {h₀ : Heap} {L a : Addr} {news : Led} {vs : List Value} {n : Nat} {Q : Value → Shared → Prop} (N : News h₀ L s.heap news) (hm : (a, tupC vs n) ∈ news) (h : Q (.ref a) s) : wpAny (model theProg w) A (call (.type "tuple") [.ref a]) Q E s :=
  call_tuple_tup (News.isTup N hm) h
theorem due_pos {rows : Rows} {g : Int → Int} {wn : List Int} : ∀ p ∈ hits (flow rows rows.length) g wn (flow rows rows.length).length, 0 ≤ p.1 ∧ 0 ≤ p.2 := by
  intro p hp
  obtain ⟨k, x, -, hx, rfl⟩ := hits_mem _ (Nat.le_refl _) p hp
  have q := flow_in rows _ x (List.mem_of_getElem? hx)
  exact ⟨q.1, q.2.2⟩
theorem due_pw {rows : Rows} {g : Int → Int} {wn : List Int} : (hits (flow rows rows.length) g wn (flow rows rows.length).length).Pairwise fun p q => plt p q = true := hits_pw (flow_pw rows _) _ (Nat.le_refl _)
theorem due_in {rows : Rows} {g : Int → Int} {wn : List Int} {k : Nat} {x : Int × Int} (hx : (hits (flow rows rows.length) g wn (flow rows rows.length).length)[k]? = some x) : 0 ≤ x.1 ∧ 0 ≤ x.2 := due_pos x (List.mem_of_getElem? hx)

end
end Mine
namespace Mine
theorem base99 : True := by
  k_with_none
  k_with "execs cons" => (k_here; (with_reducible refine wpAny_execs_cons ?_); (try dsimp only); k_fold)
  k_with "ne" => (first | with_reducible assumption | exact Ne.symm (by with_reducible assumption) | omega)
  k_with "lt2" => omega
  k_with "lt0" => (first | with_reducible assumption | omega)
  k_with "lt1" => omega
  k_with "om" => (first | with_reducible assumption | with_reducible exact Nat.le_of_ble_eq_true (by decide) | omega)
  k_with "lt" => (first | with_reducible assumption | omega)
  trivial
section
theorem rules99_1 : True := by
  k_with "eval Name" => ((k_dflt (first
  | (refine' nameX_L ?q240F ?q240v ?_ ?q240a ?q240b; (case q240F => k_asm); (case q240a => exact rfl); (case q240b => exact rfl); (case q240v => exact rfl); k_whole)
  | (refine' nameX_K ?q240F ?q240X ?q240T ?q240e ?_ ?q240a ?q240b; (case q240F => k_asm); (case q240X => k_asm); (case q240T => k_asm); (case q240a => exact rfl); (case q240b => exact rfl); (case q240e => k_is); k_whole))))
  k_with "k_mem" => (((repeat (refine' List.mem_cons_of_mem _ ?_)); with_reducible assumption))
  k_with "subscriptTail Name Constant ref int" => ((k_dflt (refine tup_at (by k_asm) (by k_mem) (by decide) (by decide) (by rfl) ?_)))
  k_with "subscriptTail Subscript Constant ref int" => ((k_dflt (refine tup_at (by k_asm) (by k_mem) (by decide) (by decide) (by rfl) ?_)))
  k_with "ite" => ((first | (refine ite_pos (by with_reducible assumption) ?_) | (refine ite_neg (by with_reducible assumption) ?_) | (refine ite_pos (by simp only [beq_iff_eq, bne_iff_ne, beq_eq_false_iff_ne, decide_eq_true_eq, decide_eq_false_iff_not, Bool.not_eq_true', Bool.not_eq_false']; omega) ?_) | (refine ite_neg (by simp only [beq_iff_eq, bne_iff_ne, beq_eq_false_iff_ne, decide_eq_true_eq, decide_eq_false_iff_not, Bool.not_eq_true', Bool.not_eq_false']; omega) ?_)))
  k_with "call ref" => ((k_here; k_dflt (first
  | (refine' deck_use ?q245hi ?q245hn ?q245d1 ?q245d2 ?q245d3 ?q245kA ?q245hl ?q245kF ?q245kK ?q245k1 ?q245k2 ?q245k3 ?q245k4 ?q245k5 ?_; (case q245kA => exact rfl); (case q245kF => exact rfl); (case q245kK => exact rfl); (case q245k1 => k_asm); (case q245k2 => k_asm); (case q245k3 => k_asm); (case q245k4 => k_asm); (case q245k5 => k_asm); (case q245hl => assumption); (case q245hi => assumption); (case q245hn => k_extra "om"); (case q245d3 => exact rfl); (case q245d1 => exact Nat.le_of_ble_eq_true rfl); (case q245d2 => exact Nat.le_of_ble_eq_true rfl)
     intro lf dk ol od _ _ Dk a1 a2 a3 _ _; (try simp only [AllLt] at a2); (try k_sweep))
  | (refine' Spec.use (f := 338) ?q245C ?q245d1 ?q245d2 ?q245d3 ?q245kA ?q245kF ?q245kK ?q245k1 ?q245k2 ?q245k3 ?q245k4 ?q245k5 ?_; (case q245kA => exact rfl); (case q245kF => first | exact rfl | assumption); (case q245kK => first | exact rfl | assumption); (case q245k1 => k_asm); (case q245k2 => k_asm); (case q245k3 => k_asm); (case q245k4 => k_asm); (case q245k5 => k_asm); (case q245C => exact line_spec); (case q245d3 => exact rfl); (case q245d1 => exact Nat.le_of_ble_eq_true rfl); (case q245d2 => exact Nat.le_of_ble_eq_true rfl); intro v' n' _ _ po _ _; refine cutP fun R' hR' => ?_; obtain ⟨ln9, e1, dl9, cl9, c9, e9, n19, n29, sz9, vp9, vq9, t19, t29, t39, tw9, e2, q1, q2, q3, q4, q5⟩ := po; subst e1; subst n'; (try simp only [AllLt] at q1); refine hR' ?_; clear hR' R'; kaf_suf; (try k_sweep))
  | (refine' Spec.use (f := 361) ?q245C ?q245d1 ?q245d2 ?q245d3 ?q245kA ?q245kF ?q245kK ?q245k1 ?q245k2 ?q245k3 ?q245k4 ?q245k5 ?_; (case q245kA => exact rfl); (case q245kF => first | exact rfl | assumption); (case q245kK => first | exact rfl | assumption); (case q245k1 => k_asm); (case q245k2 => k_asm); (case q245k3 => k_asm); (case q245k4 => k_asm); (case q245k5 => k_asm); (case q245C => exact gline_spec (by k_mem) (by k_mem) (by k_mem) (by assumption) (by k_extra "om") (by assumption)); (case q245d3 => exact rfl); (case q245d1 => exact Nat.le_of_ble_eq_true rfl); (case q245d2 => exact Nat.le_of_ble_eq_true rfl); intro v' n' _ _ po _ _; refine cutP fun R' hR' => ?_; obtain ⟨e1, e2⟩ := po; subst e1; subst n'; refine hR' ?_; clear hR' R'; kaf_suf; (try k_sweep))
  | (refine' push_use ?q245pU ?q245pz ?q245pm1 ?q245pm2 ?q245d1 ?q245d2 ?q245d3 ?q245kA ?q245kF ?q245kK ?q245k1 ?q245k2 ?q245k3 ?q245k4 ?q245k5 ?_; (case q245kA => exact rfl); (case q245kF => first | exact rfl | assumption); (case q245kK => first | exact rfl | assumption); (case q245d3 => exact rfl); (case q245k1 => k_asm); (case q245k2 => k_asm); (case q245k3 => k_asm); (case q245k4 => k_asm); (case q245k5 => k_asm); (case q245d1 => exact Nat.le_of_ble_eq_true rfl); (case q245d2 => exact Nat.le_of_ble_eq_true rfl); (case q245pm1 => k_mem); (case q245pm2 => k_mem); (case q245pU => k_updF); (case q245pz => k_extra "om"); intro _ _ _ _; kaf_suf; (try k_sweep))
  | (refine' Spec.use (f := 135) ?q245C ?q245d1 ?q245d2 ?q245d3 ?q245kA ?q245kF ?q245kK ?q245k1 ?q245k2 ?q245k3 ?q245k4 ?q245k5 ?_; (case q245kA => exact rfl); (case q245kF => first | exact rfl | assumption); (case q245kK => first | exact rfl | assumption); (case q245k1 => k_asm); (case q245k2 => k_asm); (case q245k3 => k_asm); (case q245k4 => k_asm); (case q245k5 => k_asm); (case q245C => exact view_spec); (case q245d3 => exact rfl); (case q245d1 => exact Nat.le_of_ble_eq_true rfl); (case q245d2 => exact Nat.le_of_ble_eq_true rfl); intro v' n' _ _ po _ _; refine cutP fun R' hR' => ?_; obtain ⟨vw, dv, tv1, tv2, e1, e2, q1, q2⟩ := po; subst e1; subst n'; (try simp only [AllLt] at q1); refine hR' ?_; clear hR' R'; kaf_suf; (try k_sweep))
  | (refine' Spec.use (f := 559) ?q245C ?q245d1 ?q245d2 ?q245d3 ?q245kA ?q245kF ?q245kK ?q245k1 ?q245k2 ?q245k3 ?q245k4 ?q245k5 ?_; (case q245kA => exact rfl); (case q245kF => first | exact rfl | assumption); (case q245kK => first | exact rfl | assumption); (case q245k1 => k_asm); (case q245k2 => k_asm); (case q245k3 => k_asm); (case q245k4 => k_asm); (case q245k5 => k_asm); (case q245C => exact hist_spec); (case q245d3 => exact rfl); (case q245d1 => exact Nat.le_of_ble_eq_true rfl); (case q245d2 => exact Nat.le_of_ble_eq_true rfl); intro v' n' _ _ po _ _; refine cutP fun R' hR' => ?_; obtain ⟨hi, dh, hl, t19, t29, t39, v19, v39, e1, e2, e3, p1, p2, p3⟩ := po; subst e1; subst n'; subst e3; (try simp only [AllLt] at p1); refine hR' ?_; clear hR' R'; kaf_suf; (try k_sweep))
  | (refine' Spec.use (f := 489) ?q245C ?q245d1 ?q245d2 ?q245d3 ?q245kA ?q245kF ?q245kK ?q245k1 ?q245k2 ?q245k3 ?q245k4 ?q245k5 ?_; (case q245kA => exact rfl); (case q245kF => first | exact rfl | assumption); (case q245kK => first | exact rfl | assumption); (case q245k1 => k_asm); (case q245k2 => k_asm); (case q245k3 => k_asm); (case q245k4 => k_asm); (case q245k5 => k_asm); (case q245C => exact grid_spec); (case q245d3 => exact rfl); (case q245d1 => exact Nat.le_of_ble_eq_true rfl); (case q245d2 => exact Nat.le_of_ble_eq_true rfl); intro v' n' _ _ po _ _; obtain ⟨gr, e1, GN⟩ := po; subst e1; refine halt ?_)
  | (refine' draw_use ?q245kD ?q245kn ?q245U1 ?q245U2 ?q245m1 ?q245m2 ?q245d1 ?q245d2 ?q245d3 ?q245kA ?q245kF ?q245kK ?q245k1 ?q245k2 ?q245k3 ?q245k4 ?q245k5 ?_
     (case q245kA => exact rfl); (case q245kF => first | exact rfl | assumption); (case q245kK => first | exact rfl | assumption); (case q245d3 => exact rfl); (case q245k1 => k_asm); (case q245k2 => k_asm); (case q245k3 => k_asm); (case q245k4 => k_asm); (case q245k5 => k_asm); (case q245d1 => exact Nat.le_of_ble_eq_true rfl); (case q245d2 => exact Nat.le_of_ble_eq_true rfl)
     (case q245kD => assumption); (case q245kn => k_ne); (case q245U1 => k_updF); (case q245U2 => (intro _; k_updF)); (case q245m1 => first | decide | k_extra "om"); (case q245m2 => first | decide | k_extra "om")
     intro _ _ _ _ _ _ _ _ _ _ _; kaf_suf; (try k_sweep))
  | (refine halt ?_))))
  k_with "ktr_rel" => (((repeat (refine List.mem_cons_of_mem _ ?_)); with_reducible assumption))
  k_with "k_all" => (assumption)
  k_with "exec For Name Call cons nil" => ((k_here; kxt_pos))
  k_with "subscriptTail" => ((k_here; (with_reducible show wpAny _ _ (subscriptTail _ _ (Value.ref _) (Value.int _ _)) _ _ _); k_dflt (first | (refine menuK (by k_asm) (by exact List.Mem.head _) (by first | exact ints6 | exact ints5) (by assumption) (by assumption) (by decide) ?_; intro _ _ _) | (refine list_at (by k_asm) (by ktr_rel) (by decide) (by decide) (by assumption) ?_) | (refine list_neg (by k_asm) (by ktr_rel) (by decide) (by assumption) ?_))))
  k_with "exec If" => (((with_reducible show wpAny _ _ (exec (PySem.Stmt.If (PySem.Expr.Compare (PySem.Expr.Call _ _ _ _) _ _ _) _ _ _) _) _ _ _); refine halt ?_))
  k_with "eval ListComp" => ((k_here; (with_reducible show wpAny _ _ (eval (PySem.Expr.ListComp _ [⟨PySem.Expr.Name _ _, _, [], 0⟩] _ _) _) _ _ _); k_dflt (refine LCg.ListComp_U (F₀ := by k_asm) (by with_unfolding_all rfl) (by decide) (by rfl) (by decide) (by rfl) ?_)))
  k_with "CompEnd" => ((refine halt ?_))
  k_with "CompSrcT" => ((refine halt ?_))
  k_with "CompSrc" => ((refine halt ?_))
  k_with "FinA" => ((refine halt ?_))
  k_with "FinE" => ((refine halt ?_))
  k_with "compareOp Lt ref ref" => ((k_here; k_dflt (refine lt_pair (by k_asm) (by ktr_rel) (by ktr_rel) (by exact Nat.le_of_ble_eq_true rfl) ?_; first | rw [decide_eq_true (by assumption)] | rw [decide_eq_false (by assumption)])))
  k_with "compareOp GtE ref ref" => ((k_here; k_dflt (refine ge_pair (by k_asm) (by ktr_rel) (by ktr_rel) (by exact Nat.le_of_ble_eq_true rfl) ?_; first | rw [decide_eq_true (by assumption)] | rw [decide_eq_false (by assumption)])))
  k_with "compareOp NotEq" => ((k_here; k_dflt (refine' ne_same2 ?q259N ?q259h1 ?q259h2 ?q259hs ?q259hu ?_; (case q259h1 => assumption); (case q259h2 => assumption); (case q259N => k_asm); (case q259hs => exact fun p hp => by ktr_rel); (case q259hu => exact Nat.le_of_ble_eq_true rfl))))
  k_with "compareOp NotEq ref ref" => ((k_here; k_dflt (refine ne_nil (by k_asm) (by ktr_rel) (by exact List.Mem.head _) (by exact Nat.le_of_ble_eq_true rfl) ?_; first | rw [decide_eq_true (by assumption)] | rw [decide_eq_false (by assumption)])))
  k_with "setAttr ref" => ((k_here; k_dflt (refine' set_dict ?q261k1 ?q261k2 ?q261k3 ?q261k4 ?q261k5 ?q261k6 ?q261k7 ?q261k8 ?q261k9 ?q261k10 ?q261k11 ?q261k12 ?q261k13 ?_; (case q261k1 => k_asm); (case q261k2 => k_asm); (case q261k3 => k_asm); (case q261k4 => exact InstAt.of_news (by k_asm) (by k_mem) (.tail _ (.tail _ (.tail _ (.tail _ (.tail _ (.tail _ (.tail _ (.tail _ (.head _))))))))) ); (case q261k5 => exact rfl); (case q261k6 => k_is); (case q261k7 => k_is); (case q261k8 => k_is); (case q261k9 => k_is); (case q261k10 => k_get); (case q261k11 => exact put_wrapped); (case q261k12 => k_upd); (case q261k13 => exact Nat.le_of_ble_eq_true rfl); k_whole; intro _ _ _; (try k_sweep))))
  k_with "call builtin:list.append" => ((k_here; k_dflt (refine' list_push ?q262F ?q262N ?q262U ?q262z ?_; (case q262F => k_asm); (case q262N => k_asm); (case q262U => k_upd); (case q262z => assumption)); intro _ _ _; (try k_sweep)))
  k_with "UnrEndW" => ((refine halt ?_))
  k_with "exec While" => ((refine halt ?_))
  k_with "exec While BoolOp" => ((refine halt ?_))
  k_with "exec While BoolOp cons nil" => ((refine halt ?_))
  k_with "WhlRest" => ((refine halt ?_))
  k_with "WhlIf" => ((first | (refine WhlIf.yes (by first | assumption | (simp only [decide_eq_true_eq, decide_eq_false_iff_not]; k_extra "om")) ?_) | (refine WhlIf.no (by first | assumption | (simp only [decide_eq_true_eq, decide_eq_false_iff_not]; k_extra "om")) ?_)))
  k_with "call builtin:len" => ((k_here; (with_reducible show wpAny _ _ (call (Value.builtin "len") [Value.ref _]) _ _ _); k_dflt (refine len_listK (by k_asm) (by first | exact List.Mem.head _ | ktr_rel) (by k_extra "om") ?_); intro _ _))
  k_with "subscriptTail Name Constant ref int" => ((k_here; k_dflt (refine tupC_at (by k_asm) (by ktr_rel) (by decide) (by decide) (by rfl) ?_)))
  k_with "call type:tuple" => ((k_here; k_dflt (refine tuple_same (by k_asm) (by ktr_rel) ?_)))
  k_with "compareOp Eq ref ref" => ((k_here; k_dflt (refine' eq_dps ?q272N ?q272Da ?q272Db ?q272ma ?q272mb ?q272sa ?q272hu ?_; (case q272N => k_asm); (case q272ma => first | exact List.Mem.head _ | ktr_rel); (case q272mb => first | exact List.Mem.head _ | ktr_rel); (case q272Da => assumption); (case q272Db => assumption); (case q272sa => exact fun p hp => by ktr_rel); (case q272hu => exact Nat.le_of_ble_eq_true rfl))))
  k_with "exec Assign cons IfExp" => ((refine halt ?_))
  k_with "pyIter ref" => ((refine halt ?_))
  k_with "k_updF" => (first | exact Del.head | (refine' Del.tail ?q275a ?q275b; (case q275a => k_ne); (case q275b => k_updF)))
  trivial
theorem law_holds : PySem.Challenge.rw_np0280_01.Holds := by
  refine hd ?_
  k_go0
  all_goals try k_fold
  rename World => w
  rename Shared => sh
  rename Top _ _ _ _ _ _ => hT
  k_steps
  rename GridNew _ _ _ _ => GN
  obtain ⟨dg, gl, dl0, cl0, ln0, dl1, cl1, ln1, b0, b1, k0, m0, k1, m1, gn, z0, z1, v1, v2, x1, x2, x3, y1, y2, y3, t1, t2, t3, own, rfl, g1, g2, g3, g4, g5, cb0, cb1, o1, o2, o3, o4, o5, o6⟩ := GN
  simp only [AllLt] at o1
  rename_i oc hoc N0 X0 fq1 fe1 fq2 fe2 h1 tk1 sg h2 la jr h3 lb tp h4 lc h5 h6 h7 h8 fq3 fe3 h9 tk2 h10 tk3 F9 N9
  refine Halt.go ?_
  dsimp only
  obtain ⟨c0, hc0⟩ := c0_of N0
  rw [hc0] at N9 a1 a2 la lb lc p1 o1 o6
  have N10 := law_led (lf := lf) (dk := dk) (sg := sg) (jr := jr) (hl := hl) (c0 := c0) N9 (by k_updF) (by k_updF) (by k_updF) (by k_updF) (by k_updF) (by k_updF)
  clear N9
  generalize hB : own ++ _ = base at N10
  obtain ⟨hb1, hb2, sbB⟩ := mem_tail3 hB
  replace g1 := sbB _ g1
  replace g2 := sbB _ g2
  replace g3 := sbB _ g3
  replace g4 := sbB _ g4
  replace g5 := sbB _ g5
  replace cb0 := cb0.mono sbB
  replace cb1 := cb1.mono sbB
  have a1 : c0 ≠ lf := a1 _ (.head _)
  have offB : ∀ p ∈ base, @Ne Nat p.1 c0 ∧ @Ne Nat p.1 lf ∧ @Ne Nat p.1 dk ∧ @Ne Nat p.1 sg ∧ @Ne Nat p.1 jr ∧ @Ne Nat p.1 hl ∧ (@Ne Nat p.1 dl0 ∧ @Ne Nat p.1 cl0) ∧ (@Ne Nat p.1 dl1 ∧ @Ne Nat p.1 cl1) := by
    intro p hp
    rw [← hB] at hp
    rcases List.mem_append.mp hp with hp | hp
    · have h1 := o5 p hp
      have h2 := off_nine (o6 p hp)
      simp only [] at h1 h2
      exact ⟨h2.2.2.2.2.2.2.2.2.symm, h2.2.2.2.2.2.2.1.symm, h2.2.2.2.2.2.2.2.1.symm, h2.2.2.2.2.2.1.symm, h2.2.2.2.2.1.symm, h2.1.symm, ⟨h1.2.1, h1.1⟩, h1.2.2.2, h1.2.2.1⟩
    · simp only [List.mem_cons, List.not_mem_nil, or_false] at hp
      rcases hp with rfl | rfl | rfl <;> refine ⟨?_, ?_, ?_, ?_, ?_, ?_, ⟨?_, ?_⟩, ?_, ?_⟩ <;> k_ne
  have f1 : ∀ p ∈ base, p.1 ≠ c0 := fun p hp => (offB p hp).1
  have f2 : ∀ p ∈ base, p.1 ≠ lf := fun p hp => (offB p hp).2.1
  have f3 : ∀ p ∈ base, p.1 ≠ dk := fun p hp => (offB p hp).2.2.1
  clear o6 o5 hB sbB
  k_steps
  rename_i D5 hh1 l5 hh2 hh3 hh4 tk5 rm trm ol2 od2 hh5 tk6 rm0 rm1 Dk2 hh6 F5 N5 hh7 tk8 tt1 tt2 tt3 hR F2 N2 hkeep
  obtain ⟨M, rfl⟩ : ∃ M : Nat, rm = (M : Int) := ⟨rm.toNat, by k_extra "om"⟩
  have hM3 : M < 3 := Int.ofNat_lt.mp rm1
  clear F5 N5 l5 hkeep f1 f2 f3
  replace N2 := Del.drop N2 .head
  have F3 := fr_name (fr_name (fr_name (fr_name (fr_name (fr_name F2 (Str.ofString "many") rfl) (Str.ofString "grid") rfl) (Str.ofString "history") rfl) (Str.ofString "joined_rows") rfl) (Str.ofString "signs") rfl) (Str.ofString "deck") rfl
  clear F2
  let a : LawAddr := ⟨c0, lf, dk, sg, jr, hi, hl, gr, dl0, cl0, ln0, dl1, cl1, ln1⟩
  replace hb1 : (a.hi, instObj 559 dh) ∈ base := hb1
  replace hb2 := (show (dh, dictOf (histDict w.params _ _ _ _ _ a.hl) _) ∈ base from hb2)
  replace g1 : (a.gr, instObj 489 dg) ∈ base := g1
  replace g3 : (gl, W.listOf [Value.ref a.ln0, .ref a.ln1].toArray gn) ∈ base := g3
  replace g4 : (a.ln0, instObj 338 a.dl0) ∈ base := g4
  replace g5 : (a.ln1, instObj 338 a.dl1) ∈ base := g5
  have hO : ∀ I : Nat, a.cl1 < I → LawOrd a I := fun I h => ⟨a1, a2.1, a3, la.2.1, lb.1, Nat.lt_trans (Nat.lt_trans p1.2.1 p2) p3, o1.1, o2, o3, o4, h⟩
  refine Halt.go (iter_rangeTurns (n := M + 2) rfl hR (rng_small (n := M + 2) (by k_extra "om")) (rng_size (M + 2)) F3 N2 (fun I hI => items_ind (RowInv _ a I M oc (.int (M : Int) trm) base (pendOf _ a.cl0 a.dl0 b0 z0 m0 k0 x1 x2 x3) (pendOf _ a.cl1 a.dl1 b1 z1 m1 k1 y1 y2 y3)) ?step ?done _ _ _ ⟨0, _, [], 0, rfl, Nat.zero_le _, .inl ⟨Nat.zero_le _, rfl, rfl, rfl⟩, [], [], [], ol2, od2, 0, 0, 0, base, _, rfl, fun _ h => (nomatch h), fun h => absurd h (by k_extra "om"), rfl, Dk2, rfl, rfl, .nil, .nil, fun _ h => h, ?off⟩))
  case off =>
    intro p hp
    have q := offB p hp
    exact ⟨Nat.ne_of_lt (hI p (by repeat (first | exact hp | refine List.mem_cons_of_mem _ ?_))), q.1, q.2.1, q.2.2.1, q.2.2.2.1, q.2.2.2.2.1, q.2.2.2.2.2.1, fun _ => q.2.2.2.2.2.2.1, fun _ => q.2.2.2.2.2.2.2⟩
  case step =>
    -- BEGIN step
    clear hR F3 N2
    have hIc : @LT.lt Nat _ a.cl1 I := hI _ (.tail _ (.tail _ (.tail _ (.tail _ (.tail _ (.tail _ (.tail _ (.tail _ (.head _)))))))))
    have O := hO I hIc
    rintro x r m3 nx v h tk its ⟨k, pend, gd, hk, hleft, hk2, hst, rows, svs, hvs, ol, od, ns, nj, nh, rest, u, hrl, hr4, -, hhv, D, rfl, rfl, hsg, hln, hsub, hoff⟩ hv hits F4 N4
    obtain ⟨hkn, rfl, rfl⟩ := rangeItems_cons hleft hk2
    obtain ⟨t, rfl⟩ := hv
    obtain ⟨oI, rfl, hcI⟩ := objs1 hits
    simp only [List.cons_append, List.nil_append] at N4
    obtain ⟨ci, hci⟩ : ∃ ci : Int, 0 + (k : Int) = ci := ⟨_, rfl⟩
    show wpAny _ _ (assign _ _ (Value.int (0 + (k : Int)) t)) _ _ _
    rw [hci]
    k_steps
    rename Fr _ _ _ _ => F5
    rename News _ _ _ _ => N5
    obtain ⟨pend', gd', hk', hst', hpn⟩ := stage_next hst hkn
    refine Halt.go (wpAny_mono (Q := fun f S' => f = .next ∧ LnReady w a hT.heap sh.heap.objs.size I M k oI oc ol od (W.listOf svs.toArray ns) (W.listOf (rows.map fun x => Value.bool x.2).toArray nj) (W.listOf hvs.toArray nh) (.int (M : Int) trm) (.int ci t) sh pend' rest S') ?rwLn (fun f S' hS => ?rwTail) (fun _ _ x => x))
    case rwLn =>
      rcases hpn with ⟨c1, c2, -, -, -, -⟩ | ⟨c1, c2, c3, -, -⟩ | ⟨c1, c2, c3, -, -⟩
      · subst c2
        refine wpAny_Assign_Name ?_
        k_steps
        · trivial
        rename_i h9 F9 N9
        exact lnReadyA O hoff c1 F9 N9 q1.1 q1.2.2.2.2.2.2.2 q2 q3 q4 q5
      · subst c2
        have hci0 : 0 ≤ ci - M := by k_extra "om"
        have hx : [Value.ref a.ln0, .ref a.ln1][(ci - M).toNat]? = some (.ref a.ln0) := by
          rw [show (ci - M).toNat = 0 by k_extra "om"]
          rfl
        simp only [pendOf, List.cons_append, List.nil_append] at N5
        have g1 := List.mem_append_right pend' (hsub _ g1)
        have g2 := List.mem_append_right pend' (hsub _ g2)
        have g3 := List.mem_append_right pend' (hsub _ g3)
        refine wpAny_Assign_Name ?_
        k_steps
        · trivial
        rename News _ _ _ _ => N9
        rename Fr _ _ _ _ => F9
        exact lnReady0 O hoff c1 (by subst c3; exact pend_adr) F9 (hsub _ g4) (cb0.mono hsub) N9
      · subst c2
        have hci0 : 0 ≤ ci - M := by k_extra "om"
        have hx : [Value.ref a.ln0, .ref a.ln1][(ci - M).toNat]? = some (.ref a.ln1) := by
          rw [show (ci - M).toNat = 1 by k_extra "om"]
          rfl
        simp only [pendOf, List.cons_append, List.nil_append] at N5
        have g1 := List.mem_append_right pend' (hsub _ g1)
        have g2 := List.mem_append_right pend' (hsub _ g2)
        have g3 := List.mem_append_right pend' (hsub _ g3)
        refine wpAny_Assign_Name ?_
        k_steps
        · trivial
        rename News _ _ _ _ => N9
        rename Fr _ _ _ _ => F9
        subst c3
        exact lnReady1 O hoff c1 F9 (hsub _ g5) (cb1.mono hsub) N9
    case rwTail =>
      clear N4 F4 N5 F5
      obtain ⟨rfl, h6, tk6, u6, ln, dl, cl, n1, n2, d0, d1, d2, d3, sz, t4, t5, t6, R, rfl, F6, N6, hlnR, hd0, hd1, hd2, hd3, hsubR, hoffR, hodl, hocl, hoffT, r1, r2, r3, r4, hk0, hk1⟩ := hS
      have hoffE := tail_off O hst' hoffR hoffT
      obtain ⟨T, hT9⟩ : ∃ T, T = pend' ++ R := ⟨_, rfl⟩
      rw [← hT9] at N6 hoffE
      obtain ⟨w1, w2, w3, w4, w5, w6, w7, w8, w9⟩ := OffE.news hoffE
      have sT : ∀ p ∈ R, p ∈ T := by rw [hT9]; exact fun p hp => List.mem_append_right _ hp
      have hlnT := sT _ hlnR
      have hsvl := hsg.length
      rw [List.length_map, hrl] at hsvl
      have h100 : k ≤ 100 := Nat.le_of_lt (Nat.lt_trans hkn (Nat.lt_of_lt_of_le (Nat.add_lt_add_right hM3 2) (Nat.le_of_ble_eq_true rfl)))
      have hsv100 : svs.length ≤ 100 := by rw [hsvl]; exact h100
      obtain ⟨p0, pc, p1', p2', p3', p6, p7, p8, p9, p10, p11⟩ := id O
      k_steps
      refine' Halt.go (law_line_use ?vD ?vv ?vU1 ?vU2 ?vU3 ?vU4 ?vn1 ?vn2 ?vn3 ?vn4 ?vn5 ?vn6 ?vb0 ?vb1 ?vb2 ?vb3 ?vln ?vdl ?vdk ?d1 ?d2 ?d3 ?kA ?kF ?kK ?k1 ?k2 ?k3 ?k4 ?k5 ?_)
      (case kA => exact rfl); (case kF => first | exact rfl | assumption); (case kK => first | exact rfl | assumption); (case d3 => exact rfl); (case k1 => k_asm); (case k2 => k_asm); (case k3 => k_asm); (case k4 => k_asm); (case k5 => k_asm); (case d1 => exact Nat.le_of_ble_eq_true rfl); (case d2 => exact Nat.le_of_ble_eq_true rfl)
      case vln => exact .tail _ (.tail _ (.tail _ (.tail _ (.tail _ (.tail _ (.tail _ (.tail _ (.tail _ hlnT))))))))
      case vdl => exact .tail _ (.tail _ (.tail _ (.tail _ (.tail _ (.tail _ (.tail _ (.tail _ (.head _))))))))
      case vD => exact D
      case vU1 => k_updF
      case vU2 => (intro _; k_updF)
      case vU3 => (intro _ _; k_updF)
      case vU4 => (intro _ _ _; k_updF)
      case vv => exact hsv100
      case vn1 => k_ne
      case vn2 => k_ne
      case vn3 => k_ne
      case vn4 => k_ne
      case vn5 => k_ne
      case vn6 => k_ne
      case vdk => k_ne
      case vb0 => exact hd0.mono fun p hp => .tail _ (.tail _ (.tail _ (.tail _ (.tail _ (.tail _ (.tail _ (.tail _ (.tail _ (sT p hp)))))))))
      case vb1 => exact hd1.mono fun p hp => .tail _ (.tail _ (.tail _ (.tail _ (.tail _ (.tail _ (.tail _ (.tail _ (.tail _ (sT p hp)))))))))
      case vb2 => exact hd2.mono fun p hp => .tail _ (.tail _ (.tail _ (.tail _ (.tail _ (.tail _ (.tail _ (.tail _ (.tail _ (sT p hp)))))))))
      case vb3 => exact hd3.mono fun p hp => .tail _ (.tail _ (.tail _ (.tail _ (.tail _ (.tail _ (.tail _ (.tail _ (.tail _ (sT p hp)))))))))
      intro xs cs tv tl nt n2' ol' od' own h7 tk7 hx D' hown hcs htv htl F7 N7
      try dsimp only at N7 hcs
      simp only [List.cons_append] at N7 hcs
      have hownI : ∀ p ∈ own, @LT.lt Nat _ I p.1 := fun p hp => (hown p hp).1
      have hcsR : All2 (CellIn (R ++ own)) cs xs := by
        rw [hT9] at hcs
        exact cells_strip hcs (cls_ntup hcI (by decide)) D'.ntup.1 D'.ntup.2 list_ntup list_ntup list_ntup (cell_ntup hoc) list_ntup dict_ntup (fun p hp => (stage_adr hst' p hp).2)
      have offO := own_off hown
      obtain ⟨T2, hT2⟩ : ∃ T2, T2 = T ++ own := ⟨_, rfl⟩
      rw [← hT2] at N7
      have sT2 : ∀ p ∈ T, p ∈ T2 := by rw [hT2]; exact fun p hp => List.mem_append_left _ hp
      have off2 : ∀ p ∈ T2, OffE a I dl cl p.1 := by
        rw [hT2]
        exact fun p hp => (List.mem_append.mp hp).elim (hoffE p) (offO p)
      clear w1 w2 w3 w4 w5 w6 w7 w8 w9 hcs hown hoffE offO D
      obtain ⟨w1, w2, w3, w4, w5, w6, w7, w8, w9⟩ := OffE.news off2
      replace hlnT := sT2 _ hlnT
      have hb1 := sT2 _ (sT _ (hsubR _ (hsub _ hb1)))
      have hb2 := sT2 _ (sT _ (hsubR _ (hsub _ hb2)))
      clear sT2 sT hd0 hd1 hd2 hd3 off2
      have hjl : (rows.map fun x => Value.bool x.2).length ≤ 100 := by rw [List.length_map, hrl]; exact h100
      rcases hpn with ⟨c1, -, c2, c3, c4, c5⟩ | ⟨c1, -, -, c4, c5⟩ | ⟨c1, -, -, c4, c5⟩
      · have hv4 : hvs.length ≤ 4 := by k_extra "om"
        k_steps
        rename Fr _ _ _ _ => F9
        rename News _ _ _ _ => N9
        rename Deck _ _ _ _ => D9
        rw [hT2, hT9] at N9
        exact Halt.go (row_end O hkn hst' hrl hr4 hx (fun h => by k_extra "om") (by rw [List.length_append, hhv, c4, c5]; rfl) D9 hsg hln (by rw [c3, c2]; simp) hsub hsubR hlnR hoffR hodl hocl hownI htl htv hcsR F9 N9 rfl rfl rfl rfl rfl rfl)
      · k_steps
        rename Fr _ _ _ _ => F9
        rename News _ _ _ _ => N9
        rename Deck _ _ _ _ => D9
        rw [hT2, hT9] at N9
        exact Halt.go (row_end O hkn hst' hrl hr4 hx (fun h => by k_extra "om") (by rw [c5]; exact hhv) D9 hsg hln (by rw [c4, hk0 c1, List.append_assoc]) hsub hsubR hlnR hoffR hodl hocl hownI htl htv hcsR F9 N9 rfl rfl rfl rfl rfl rfl)
      · k_steps
        rename Fr _ _ _ _ => F9
        rename News _ _ _ _ => N9
        rename Deck _ _ _ _ => D9
        rw [hT2, hT9] at N9
        exact Halt.go (row_end O hkn hst' hrl hr4 hx (fun h => decide_eq_false (by k_extra "om")) (by rw [c5]; exact hhv) D9 hsg hln (by rw [c4, hk1 c1, List.append_assoc]) hsub hsubR hlnR hoffR hodl hocl hownI htl htv hcsR F9 N9 rfl rfl rfl rfl rfl rfl)
    -- END step
  case done =>
    clear hR F3 N2
    have hIc : @LT.lt Nat _ a.cl1 I := hI _ (.tail _ (.tail _ (.tail _ (.tail _ (.tail _ (.tail _ (.tail _ (.tail _ (.head _)))))))))
    have O := hO I hIc
    rintro m3 nx h tk ⟨k, pend, gd, hk, hleft, hk2, hst, rows, svs, hvs, ol, od, ns, nj, nh, rest, u, hrl, hr4, hlast, hhv, D, rfl, rfl, hsg, hln, hsub, hoff⟩ F4 N4
    obtain ⟨hkM, rfl, rfl, hhk⟩ := stage_end hst (rangeItems_nil hleft)
    have G := goodRows_of (by k_extra "om") (hrl.trans hkM) hr4 (hlast hkM)
    simp only [List.nil_append] at N4
    obtain ⟨p0, pc, p1', p2', p3', p6, p7, p8, p9, p10, p11⟩ := id O
    have hoff' : ∀ p ∈ rest, @Ne Nat p.1 a.c0 ∧ @Ne Nat p.1 a.lf ∧ @Ne Nat p.1 a.dk := fun p hp => ⟨(hoff p hp).2.1, (hoff p hp).2.2.1, (hoff p hp).2.2.2.1⟩
    obtain ⟨Wd, hW⟩ : ∃ Wd, Wd = (a.sg, W.listOf svs.toArray ns) :: (a.jr, W.listOf (rows.map fun x => Value.bool x.2).toArray nj) :: (a.hl, W.listOf hvs.toArray nh) :: rest := ⟨_, rfl⟩
    have N5 : News hT.heap sh.heap.objs.size h ((a.lf, ol) :: (a.dk, od) :: (a.c0, oc) :: Wd) := by
      rw [hW]
      refine fun p hp => N4 p ?_
      simp only [List.mem_cons] at hp ⊢
      rcases hp with h | h | h | h | h | h | h <;> simp [h]
    have sW : ∀ p ∈ rest, p ∈ Wd := by rw [hW]; exact fun p hp => .tail _ (.tail _ (.tail _ hp))
    have msg : (a.sg, W.listOf svs.toArray ns) ∈ Wd := by rw [hW]; exact .head _
    have mjr : (a.jr, W.listOf (rows.map fun x => Value.bool x.2).toArray nj) ∈ Wd := by rw [hW]; exact .tail _ (.head _)
    have mhl : (a.hl, W.listOf hvs.toArray nh) ∈ Wd := by rw [hW]; exact .tail _ (.tail _ (.head _))
    have offW : ∀ p ∈ Wd, @Ne Nat p.1 a.c0 ∧ @Ne Nat p.1 a.lf ∧ @Ne Nat p.1 a.dk := by
      rw [hW]
      intro p hp
      simp only [List.mem_cons] at hp
      rcases hp with rfl | rfl | rfl | hp
      · refine ⟨?_, ?_, ?_⟩ <;> k_ne
      · refine ⟨?_, ?_, ?_⟩ <;> k_ne
      · refine ⟨?_, ?_, ?_⟩ <;> k_ne
      · exact hoff' p hp
    have hsgW := hsg.mono fun _ _ h => h.mono sW
    have hlnW := hln.mono fun _ _ h => h.mono sW
    have mb1 := sW _ (hsub _ hb1)
    have mb2 := sW _ (hsub _ hb2)
    have mg1 := sW _ (hsub _ g1)
    have mg2 := sW _ (hsub _ g2)
    have mg3 := sW _ (hsub _ g3)
    have f1 : ∀ p ∈ Wd, p.1 ≠ a.c0 := fun p hp => (offW p hp).1
    have f2 : ∀ p ∈ Wd, p.1 ≠ a.lf := fun p hp => (offW p hp).2.1
    have f3 : ∀ p ∈ Wd, p.1 ≠ a.dk := fun p hp => (offW p hp).2.2
    replace F4 : Fr hT.heap sh.heap.objs.size h _ := F4
    have hc1 : a.c0 = sh.heap.objs.size + 1 := hc0.symm
    rw [hc1] at N5 f1 p0 pc
    clear N4 hsg hln hoff hoff' sW hsub hst hW
    k_steps
    refine Halt.go ?_
    refine' Spec.use (f := 589) ?C ?d1 ?d2 ?d3 ?kA ?kF ?kK ?k1 ?k2 ?k3 ?k4 ?k5 ?_
    (case kA => exact rfl); (case kF => first | exact rfl | assumption); (case kK => first | exact rfl | assumption); (case k1 => k_asm); (case k2 => k_asm); (case k3 => k_asm); (case k4 => k_asm); (case k5 => k_asm)
    case C => exact stream_spec G (by ktr_rel) (hsgW.mono fun _ _ h => h.mono fun p hp => by ktr_rel) (by ktr_rel)
    (case d3 => exact rfl); (case d1 => exact Nat.le_of_ble_eq_true rfl); (case d2 => exact Nat.le_of_ble_eq_true rfl)
    rintro v n' h8 tk8 ⟨sl, sn, ssv, nn, rfl, rfl, hnn, hlt, hup, hda⟩ F8 N8
    rename_i hh9 tk9 F9 N9
    obtain ⟨W2, NW, mvw, mdv, sW2, msl, daW, offW2⟩ := stream_pack N8 hnn hlt hup hda (ntup_cls (by simp)) (ntup_cls (by simp)) D.ncls.1 D.ncls.2 (ntup_cell hoc)
    have hvl := hlnW.length
    have HV : ViewIn w.params W2 vw rows := ⟨dv, a.hi, dh, a.hl, a.gr, dg, gl, hvs, [.ref a.ln0, .ref a.ln1], 2, 3, nh, 3, gn, tv1, tv2, _, _, _, _, _, _, _, _, _, _, mvw, mdv, sW2 _ mb1, sW2 _ mb2, sW2 _ mhl, sW2 _ mg1, sW2 _ mg2, sW2 _ mg3, hlnW.mono fun _ _ h => h.mono sW2, G.2.2.1, rfl⟩
    have u1 : ∀ p ∈ W2, p.1 ≠ a.lf := offW2 _ (.head _) (by k_ne) (by k_ne) f2
    have u2 : ∀ p ∈ W2, p.1 ≠ a.dk := offW2 _ (.tail _ (.head _)) (by k_ne) (by k_ne) f3
    have u3 : ∀ p ∈ W2, p.1 ≠ sh.heap.objs.size + 1 := offW2 _ (.tail _ (.tail _ (.head _))) (by k_ne) (by k_ne) f1
    clear F9 N9 N8 hnn hlt hup hda f1 f2 f3 offW2 sW2 mvw mdv mb1 mb2 mg1 mg2 mg3 hlnW hsgW offW msg mjr mhl
    k_steps
    rename_i j0 tj hj0 cw hh1 lcw hh2 r3 tr3 ol3 od3 hh3 tk3' q3 q4 D3 F9 N9 hh4 tk4 tu1 tu2 tu3 hR F5 N5 hk5
    clear F9 N9 hk5
    obtain ⟨n3, rfl⟩ : ∃ n : Nat, r3 = (n : Int) := ⟨r3.toNat, by k_extra "om"⟩
    have N6 : News hT.heap sh.heap.objs.size hh4 ((cw, listOf [Value.int j0 tj].toArray 0) :: (a.lf, ol3) :: (a.dk, od3) :: (sh.heap.objs.size + 1, oc) :: W2) := fun p hp => N5 p ((List.mem_cons.mp hp).elim (fun h => h ▸ .head _) fun h => .tail _ (.tail _ (.tail _ h)))
    have F6 := code_frame F5 (vw := vw) (sl := sl) rfl rfl rfl rfl rfl
    clear F5 N5
    refine Halt.go (iter_rangeTurns (n := n3) rfl hR (rng_small (by k_extra "om")) (rng_size n3) F6 N6 (fun I2 hI2 => items_ind (CodeInv w cw vw sl a.lf a.dk (sh.heap.objs.size + 1) n3 oc (.int (M : Int) trm) W2) ?cdStep ?cdDone _ _ _ ⟨0, _, [j0], 0, ol3, od3, _, rfl, Nat.zero_le _, .cons _ _ .nil, rfl, D3, rfl, rfl⟩))
    case cdStep =>
      -- BEGIN cdStep
      clear hR F6 N6
      rintro x r m4 nx v h tk its ⟨i, cvs, codes, cn, ol4, od4, u4, hleft4, hi4, hints, hcl, D4, rfl, rfl⟩ hv hits F7 N7
      obtain ⟨hin, rfl, rfl⟩ := rangeItems_cons hleft4 hi4
      obtain ⟨t, rfl⟩ := hv
      obtain ⟨oI, rfl, hcI⟩ := objs1 hits
      simp only [List.cons_append, List.nil_append] at N7
      have hvl4 := hints.length
      have hv100 : cvs.length ≤ 100 := by k_extra "om"
      have zI : ∀ p ∈ (cw, listOf cvs.toArray cn) :: (a.lf, ol4) :: (a.dk, od4) :: (sh.heap.objs.size + 1, oc) :: W2, @LT.lt Nat _ p.1 I2 := by
        intro p hp
        rcases List.mem_cons.mp hp with rfl | hp
        · exact hI2 (cw, listOf [Value.int j0 tj].toArray 0) (.head _)
        rcases List.mem_cons.mp hp with rfl | hp
        · exact hI2 (a.lf, ol3) (.tail _ (.head _))
        rcases List.mem_cons.mp hp with rfl | hp
        · exact hI2 (a.dk, od3) (.tail _ (.tail _ (.head _)))
        exact hI2 p (.tail _ (.tail _ (.tail _ hp)))
      have zI1 : @LT.lt Nat _ cw I2 := zI _ (.head _)
      have zI2 : @LT.lt Nat _ a.lf I2 := zI _ (.tail _ (.head _))
      have zI3 : @LT.lt Nat _ a.dk I2 := zI _ (.tail _ (.tail _ (.head _)))
      have zI4 : @LT.lt Nat _ (sh.heap.objs.size + 1) I2 := zI _ (.tail _ (.tail _ (.tail _ (.head _))))
      have zI5 : ∀ p ∈ W2, p.1 ≠ I2 := fun p hp => Nat.ne_of_lt (zI p (.tail _ (.tail _ (.tail _ (.tail _ hp)))))
      have zI6 : ∀ p ∈ W2, p.1 ≠ cw := fun p hp => Nat.ne_of_lt (allLt_mem lcw.2.2.2.2.2 p hp)
      k_steps
      rename Fr _ _ _ _ => F8
      rename News _ _ _ _ => N8
      rename Deck _ _ _ _ => D8
      refine Halt.go (turn_end2 (code_frame F8 rfl rfl rfl rfl rfl) N8 (fun p hp => .tail _ hp) ?cdOff trivial ⟨i + 1, _, _, _, _, _, _, rfl, hin, ints_snoc hints, by rw [List.length_append, hcl]; rfl, D8, rfl, rfl⟩)
      case cdOff =>
        intro q hq p hp
        obtain rfl : q = (I2, oI) := by simpa using hq
        show @Ne Nat p.1 I2
        simp only [List.mem_cons] at hp
        rcases hp with rfl | rfl | rfl | rfl | hp
        · exact Nat.ne_of_lt zI1
        · exact Nat.ne_of_lt zI2
        · exact Nat.ne_of_lt zI3
        · exact Nat.ne_of_lt zI4
        · exact zI5 p hp
      -- END cdStep
    case cdDone =>
      clear hR F6 N6
      rintro m4 nx h tk ⟨i, cvs, codes, cn, ol4, od4, u4, hleft4, hi4, hints, hcl, D4, rfl, rfl⟩ F7 N7
      replace F7 : Fr hT.heap sh.heap.objs.size h _ := F7
      replace N7 : News hT.heap sh.heap.objs.size h _ := N7
      have hc3 : codes.length ≤ 3 := by k_extra "om"
      have hcne : codes ≠ [] := by rintro rfl; simp at hcl
      clear hleft4 hI2 hcl
      k_steps
      rename_i rf trf ol5 od5 hh5 tk5 e1 e2 D5 ra tra ol6 od6 hh6 tk6 e3 e4 D6 rb trb ol7 od7 hh7 tk7 e5 e6 D7 tp hh8 l8 tq hh9 l9 hh10 hh11 hh12 oc2 F8 N8 d8
      obtain ⟨V, hV, N9⟩ := led_name N8
      have mcw : (cw, listOf cvs.toArray cn) ∈ V := by rw [hV]; exact .tail _ (.tail _ (.head _))
      have mtp : (tp, tupC [.int ra tra, .int rb trb] 0) ∈ V := by rw [hV]; exact .tail _ (.head _)
      have mc0 : (sh.heap.objs.size + 1, oc2) ∈ V := by rw [hV]; exact .tail _ (.tail _ (.tail _ (.tail _ (.tail _ (.head _)))))
      have sV : ∀ p ∈ W2, p ∈ V := by rw [hV]; exact fun p hp => .tail _ (.tail _ (.tail _ (.tail _ (.tail _ (.tail _ hp)))))
      have HV2 := HV.mono sV
      have daV := daW.mono sV
      have mslV := sV _ msl
      have hfl : (flow rows rows.length).length ≤ 20 := by
        have q1 := flow_len rows rows.length
        have q2 := G.2.2.1
        k_extra "om"
      clear N8 hV sV HV daW msl u1 u2 u3 l8 l9 D5 D6 D7 e1 e2 e3 e4 e5 e6
      refine Halt.go ?_
      refine' Spec.use (f := 601) ?C ?d1 ?d2 ?d3 ?kA ?kF ?kK ?k1 ?k2 ?k3 ?k4 ?k5 ?_
      (case kA => exact rfl); (case kF => first | exact rfl | assumption); (case kK => first | exact rfl | assumption); (case k1 => k_asm); (case k2 => k_asm); (case k3 => k_asm); (case k4 => k_asm); (case k5 => k_asm)
      case C => exact places_spec mslV daV hfl mcw hints hc3
      (case d3 => exact rfl); (case d1 => exact Nat.le_of_ble_eq_true rfl); (case d2 => exact Nat.le_of_ble_eq_true rfl)
      rintro v n' h13 tk13 ⟨du, dn, dvs, nn, rfl, rfl, sub, hdue⟩ F9 N9
      obtain ⟨V2, hV2⟩ : ∃ V2, V2 = (du, listOf dvs.toArray dn) :: nn := ⟨_, rfl⟩
      have sV2 : ∀ p ∈ V, p ∈ V2 := by rw [hV2]; exact fun p hp => .tail _ (sub p hp)
      have mdu : (du, listOf dvs.toArray dn) ∈ V2 := by rw [hV2]; exact .head _
      have hdu2 : DatAll V2 dvs _ := hdue.mono (by rw [hV2]; exact fun p hp => .tail _ hp)
      rw [← hV2] at N9
      replace mcw := sV2 _ mcw
      replace mtp := sV2 _ mtp
      replace mc0 := sV2 _ mc0
      have HV3 := HV2.mono sV2
      have hdl := hdu2.length
      rw [List.length_map] at hdl
      have hl20 := hits_len (flow rows rows.length) (foldBy (rf == 1)) (codes.map (foldBy (rf == 1))) (flow rows rows.length).length
      have hall := hits_all (ss := flow rows rows.length) (g := foldBy (rf == 1)) hcne (foldBy (rf == 1))
      obtain ⟨due, hduedef⟩ : ∃ due, due = hits (flow rows rows.length) (foldBy (rf == 1)) (codes.map (foldBy (rf == 1))) (flow rows rows.length).length := ⟨_, rfl⟩
      rw [← hduedef] at hdu2 hdl hl20 hall
      clear hdue hV2 sub sV2 HV2 daV mslV
      have hsz : dvs.toArray.size ≤ sizeLine := by rw [sizeLine_eq]; simp; k_extra "om"
      k_steps
      rename Fr _ _ _ _ => F2
      rename News _ _ _ _ => N2
      refine Halt.go (LCt.CompSrcT.ledger rfl F2 N2 mdu hsz (fun g => compT_ind (fun i ys nx => nx = V2 ∧ DatAll V2 ys (((due.take i).filter fun p => pge p (ra, rb)).map dP)) ?cmStep ?cmDone _ 0 [] _ (Nat.zero_add _) ⟨rfl, .nil⟩))
      case cmStep =>
        -- BEGIN cmStep
        clear F2 N2
        rintro i ys nx v I oI C oC D m₂ h tk E' hi' ⟨hnx, hys⟩ hP hns hx F3 N3 off ne
        subst nx
        obtain ⟨x, ax, na, t3, t4, hxa, rfl, hma⟩ := dP_at hdu2 (k := i) (v := v) (by simpa using hP)
        have z1 : ∀ p ∈ V2, p.1 ≠ I := fun p hp => (LCg.Off3.mem off p hp).1
        have z2 : ∀ p ∈ V2, p.1 ≠ C := fun p hp => (LCg.Off3.mem off p hp).2.1
        have z3 : ∀ p ∈ V2, p.1 ≠ D := fun p hp => (LCg.Off3.mem off p hp).2.2
        by_cases hq : ra < x.1 ∨ x.1 = ra ∧ rb ≤ x.2
        · have hq' : pge x (ra, rb) = true := decide_eq_true hq
          k_steps
          refine' Halt.go (compEnd_of ?pa1z ?pa2z ?pa3z ?pa4z ?pa5z off ?pa7z ⟨rfl, ?pa8z⟩)
          case pa1z => k_asm
          case pa2z => k_asm
          case pa3z => k_updF
          case pa4z => k_updF
          case pa5z => k_updF
          case pa7z => exact .inr ⟨_, mdu, rfl, _, rfl⟩
          case pa8z =>
            rw [take_snoc hxa, filter_snoc, if_pos hq', List.map_append]
            exact hys.append (.one (dP_in hma))
        · have hq' : ¬ pge x (ra, rb) = true := fun h => hq (of_decide_eq_true h)
          k_steps
          refine' Halt.go (compEnd_of ?pb1z ?pb2z ?pb3z ?pb4z ?pb5z off ?pb7z ⟨rfl, ?pb8z⟩)
          case pb1z => k_asm
          case pb2z => k_asm
          case pb3z => k_updF
          case pb4z => k_updF
          case pb5z => k_updF
          case pb7z => exact .inr ⟨_, mdu, rfl, _, rfl⟩
          case pb8z =>
            rw [take_snoc hxa, filter_snoc, if_neg hq', List.append_nil]
            exact hys
        -- END cmStep
      case cmDone =>
        clear F2 N2
        rintro lvs nx ⟨hnx, hlv⟩
        subst nx
        rw [List.take_of_length_le (by simp; k_extra "om")] at hlv
        refine Halt.go ?_
        intro DL h2 tk2 F2 N2 o2
        obtain ⟨V3, hV3, N3⟩ := led_name N2
        have sV3 : ∀ p ∈ V2, p ∈ V3 := by rw [hV3]; exact fun p hp => .tail _ hp
        have mDL : (DL, listOf lvs.toArray lvs.length) ∈ V3 := by rw [hV3]; exact .head _
        have hlv3 := hlv.mono sV3
        have hdu3 := hdu2.mono sV3
        replace mdu := sV3 _ mdu
        replace mcw := sV3 _ mcw
        replace mtp := sV3 _ mtp
        replace mc0 := sV3 _ mc0
        have HV4 := HV3.mono sV3
        clear hV3 sV3 hlv hdu2 HV3 o2 N2
        dsimp only
        k_steps
        rename Fr _ _ _ _ => F4
        rename News _ _ _ _ => N4
        refine Halt.go (LCt.CompSrcT.ledger rfl F4 N4 mdu hsz (fun g => compT_ind (fun i ys nx => nx = V3 ∧ DatAll V3 ys (((due.take i).filter fun p => plt p (ra, rb)).map dP)) ?cnStep ?cnDone _ 0 [] _ (Nat.zero_add _) ⟨rfl, .nil⟩))
        case cnStep =>
          -- BEGIN cnStep
          clear F4 N4
          rintro i ys nx v I oI C oC D m₂ h tk E' hi' ⟨hnx, hys⟩ hP hns hx F3 N3 off ne
          subst nx
          obtain ⟨x, ax, na, t3, t4, hxa, rfl, hma⟩ := dP_at hdu3 (k := i) (v := v) (by simpa using hP)
          have z1 : ∀ p ∈ V3, p.1 ≠ I := fun p hp => (LCg.Off3.mem off p hp).1
          have z2 : ∀ p ∈ V3, p.1 ≠ C := fun p hp => (LCg.Off3.mem off p hp).2.1
          have z3 : ∀ p ∈ V3, p.1 ≠ D := fun p hp => (LCg.Off3.mem off p hp).2.2
          by_cases hq : x.1 < ra ∨ x.1 = ra ∧ x.2 < rb
          · have hq' : plt x (ra, rb) = true := decide_eq_true hq
            k_steps
            refine' Halt.go (compEnd_of ?qa1z ?qa2z ?qa3z ?qa4z ?qa5z off ?qa7z ⟨rfl, ?qa8z⟩)
            case qa1z => k_asm
            case qa2z => k_asm
            case qa3z => k_updF
            case qa4z => k_updF
            case qa5z => k_updF
            case qa7z => exact .inr ⟨_, mdu, rfl, _, rfl⟩
            case qa8z =>
              rw [take_snoc hxa, filter_snoc, if_pos hq', List.map_append]
              exact hys.append (.one (dP_in hma))
          · have hq' : ¬ plt x (ra, rb) = true := fun h => hq (of_decide_eq_true h)
            k_steps
            refine' Halt.go (compEnd_of ?qb1z ?qb2z ?qb3z ?qb4z ?qb5z off ?qb7z ⟨rfl, ?qb8z⟩)
            case qb1z => k_asm
            case qb2z => k_asm
            case qb3z => k_updF
            case qb4z => k_updF
            case qb5z => k_updF
            case qb7z => exact .inr ⟨_, mdu, rfl, _, rfl⟩
            case qb8z =>
              rw [take_snoc hxa, filter_snoc, if_neg hq', List.append_nil]
              exact hys
          -- END cnStep
        case cnDone =>
          clear F4 N4
          rintro avs nx ⟨hnx, hav⟩
          subst nx
          rw [List.take_of_length_le (by simp; k_extra "om")] at hav
          refine Halt.go ?_
          intro DA h3 tk3 F4 N4 o3
          obtain ⟨V4, hV4, N5⟩ := led_name N4
          have sV4 : ∀ p ∈ V3, p ∈ V4 := by rw [hV4]; exact fun p hp => .tail _ hp
          have mDA : (DA, listOf avs.toArray avs.length) ∈ V4 := by rw [hV4]; exact .head _
          replace mDL := sV4 _ mDL
          have hlv4 := hlv3.mono sV4
          have hav4 := hav.mono sV4
          have hdu4 := hdu3.mono sV4
          replace mdu := sV4 _ mdu
          replace mcw := sV4 _ mcw
          replace mtp := sV4 _ mtp
          replace mc0 := sV4 _ mc0
          have HV5 := HV4.mono sV4
          clear hV4 sV4 hlv3 hav hdu3 HV4 o3 N4
          dsimp only
          k_steps
          rename Fr _ _ _ _ => F6
          rename News _ _ _ _ => N6
          obtain ⟨uF, F7⟩ : ∃ u, Fr hT.heap sh.heap.objs.size _ (finFrame cw vw du DL DA (.bool (rf == 1)) u) := ⟨_, fin_frame F6 rfl rfl rfl rfl rfl rfl⟩
          have N7 : News hT.heap sh.heap.objs.size _ V4 := fun p hp => N6 p (.tail _ hp)
          clear F6 N6
          refine Halt.go (wpAny_mono (Q := fun f S' => f = .next ∧ AfterIf sh hT.heap sh.heap.objs.size (finFrame cw vw du DL DA (.bool (rf == 1)) uF) V4 S') ?ifA (fun f S' hS => ?ifAt) (fun _ _ x => x))
          case ifA =>
            -- BEGIN ifA
            refine wpAny_If ?_
            k_steps
            refine Halt.go ?_
            refine' Spec.use (f := 177) ?C ?d1 ?d2 ?d3 ?kA ?kF ?kK ?k1 ?k2 ?k3 ?k4 ?k5 ?_
            (case kA => exact rfl); (case kF => first | exact rfl | assumption); (case kK => first | exact rfl | assumption); (case k1 => k_asm); (case k2 => k_asm); (case k3 => k_asm); (case k4 => k_asm); (case k5 => k_asm)
            case C => exact find_spec (b := false) (st := (ra, rb)) HV5 G mcw hints hc3 (flow_apart rows rows.length) mtp due hall.symm
            (case d3 => exact rfl); (case d1 => exact Nat.le_of_ble_eq_true rfl); (case d2 => exact Nat.le_of_ble_eq_true rfl)
            rintro v n' h14 tk14 ⟨B, sub, ltB, upB, dat⟩ F8 N8
            rw [if_neg (by decide)] at dat
            have mDL' := sub _ mDL
            cases hg : lvs[0]? with
            | none =>
              have hyn : lvs = [] := by simpa using hg
              subst hyn
              have hwne : ¬ ([] : List Value) ≠ [] := fun h => h rfl
              have dat2 : DatIn n' Value.none (dO (List.filter (fun p => pge p (ra, rb)) due).head?) := by rw [dP_nil hlv4]; exact .none
              k_steps
              exact AfterIf.intro (by k_asm) (by k_asm) fun p hp => by have := sub p hp; ktr_rel
            | some v0 =>
              have hwne : lvs ≠ [] := by rintro rfl; simp at hg
              have dat2 : DatIn n' v0 (dO (List.filter (fun p => pge p (ra, rb)) due).head?) := by
                obtain ⟨x0, e0, d0⟩ := dP_head (hlv4.mono sub) hg
                rw [e0]
                exact d0
              k_steps
              exact AfterIf.intro (by k_asm) (by k_asm) fun p hp => by have := sub p hp; ktr_rel
            -- END ifA
          case ifAt =>
            obtain ⟨rfl, h15, tk15, V5, rfl, F9, N9, sub5⟩ := hS
            clear F7 N7
            have HV6 := HV5.mono sub5
            have hlv5 := hlv4.mono sub5
            have hav5 := hav4.mono sub5
            have hdu5 := hdu4.mono sub5
            replace mdu := sub5 _ mdu
            replace mcw := sub5 _ mcw
            replace mtp := sub5 _ mtp
            replace mc0 := sub5 _ mc0
            replace mDA := sub5 _ mDA
            clear hlv4 hav4 hdu4 HV5 mDL sub5
            k_steps
            refine Halt.go (wpAny_mono (Q := fun f S' => f = .next ∧ AfterIf sh hT.heap sh.heap.objs.size (finFrame cw vw du DL DA (.bool (rf == 1)) uF) V5 S') ?ifB (fun f S' hS => ?ifBt) (fun _ _ x => x))
            case ifB =>
              -- BEGIN ifB
              refine wpAny_If ?_
              k_steps
              refine Halt.go ?_
              refine' Spec.use (f := 177) ?C ?d1 ?d2 ?d3 ?kA ?kF ?kK ?k1 ?k2 ?k3 ?k4 ?k5 ?_
              (case kA => exact rfl); (case kF => first | exact rfl | assumption); (case kK => first | exact rfl | assumption); (case k1 => k_asm); (case k2 => k_asm); (case k3 => k_asm); (case k4 => k_asm); (case k5 => k_asm)
              case C => exact find_spec (b := true) (st := (ra, rb)) HV6 G mcw hints hc3 (flow_apart rows rows.length) mtp due hall.symm
              (case d3 => exact rfl); (case d1 => exact Nat.le_of_ble_eq_true rfl); (case d2 => exact Nat.le_of_ble_eq_true rfl)
              rintro v n' h14 tk14 ⟨B, sub, ltB, upB, dat⟩ F8 N8
              rw [if_pos rfl] at dat
              have mDA' := sub _ mDA
              cases hg : avs.getLast? with
              | none =>
                have hyn : avs = [] := by simpa using hg
                subst hyn
                have hwne : ¬ ([] : List Value) ≠ [] := fun h => h rfl
                have dat2 : DatIn n' Value.none (dO (List.filter (fun p => plt p (ra, rb)) due).getLast?) := by rw [dP_nil hav5]; exact .none
                k_steps
                exact AfterIf.intro (by k_asm) (by k_asm) fun p hp => by have := sub p hp; ktr_rel
              | some v0 =>
                have hwne : avs ≠ [] := by rintro rfl; simp at hg
                have dat2 : DatIn n' v0 (dO (List.filter (fun p => plt p (ra, rb)) due).getLast?) := by
                  obtain ⟨x0, e0, d0⟩ := dP_last (hav5.mono sub) hg
                  rw [e0]
                  exact d0
                k_steps
                exact AfterIf.intro (by k_asm) (by k_asm) fun p hp => by have := sub p hp; ktr_rel
              -- END ifB
            case ifBt =>
              clear F9 N9
              obtain ⟨rfl, h16, tk16, V6, rfl, F9, N9, sub6⟩ := hS
              have HV7 := HV6.mono sub6
              have hdu6 := hdu5.mono sub6
              replace mdu := sub6 _ mdu
              replace mcw := sub6 _ mcw
              replace mtp := sub6 _ mtp
              replace mc0 := sub6 _ mc0
              clear hlv5 hav5 hdu5 HV6 mDA sub6
              k_steps
              refine Halt.go (wpAny_If ?_)
              k_steps
              refine Halt.go ?_
              refine' Spec.use (f := 177) ?C ?d1 ?d2 ?d3 ?kA ?kF ?kK ?k1 ?k2 ?k3 ?k4 ?k5 ?_
              (case kA => exact rfl); (case kF => first | exact rfl | assumption); (case kK => first | exact rfl | assumption); (case k1 => k_asm); (case k2 => k_asm); (case k3 => k_asm); (case k4 => k_asm); (case k5 => k_asm)
              case C => exact find_nil_spec (HV7.mono fun p hp => .tail _ hp) G (.head _) (flow_apart rows rows.length)
              (case d3 => exact rfl); (case d1 => exact Nat.le_of_ble_eq_true rfl); (case d2 => exact Nat.le_of_ble_eq_true rfl)
              rintro v n' h17 tk17 ⟨B, sub, ltB, upB, rfl⟩ F10 N10
              have sub7 : ∀ p ∈ V6, p ∈ n' := fun p hp => sub p (.tail _ hp)
              have HV8 := HV7.mono sub7
              have hdu7 := hdu6.mono sub7
              replace mdu := sub7 _ mdu
              replace mcw := sub7 _ mcw
              replace mc0 := sub7 _ mc0
              clear hdu6 HV7 mtp sub7 sub ltB upB
              k_steps
              rename_i z0 z1 z2 z3 z4 fl hh20 lfl sa hh21 F11 N11 lsa
              have hpos : ∀ p ∈ due, 0 ≤ p.1 ∧ 0 ≤ p.2 := by rw [hduedef]; exact due_pos
              have hpw : due.Pairwise fun p q => plt p q = true := by rw [hduedef]; exact due_pw
              refine Halt.go ?_
              refine' Spec.use (f := 177) ?C ?d1 ?d2 ?d3 ?kA ?kF ?kK ?k1 ?k2 ?k3 ?k4 ?k5 ?_
              (case kA => exact rfl); (case kF => first | exact rfl | assumption); (case kK => first | exact rfl | assumption); (case k1 => k_asm); (case k2 => k_asm); (case k3 => k_asm); (case k4 => k_asm); (case k5 => k_asm)
              case C => exact find_spec (b := false) (st := (0, 0)) (HV8.mono fun p hp => .tail _ (.tail _ hp)) G (.tail _ (.tail _ mcw)) hints hc3 (flow_apart rows rows.length) (.head _) due hall.symm
              (case d3 => exact rfl); (case d1 => exact Nat.le_of_ble_eq_true rfl); (case d2 => exact Nat.le_of_ble_eq_true rfl)
              rintro v n'' h18 tk18 ⟨B2, sub2, ltB2, upB2, dat⟩ F12 N12
              rw [if_neg (by decide), first_place hpos] at dat
              obtain ⟨V8, N13, sub8, dat8, off8⟩ := find_pack N12 sub2 ltB2 upB2 dat (by simp) (Nat.ne_of_gt lsa.1) (fun p hp => Nat.ne_of_lt (lfl p hp))
              clear N11 F11 N12 sub2 ltB2 upB2 dat lsa lfl
              k_steps
              rename Fr _ _ _ _ => F13
              rename News _ _ _ _ => N13
              have N14 : News hT.heap sh.heap.objs.size _ ((fl, W.listOf #[] 0) :: V8) := fun p hp => N13 p (.tail _ hp)
              -- BEGIN wh
              refine Halt.go (whl_start 0 (whl_ind (WhInv sh hT.heap sh.heap.objs.size cw vw du fl (.bool (rf == 1)) due V8) (fun k => due.length - k) 0 (WhInv.intro (Nat.zero_le _) .nil dat8 F13 N14 off8 (fun _ h => h) rfl rfl rfl rfl rfl rfl) ?_))
              clear F13 N13 N14 off8 dat8
              rintro k S' ⟨h9, tk9, V, vs, nf, v9, u9, rfl, hk, hda, hd, F13, N13, offV, subV⟩ ih
              have hvl := hda.length
              rw [List.length_map, List.length_take, Nat.min_eq_left hk] at hvl
              replace hdu8 := hdu7.mono fun p hp => subV p (sub8 p hp)
              have HV9 := HV8.mono fun p hp => subV p (sub8 p hp)
              replace mdu := subV _ (sub8 _ mdu)
              replace mcw := subV _ (sub8 _ mcw)
              replace mc0 := subV _ (sub8 _ mc0)
              -- BEGIN wt
              refine whl_turn (k := 0) ?hE ?_
              case hE => first | passes_own | with_unfolding_all passes_own
              rcases dO_cases hd with ⟨e0, rfl⟩ | ⟨x, xa, xn, xt1, xt2, e0, rfl, hxm⟩
              · -- BEGIN wnone
                have hkl : due.length ≤ k := List.getElem?_eq_none_iff.mp e0
                rw [List.take_of_length_le hkl] at hda
                clear hd ih hk
                k_steps
                refine Halt.go ?_
                refine' Spec.use (f := 171) ?C ?d1 ?d2 ?d3 ?kA ?kF ?kK ?k1 ?k2 ?k3 ?k4 ?k5 ?_
                (case kA => exact rfl); (case kF => first | exact rfl | assumption); (case kK => first | exact rfl | assumption); (case k1 => k_asm); (case k2 => k_asm); (case k3 => k_asm); (case k4 => k_asm); (case k5 => k_asm)
                case C => exact found_places_spec (HV9.mono fun p hp => .tail _ hp) G (.tail _ mcw) hints hc3 (flow_apart rows rows.length)
                (case d3 => exact rfl); (case d1 => exact Nat.le_of_ble_eq_true rfl); (case d2 => exact Nat.le_of_ble_eq_true rfl)
                rintro v n'' h18 tk18 ⟨B2, pl, pn, pvs, nn9, rfl, rfl, sub2, ltB2, ltP, upB2, pda⟩ F14 N14
                rw [hall] at pda
                have hpl := pda.length
                rw [List.length_map] at hpl
                have hpsz : pvs.toArray.size ≤ sizeLine := by rw [sizeLine_eq]; simp; k_extra "om"
                replace hdu8 := hdu8.mono fun p hp => sub2 p (.tail _ hp)
                replace mdu := sub2 _ (.tail _ mdu)
                clear F13 N13 offV subV HV9 mcw mc0 hda sub2 upB2 ltP ltB2
                k_steps
                rename Fr _ _ _ _ => F15
                rename News _ _ _ _ => N15
                refine Halt.go (LCg.CompSrc.ledger rfl F15 N15 (.head _) hpsz (fun g => comp_ind (fun i ys nx => nx = (pl, listOf pvs.toArray pn) :: nn9 ∧ DatAll nn9 ys ((due.take i).map dP)) ?coStep ?coDone _ 0 [] _ (Nat.zero_add _) ⟨rfl, .nil⟩))
                case coStep =>
                  clear F15 N15
                  rintro i ys nx v I oI C oC D m₂ h tk E' hi' ⟨rfl, hys⟩ hP hns hx F3 N3 off ne
                  obtain ⟨x, ax, na, t3, t4, hxa, rfl, hma⟩ := dP_at pda (k := i) (v := v) (by simpa using hP)
                  k_steps
                  refine' Halt.go (compEnd_of ?oa1 ?oa2 ?oa3 ?oa4 ?oa5 off ?oa7 ⟨rfl, ?oa8⟩)
                  case oa1 => k_asm
                  case oa2 => k_asm
                  case oa3 => k_updF
                  case oa4 => k_updF
                  case oa5 => k_updF
                  case oa7 => exact .inr ⟨_, .head _, rfl, _, rfl⟩
                  case oa8 =>
                    rw [take_snoc hxa, List.map_append]
                    exact hys.append (.one (dP_in hma))
                case coDone =>
                  clear F15 N15
                  rintro ys nx ⟨rfl, hys⟩
                  rw [List.take_of_length_le (by simp; k_extra "om")] at hys
                  refine Halt.go ?_
                  intro D1 h2 tk2 F2 N2 o2
                  dsimp only
                  k_steps
                -- END wnone
              · -- BEGIN wsome
                have hkl : k < due.length := (List.getElem?_eq_some_iff.mp e0).1
                have hv20 : (vs.length : Int) < 20 := by k_extra "om"
                k_steps
                rename_i tA tB tC hA tpB D9 hB FB NB lB
                refine Halt.go ?_
                refine' Spec.use (f := 177) ?C ?d1 ?d2 ?d3 ?kA ?kF ?kK ?k1 ?k2 ?k3 ?k4 ?k5 ?_
                (case kA => exact rfl); (case kF => first | exact rfl | assumption); (case kK => first | exact rfl | assumption); (case k1 => k_asm); (case k2 => k_asm); (case k3 => k_asm); (case k4 => k_asm); (case k5 => k_asm)
                case C => exact find_spec (b := false) (st := (x.1, x.2 + 1)) (HV9.mono fun p hp => .tail _ (.tail _ hp)) G (.tail _ (.tail _ mcw)) hints hc3 (flow_apart rows rows.length) (.head _) due hall.symm
                (case d3 => exact rfl); (case d1 => exact Nat.le_of_ble_eq_true rfl); (case d2 => exact Nat.le_of_ble_eq_true rfl)
                rintro v n'' h18 tk18 ⟨B2, sub2, ltB2, upB2, dat⟩ F14 N14
                rw [if_neg (by decide), next_place due hpw k x e0] at dat
                obtain ⟨V9, N15, sub9, dat9, off9⟩ := find_pack N14 sub2 ltB2 upB2 dat (by simp) (Nat.ne_of_gt lB.1) offV
                clear FB NB N14 sub2 ltB2 upB2 dat lB
                rw [List.push_toArray] at N15
                k_steps
                rename Fr _ _ _ _ => F16
                rename News _ _ _ _ => N16
                exact Halt.go (ih (k + 1) _ (by k_extra "om") (WhInv.intro hkl (dO_snoc e0 (hda.mono sub9) (dP_in (sub9 _ hxm))) dat9 F16 N16 off9 (fun p hp => sub9 p (subV p hp)) rfl rfl rfl rfl rfl rfl))
                -- END wsome
              -- END wt
              -- END wh
end
end Mine

theorem PySem.Challenge.cw_np0280_01_holds : PySem.Challenge.rw_np0280_01.Holds :=
  Mine.law_holds
