import PyProof.Rows.All
import Wide.All
import OpenK.AllK
import Wide.FinOn
import PySem.Challenge.RW_og0236_01
open PySem PySem.W PyProof.Rows
set_option Elab.async false
set_option maxRecDepth 100000
set_option maxHeartbeats 8000000
set_option linter.unusedVariables false
set_option linter.unusedSimpArgs false
set_option linter.deprecated false
set_option pp.deepTerms false
set_option pp.deepTerms.threshold 4
namespace Mine
section
/-- the top's run on a tree -/
noncomputable def runT (tb : String → Option Builtin) (p : Program) (w : World) (n₀ : Nat) (ann : Option Value) : Nat → SharedT → Thread → Option SharedT
  | 0, _, _ => none
  | n + 1, s, t => match through t with
    | true => some s
    | false => match stepOk n₀ ann t with
      | false => none
      | true => match stepT (denote tb) p w s t with
        | some (s', t') => runT tb p w n₀ ann n s' t'
        | none => none
theorem runT_of {tb : String → Option Builtin} {p : Program} {w : World} {n₀ : Nat} {ann : Option Value} : ∀ {n : Nat} {s s' : SharedT} {t : Thread}, runT tb p w n₀ ann n s t = some s' → topRun tb p w n₀ ann n s.abs t = some s'.abs
  | 0, _, _, _, h => by cases h
  | n + 1, s, s', t, h => by
    unfold runT at h
    unfold topRun
    cases he : through t with
    | true => rw [he] at h; cases h; rfl
    | false =>
      rw [he] at h
      cases hk : stepOk n₀ ann t with
      | false => rw [hk] at h; cases h
      | true =>
        rw [hk] at h
        cases hs : stepT (denote tb) p w s t with
        | none => rw [hs] at h; cases h
        | some r => obtain ⟨s₂, t₂⟩ := r; rw [hs] at h; rw [stepT_spec hs]; exact runT_of h

noncomputable def treeFrom : Nat → List Obj → BT → BT
  | _, [], t => t
  | n, o :: r, t => treeFrom (n + 1) r (t.ins n o)
noncomputable def bootT (P : Params) : BT := treeFrom 0 (boot_heap P).objs.toList .nil

/-- what is asked of the top's end -/
noncomputable abbrev EndAsked (p q : Program) (loose : List Str) (Xt : Shared → Bool) {α : Type} (Yf : Shared → α) (h₀ : Heap) (s : Shared) :=
  ((staticsOk (importedModules p.main.body) h₀ s.heap && namesBound p s.heap && gensDone s && laidKept h₀ s.heap), openSeen q loose (importedModules p.main.body) Xt true s, Yf s)
theorem left_of_boot {p q : Program} {loose : List Str} {Xt : Shared → Bool} {α : Type} {Yf : Shared → α} {Ya : World → α} {N : Nat} {m : Nat} {ann : Option Value} {life : Life}
    (e : opening p = plainProg p.main.scope.names) (hN : Nat.ble 600 N = true) (f : ∀ s, fenceModules? p s = some s)
    (size : ∀ w : World, ((boot_heap w.params).isNs mainGlobals, (boot_heap w.params).objs.size, (boot_heap w.params).nsMap mainGlobals "__annotations__") = (true, m, ann))
    (tree : ∀ w : World, absHeap (bootT w.params) m life = boot_heap w.params)
    (run : ∀ w : World, (fun os => (runT treeTable p w m ann N ⟨bootT w.params, m, life, #[], boot_drawn, boot_toks, os⟩ (topStub p)).map fun s => EndAsked p q loose Xt Yf (boot_heap w.params) s.abs) = fun _ => some (true, openGood q loose, Ya w)) : LeftO p q loose Xt Yf Ya N := fun w => by
  obtain ⟨⟨h, gs, d, k, os⟩, e1, e2⟩ := Option.map_eq_some_iff.mp (boot_open e hN f w)
  obtain ⟨rfl, rfl, rfl, rfl⟩ : h = boot_heap w.params ∧ gs = #[] ∧ d = boot_drawn ∧ k = boot_toks := by simpa using e2
  obtain ⟨z1, z2, z3⟩ : _ ∧ _ ∧ _ := by simpa only [Prod.mk.injEq] using size w
  obtain ⟨s, r, l⟩ := Option.map_eq_some_iff.mp (congrFun (run w) os)
  obtain ⟨l1, l2, l3⟩ : _ ∧ _ ∧ _ := by simpa only [Prod.mk.injEq] using l
  have r := runT_of r
  have ea : SharedT.abs ⟨bootT w.params, m, life, #[], boot_drawn, boot_toks, os⟩ = ⟨boot_heap w.params, #[], boot_drawn, boot_toks, os⟩ := by
    unfold SharedT.abs; rw [tree w]
  rw [ea] at r
  have t : topFrom treeTable p w N ⟨boot_heap w.params, #[], boot_drawn, boot_toks, os⟩ = some s.abs := by
    unfold topFrom
    dsimp only
    rw [z1, z2, z3]
    show (Option.bind (topRun treeTable p w m ann N _ _) _) = _
    rw [r]
    show (match _ with | true => _ | false => _) = _
    rw [l1]
  unfold openEnds
  rw [e1]
  show Option.map _ (topFrom treeTable p w N _) = _
  rw [t]
  show some _ = some _
  rw [← l2, ← l3]

noncomputable def view0 : Program := view PySem.Challenge.rw_og0236_01.row.prog [1, 2, 3, 4, 6, 7, 9, 10, 11, 12, 13, 14, 15, 16, 17, 18, 19]
theorem said0 : OpenLaw.wellSaid PySem.Challenge.rw_og0236_01 = true := by kernel_rfl
local macro_rules | `(tactic| o_law) => `(tactic| refine holds_law said0 fun said => ?_)
local macro_rules
  | `(tactic| o_head $H) => do
    let (hl, hw, hc) := (Lean.mkIdent `hl, Lean.mkIdent `hw, Lean.mkIdent `hc)
    `(tactic| (
      refine holds_open (q := view0) (loose := [Str.ofString "TermError"]) (Xt := fun s => xlAt view0 [] s && recOk (RowW.records (OpenRow.toRowW (OpenLaw.row PySem.Challenge.rw_og0236_01))) s) (XP := XL view0 []) (Yf := Hook.obs $H) (Ya := Hook.val $H) (YP := Hook.says $H) (N := 3002) ?$hl (Hook.of $H) (Hook.keeps $H)
        (fun s e => xl_of s (Bool.and_eq_true_iff.mp e).1) XL.keeps (by rfl) (by rfl) (by rfl) (fun s e => recFacts_of (Bool.and_eq_true_iff.mp e).2) (by rfl) (by first | assumption | decide +kernel) (by decide +kernel) ⟨rfl, rfl, rfl, rfl, rfl, by decide +kernel⟩ ?$hw ?$hc
      (case hl => exact left_of_boot (m := 11) (ann := some (.ref 6)) (life := {}) (by rfl) (by decide) (fun _ => rfl) (fun _ => by kernel_rfl) (fun _ => by kernel_rfl) (fun _ => by kernel_rfl))))
open_top hd for PySem.Challenge.rw_og0236_01
end
/-- the walk's own notes are filled, nothing is shown -/
theorem filled : True := by
  first
  | (have : PySem.Challenge.rw_og0236_01.Holds := hd (by w_on; k_fill; fail "filled")
     trivial)
  | trivial
open PySem.Spec PySem.Calls
theorem all0 {α : Type} {P : α → Prop} : ∀ x ∈ ([] : List α), P x := fun _ h => nomatch h
theorem all1 {α : Type} {P : α → Prop} {a : α} {l : List α} (h : P a) (r : ∀ x ∈ l, P x) : ∀ x ∈ a :: l, P x := List.forall_mem_cons.mpr ⟨h, r⟩
section
variable {a c1 c2 c3 c4 : Nat} (h : a ≠ c1 ∧ a ≠ c2 ∧ a ≠ c3 ∧ a ≠ c4)
include h
theorem ne4a : a ≠ c1 := h.1
theorem ne4b : a ≠ c2 := h.2.1
theorem ne4c : a ≠ c3 := h.2.2.1
theorem ne4d : a ≠ c4 := h.2.2.2
theorem ne4e : c1 ≠ a := h.1.symm
theorem ne4f : c2 ≠ a := h.2.1.symm
theorem ne4g : c3 ≠ a := h.2.2.1.symm
theorem ne4h : c4 ≠ a := h.2.2.2.symm
end
theorem exI3 {α0 α1 α2 : Type} {P : α0 → α1 → α2 → Prop} (a : α0) (b : α1) (c : α2) (x : P a b c) : ∃ a b c, P a b c := ⟨a, b, c, x⟩
theorem exE3 {α0 α1 α2 : Type} {P : α0 → α1 → α2 → Prop} {G : Prop} (x : ∃ a b c, P a b c) (k : ∀ a b c, P a b c → G) : G := by
  obtain ⟨a, b, c, x⟩ := x
  exact k _ _ _ x
theorem exI4 {α0 α1 α2 α3 : Type} {P : α0 → α1 → α2 → α3 → Prop} (a : α0) (b : α1) (c : α2) (d : α3) (x : P a b c d) : ∃ a b c d, P a b c d := ⟨a, b, c, d, x⟩
theorem exE4 {α0 α1 α2 α3 : Type} {P : α0 → α1 → α2 → α3 → Prop} {G : Prop} (x : ∃ a b c d, P a b c d) (k : ∀ a b c d, P a b c d → G) : G := by
  obtain ⟨a, b, c, d, x⟩ := x
  exact k _ _ _ _ x
theorem exI5 {α0 α1 α2 α3 α4 : Type} {P : α0 → α1 → α2 → α3 → α4 → Prop} (a : α0) (b : α1) (c : α2) (d : α3) (e : α4) (x : P a b c d e) : ∃ a b c d e, P a b c d e := ⟨a, b, c, d, e, x⟩
theorem exE5 {α0 α1 α2 α3 α4 : Type} {P : α0 → α1 → α2 → α3 → α4 → Prop} {G : Prop} (x : ∃ a b c d e, P a b c d e) (k : ∀ a b c d e, P a b c d e → G) : G := by
  obtain ⟨a, b, c, d, e, x⟩ := x
  exact k _ _ _ _ _ x
theorem exI6 {α0 α1 α2 α3 α4 α5 : Type} {P : α0 → α1 → α2 → α3 → α4 → α5 → Prop} (a : α0) (b : α1) (c : α2) (d : α3) (e : α4) (f : α5) (x : P a b c d e f) : ∃ a b c d e f, P a b c d e f := ⟨a, b, c, d, e, f, x⟩
theorem exE6 {α0 α1 α2 α3 α4 α5 : Type} {P : α0 → α1 → α2 → α3 → α4 → α5 → Prop} {G : Prop} (x : ∃ a b c d e f, P a b c d e f) (k : ∀ a b c d e f, P a b c d e f → G) : G := by
  obtain ⟨a, b, c, d, e, f, x⟩ := x
  exact k _ _ _ _ _ _ x
theorem exI8 {α0 α1 α2 α3 α4 α5 α6 α7 : Type} {P : α0 → α1 → α2 → α3 → α4 → α5 → α6 → α7 → Prop} (a : α0) (b : α1) (c : α2) (d : α3) (e : α4) (f : α5) (g : α6) (h : α7) (x : P a b c d e f g h) : ∃ a b c d e f g h, P a b c d e f g h := ⟨a, b, c, d, e, f, g, h, x⟩
theorem exE8 {α0 α1 α2 α3 α4 α5 α6 α7 : Type} {P : α0 → α1 → α2 → α3 → α4 → α5 → α6 → α7 → Prop} {G : Prop} (x : ∃ a b c d e f g h, P a b c d e f g h) (k : ∀ a b c d e f g h, P a b c d e f g h → G) : G := by
  obtain ⟨a, b, c, d, e, f, g, h, x⟩ := x
  exact k _ _ _ _ _ _ _ _ x
theorem nd_ne {l : List Nat} (h : l.Nodup) (i j : Nat) {a b : Nat} (hi : l[i]? = some a) (hj : l[j]? = some b) (hij : i ≠ j) : @Ne Nat a b := by
  rintro rfl
  obtain ⟨h1, e1⟩ := List.getElem?_eq_some_iff.mp hi
  obtain ⟨h2, e2⟩ := List.getElem?_eq_some_iff.mp hj
  have p := List.pairwise_iff_getElem.mp h
  rcases Nat.lt_or_gt_of_ne hij with q | q
  · exact p i j h1 h2 q (e1.trans e2.symm)
  · exact p j i h2 h1 q (e2.trans e1.symm)
theorem nin2 {a x y : Nat} (h1 : @Ne Nat a x) (h2 : @Ne Nat a y) : a ∉ [x, y] := fun m => by
  rcases List.mem_cons.mp m with e | m
  · exact h1 e
  · exact h2 (List.mem_singleton.mp m)
theorem nd_set {a : Nat} {l : List Nat} (i : Nat) (h : l.Nodup) (ha : ∀ x ∈ l, @Ne Nat a x) : (l.set i a).Nodup := by
  induction l generalizing i with
  | nil => exact h
  | cons x t ih =>
    obtain ⟨h1, h2⟩ := List.nodup_cons.mp h
    cases i with
    | zero => exact List.nodup_cons.mpr ⟨fun m => ha a (.tail _ m) rfl, h2⟩
    | succ i =>
      refine List.nodup_cons.mpr ⟨fun m => ?_, ih i h2 fun y hy => ha y (.tail _ hy)⟩
      rcases List.mem_or_eq_of_mem_set m with m | m
      · exact h1 m
      · exact ha x (.head _) m.symm
local macro_rules | `(tactic| kopn_word) => `(tactic| first | exact List.Mem.head _ | (refine' List.Mem.tail _ ?_; kopn_word) | exact all0 | (refine all1 ?_ ?_; (· kopn_word); (· kopn_word)) | (refine Or.inl ?_; kopn_word) | (refine Or.inr ?_; kopn_word) | assumption | (intro _ _; kopn_word) | with_reducible exact rfl)
local macro_rules | `(tactic| k_ne) => `(tactic| first | with_reducible assumption | (refine Ne.symm ?_; with_reducible assumption) | (refine neN ?_; (try dsimp only); first | (with_reducible apply ne4a; with_reducible assumption) | (with_reducible apply ne4b; with_reducible assumption) | (with_reducible apply ne4c; with_reducible assumption) | (with_reducible apply ne4d; with_reducible assumption) | (with_reducible apply ne4e; with_reducible assumption) | (with_reducible apply ne4f; with_reducible assumption) | (with_reducible apply ne4g; with_reducible assumption) | (with_reducible apply ne4h; with_reducible assumption) | omega))
/-- the surroundings of a call, written out as far as the walk asks -/
noncomputable abbrev AA (dp : Nat) (fs : List Env) (gs : Option (List Code)) (un : Nat) : Around := ⟨none, dp, some fs, gs, un⟩
/-- what holds around every call of the text's own defs -/
structure Amb (p : Program) (loose : List Str) (mean : ExcName → Option Value) (mg mb : Str → Option Value) (w : World) (dp : Nat) (gs : Option (List Code)) (un : Nat) (base : Heap) (fs : List Env) (h : Heap) (k : Nat) : Prop where
  below : Below (AA dp fs gs un) base fs h
  KI : (Mine.hd.heap_1 w.params).In base
  top : Top p loose mean mg mb base
  dep : dp + k ≤ 900
  uni : un + 4 * k ≤ 9000

noncomputable def Off (base : Heap) (fs : List Env) (l : List Addr) : Prop := ∀ a ∈ l, base.get? a = none ∧ a ∉ fs.filterMap (·.frame)

/-- all that stood stands, but at Δ -/
noncomputable def Chg (Δ : List Addr) (h h' : Heap) : Prop := ∀ a o, h.get? a = some o → a ∉ Δ → h'.get? a = some o

theorem Chg.refl {Δ : List Addr} {h : Heap} : Chg Δ h h := fun _ _ e _ => e
theorem Chg.trans {Δ : List Addr} {h₁ h₂ h₃ : Heap} (x : Chg Δ h₁ h₂) (y : Chg Δ h₂ h₃) : Chg Δ h₁ h₃ := fun a o e n => y a o (x a o e n) n
theorem Chg.mono {Δ Δ' : List Addr} {h₁ h₂ : Heap} (x : Chg Δ h₁ h₂) (hs : ∀ a ∈ Δ, a ∈ Δ') : Chg Δ' h₁ h₂ := fun a o e n => x a o e fun m => n (hs a m)

section
variable {p : Program} {loose : List Str} {mean : ExcName → Option Value} {mg mb : Str → Option Value} {prog : Program} {w : World} {dp un : Nat} {gs : Option (List Code)} {R : Result → Shared → Prop} {s : Shared} {base : Heap} {fs : List Env} {k : Nat}

theorem none_of_base {base g : Heap} (st : base.StaysIn g) {a : Addr} (e : g.get? a = none) : base.get? a = none := by
  cases q : base.get? a with
  | none => rfl
  | some o => rw [st a o q] at e; cases e

theorem enterH {f : Addr} {oc : Value} {od : Option Addr} {osl : Array (Option Value)} {name qual : Str} {params : Arguments} {body : List Stmt} {scope : Scope} {dV kV doc pm cdv ct : Value} {an : Option Addr} {args : Args} {binds : List (Str × Value)}
    (M : Amb p loose mean mg mb w dp gs un base fs s.heap (k + 1)) (cells : List (Addr × Obj))
    (hc : ∀ q ∈ cells, s.heap.get? q.1 = some q.2) (ho' : Off base fs (cells.map (·.1)))
    (h : ∀ g L' h₁, Fr g L' h₁ (fun y => binds.reverse.lookup y) → News g L' h₁ cells → Below (AA dp fs gs un) base fs g → (Mine.hd.heap_1 w.params).In g → Top p loose mean mg mb g →
      (∀ a o, s.heap.get? a = some o → a ∉ cells.map (·.1) → g.get? a = some o) → (∀ a o, s.heap.get? a = some o → h₁.get? a = some o) → L' = s.heap.objs.size →
      wpAny (model prog w) ((AA dp fs gs un).deeper (envOf qual scope L' f cdv)) (execs body (envOf qual scope L' f cdv))
        (fun fl s' => R (.ok (.ret (match fl with | .ret v => v | _ => .none))) s')
        (fun e s' => wpAny (model prog w) ((AA dp fs gs un).deeper (envOf qual scope L' f cdv)) (leaving (envOf qual scope L' f cdv) e) (fun _ s'' => R (.error e) s'') (fun e' s'' => R (.error e') s'') s')
        { s with heap := h₁, toks := s.toks + binds.length })
    (ho : (Mine.hd.heap_1 w.params).lookup f = some ⟨oc, od, .func (fnOf name qual params body scope dV kV doc pm an cdv ct), osl⟩ := by k_dflt k_is) (hcd : codeIn (Mine.hd.heap_1 w.params) cdv qual = true := by k_dflt k_is)
    (hbind : BindsTo s (fnOf name qual params body scope dV kV doc pm an cdv ct) args binds := by exact BindsTo.of_eq rfl) (hloc : ∀ y ∈ binds, scope.names.lookup y.1 = some .local := by exact locs rfl)
    (hco : scope.isCoroutine = false := by rfl) (hgen : scope.isGenerator = false := by rfl) (hk : scope.kind = .function := by rfl)
    (hcell : ∀ x ∈ scope.names, x.2 ≠ .cell := by decide) : codeAny (model prog w) (AA dp fs gs un) (.call (.ref f) args) R s := by
  have hroom : (AA dp fs gs un).depth < recursionLimit := by have := M.dep; unfold recursionLimit; show dp < 1000; omega
  have B := M.below
  have XH : (Mine.hd.heap_1 w.params).In s.heap := fun a o e => B.stays a o (M.KI a o e)
  refine codeAny_call_def (fd := fnOf name qual params body scope dV kV doc pm an cdv ct) (body := body) (binds := binds) hroom (XH _ _ ho) rfl (M.top.nolimit.keeps B.stays) (codeRec_of XH hcd) rfl hbind hcell hloc (fun h₁ hns hk₁ => ?_) hco hgen hk
  have nm : ∀ b o, base.get? b = some o → b ∉ cells.map (·.1) := fun b o e q => by rw [(ho' b q).1] at e; cases e
  have st : base.StaysIn (hideAll s.heap (cells.map (·.1))) := fun b o e => hideAll_get _ (B.stays b o e) (nm b o e)
  refine h (hideAll s.heap (cells.map (·.1))) s.heap.objs.size h₁ ⟨hns, fun b o e => hk₁ b o (of_hideAll _ e), Nat.le_of_eq (hideAll_size _ _)⟩
    (fun q hq => ⟨hk₁ _ _ (hc q hq), Nat.ne_of_lt (Heap.lt_size (hc q hq)), hideAll_none _ (List.mem_map_of_mem hq)⟩)
    ⟨B.stack, st, funFrames_hideAll B.frames fun env he a ha hf => (ho' a ha).2 (List.mem_filterMap.mpr ⟨env, he, hf⟩)⟩
    (M.KI.keeps fun b o e => st b o e) (M.top.keeps fun b o e => st b o e) (fun a o e n => hideAll_get _ e n) hk₁ rfl

theorem Amb.deeper {g h0 h : Heap} {L' : Addr} {m : Str → Option Value} {env : Env} (M : Amb p loose mean mg mb w dp gs un base fs h0 (k + 1)) (B : Below (AA dp fs gs un) base fs g) (F : Fr g L' h m) (hf : env.frame = some L') (hk : env.scope.kind = .function) :
    Amb p loose mean mg mb w (dp + 1) gs (un + 3) base (env :: fs) h k :=
  ⟨pushX B F hf hk, M.KI, M.top, by have := M.dep; omega, by have := M.uni; omega⟩
theorem Amb.less {h : Heap} {j : Nat} (M : Amb p loose mean mg mb w dp gs un base fs h k) (hj : j ≤ k) : Amb p loose mean mg mb w dp gs un base fs h j :=
  ⟨M.below, M.KI, M.top, by have := M.dep; omega, by have := M.uni; omega⟩

theorem off_of {g : Heap} {L : Addr} {env : Env} {a : Addr} (B : Below (AA dp fs gs un) base fs g) (hf : env.frame = some L) (ha : g.get? a = none) (hL : a ≠ L) :
    base.get? a = none ∧ a ∉ (env :: fs).filterMap (·.frame) := by
  refine ⟨none_of_base B.stays ha, fun hm => ?_⟩
  rw [List.filterMap_cons, hf] at hm
  rcases List.mem_cons.mp hm with e | hm
  · exact hL e
  · obtain ⟨_, o, ho, _⟩ := B.frames.mem hm
    rw [ha] at ho; cases ho
theorem off_nil : Off base fs [] := fun _ h => nomatch h
theorem Off.cons {a : Addr} {l : List Addr} (h : base.get? a = none ∧ a ∉ fs.filterMap (·.frame)) (r : Off base fs l) : Off base fs (a :: l) := fun b hb => by
  rcases List.mem_cons.mp hb with rfl | hb
  · exact h
  · exact r b hb
theorem Off.sub {l l' : List Addr} (h : Off base fs l) (hs : ∀ a ∈ l', a ∈ l) : Off base fs l' := fun a ha => h a (hs a ha)

theorem off_news {g h : Heap} {L : Addr} {env : Env} {news : List (Addr × Obj)} {l : List Addr} (B : Below (AA dp fs gs un) base fs g) (N : News g L h news) (hf : env.frame = some L) (hs : ∀ a ∈ l, ∃ o, (a, o) ∈ news) :
    Off base (env :: fs) l := fun a ha => by
  obtain ⟨o, ho⟩ := hs a ha
  exact off_of B hf (N _ ho).2.2 (N _ ho).2.1

theorem off1 {g h : Heap} {L a : Addr} {o : Obj} {env : Env} {news : List (Addr × Obj)} (B : Below (AA dp fs gs un) base fs g) (N : News g L h news) (hf : env.frame = some L) (hm : (a, o) ∈ news) : base.get? a = none ∧ a ∉ (env :: fs).filterMap (·.frame) :=
  off_of B hf (N _ hm).2.2 (N _ hm).2.1
theorem fr_chg {g h h' : Heap} {L : Addr} {m : Str → Option Value} {Δ : List Addr} (F : Fr g L h m) (C : Chg Δ h h') (hΔ : ∀ a ∈ Δ, g.get? a = none ∧ a ≠ L) : Fr g L h' m := by
  obtain ⟨oL, es, ep, hL, r⟩ := F.ns
  exact ⟨⟨oL, es, ep, C _ _ hL fun q => (hΔ _ q).2 rfl, r⟩, fun b o e => C _ _ (F.keep b o e) fun q => (by rw [(hΔ _ q).1] at e; cases e), F.above⟩
theorem news_chg {g h h' : Heap} {L : Addr} {news : List (Addr × Obj)} {Δ : List Addr} (N : News g L h news) (C : Chg Δ h h') (hΔ : ∀ q ∈ news, q.1 ∉ Δ) : News g L h' news := fun q hq =>
  ⟨C _ _ (N q hq).1 (hΔ q hq), (N q hq).2⟩
theorem news_cons {g h : Heap} {L a : Addr} {o : Obj} {news : List (Addr × Obj)} (N : News g L h news) (e : h.get? a = some o) (hL : a ≠ L) (hg : g.get? a = none) : News g L h ((a, o) :: news) := fun q hq => by
  rcases List.mem_cons.mp hq with rfl | hq
  · exact ⟨e, hL, hg⟩
  · exact N q hq
theorem ne_get {h : Heap} {a b : Addr} {o o' : Obj} (x : h.get? a = some o) (y : h.get? b = some o') (n : o.cls ≠ o'.cls) : @Ne Nat a b := by
  intro e
  have e' : a = b := e
  subst e'
  rw [x] at y
  cases y
  exact n rfl
theorem fr_over {g h : Heap} {L : Addr} {m u : Str → Option Value} {x : Str} {v : Value} (F : Fr g L h fun y => if y = x then some v else if y = x then u y else m y) : Fr g L h fun y => if y = x then (fun _ => some v) y else m y := by
  have e : (fun y => if y = x then some v else if y = x then u y else m y) = fun y => if y = x then (fun _ => some v) y else m y := by
    funext y
    by_cases h : y = x
    · simp only [if_pos h]
    · simp only [if_neg h]
  rw [e] at F
  exact F
theorem fr_chg0 {g h h' : Heap} {L : Addr} {m : Str → Option Value} (F : Fr g L h m) (C : Chg [] h h') : Fr g L h' m := fr_chg F C fun _ h => nomatch h
theorem news_chg0 {g h h' : Heap} {L : Addr} {news : List (Addr × Obj)} (N : News g L h news) (C : Chg [] h h') : News g L h' news := news_chg N C fun _ _ h => nomatch h
theorem off_frame {g h : Heap} {L : Addr} {news : List (Addr × Obj)} {Δ : List Addr} (N : News g L h news) (hs : ∀ a ∈ Δ, ∃ o, (a, o) ∈ news) : ∀ a ∈ Δ, g.get? a = none ∧ a ≠ L := fun a ha => by
  obtain ⟨o, ho⟩ := hs a ha
  exact ⟨(N _ ho).2.2, (N _ ho).2.1⟩
theorem chg_sub {g h h' : Heap} {L' : Addr} {m' : Str → Option Value} {Δ : List Addr} {cells news : List (Addr × Obj)} (hg : ∀ a o, h.get? a = some o → a ∉ cells.map (·.1) → g.get? a = some o) (hc : ∀ q ∈ cells, h.get? q.1 = some q.2)
    (F : Fr g L' h' m') (N : News g L' h' news) (hs : ∀ q ∈ cells, q.1 ∈ Δ ∨ q ∈ news) : Chg Δ h h' := fun a o e n => by
  by_cases hm : a ∈ cells.map (·.1)
  · obtain ⟨⟨q1, q2⟩, hq, rfl⟩ := List.mem_map.mp hm
    have := hc _ hq
    dsimp only at e this n
    rw [e] at this
    cases this
    rcases hs _ hq with h1 | h1
    · exact absurd h1 n
    · exact (N _ h1).1
  · exact F.keep a o (hg a o e hm)
/-- what a walk of a called def leaves behind, told of the caller's heap -/
theorem chg_of {g h h' : Heap} {L' : Addr} {m' : Str → Option Value} {Δ : List Addr} (hg : ∀ a o, h.get? a = some o → a ∉ Δ → g.get? a = some o) (F : Fr g L' h' m') : Chg Δ h h' := fun a o e n => F.keep a o (hg a o e n)
theorem isl {g h : Heap} {L a : Addr} {its : Array Value} {n : Nat} {news : List (Addr × Obj)} (N : News g L h news) (hm : (a, W.listOf its n) ∈ news) : h.IsList a its := ⟨_, (N _ hm).1, rfl, n, rfl⟩
theorem dict_ne_list {prog : Program} {w : World} {K : Type} [DecidableEq K] {knd : KeyKind prog w K} {od : Obj} {kvs : List (K × Value)} {its : Array Value} {n : Nat} {h : Heap} {d l : Addr} (hd : h.get? d = some od) (D : od.IsDictOf knd kvs) (hl : h.get? l = some (W.listOf its n)) : @Ne Nat d l := by
  rintro rfl
  rw [hd] at hl
  cases hl
  obtain ⟨es, ep, _, h2, _⟩ := D
  cases h2
theorem isl_at {h : Heap} {a : Addr} {its : Array Value} {n : Nat} (e : h.get? a = some (W.listOf its n)) : h.IsList a its := ⟨_, e, rfl, n, rfl⟩
end
section
variable {prog : Program} {w : World} {A : Around} {E : Value → Shared → Prop} {s : Shared} {env : Env}

theorem ev_row {x : Str} {p1 p2 p3 : Pos} {j : Nat} {m : Str → Option Value} {a : Addr} {its : List Value} {k : Int} {v : Value} {Q : Value → Shared → Prop} (hk : env.scope.kind = .function) (hl : env.kindOf x = some .local)
    (hn : s.heap.Ns env.locals m) (hm : m x = some (.ref a)) (ha : IsTup s.heap a its.toArray ∨ s.heap.IsList a its.toArray) (h0 : 0 ≤ k) (hk2 : k < 2 ^ 63) (hx : its[k.toNat]? = some v)
    (h : ∀ tk, Q v { s with toks := tk }) (hd : (x == ("__debug__" : Str)) = false := by decide)
    (hs : ∀ t, subscripted (.Constant (.int k) j p2) false (.ref a) (.int k t) = operate [.ref a, .int k t] (getItem (.ref a) (.int k t)) := by intro _; with_unfolding_all rfl) :
    wpAny (model prog w) A (eval (.Subscript (.Name x p1) (.Constant (.int k) j p2) p3) env) Q E s := by
  refine Subscript_ (wpAny_Name (wpAny_loadName_local hk hl hn hm ?_) hd)
  refine wpAny_Constant_int ?_
  rcases ha with ha | ha
  · refine item_tupleT ha (by omega) hk2 (j := k.toNat) ?_ hx (h _) (hs _)
    have hlt : k.toNat < its.length := by
      rw [List.getElem?_eq_some_iff] at hx; exact hx.1
    exact seqIndex_of h0 (by omega)
  · exact tail_any ha.typeIs slot_list_getitem.lookup (wpAny_getItem_list ha h0 hk2 (by simpa using hx) (h _)) (hs _)

theorem comp_src {l : Addr} {vs : List Value} {scope : Scope} {x : Str} {ifs : List Expr} {elt : Expr} {Q : Value → Shared → Prop} (p : Value → Bool) (F : Value → Value → Prop)
    (hh : A.handled = none) (hl : s.heap.IsList l vs.toArray) (hz : vs.length ≤ sizeLine)
    (tests : ∀ C v s₃ m₃ E', v ∈ vs → s₃.heap.Ns C m₃ → m₃ x = some v → (∀ b o, s.heap.get? b = some o → s₃.heap.get? b = some o) →
      wpAny (model prog w) A (forIn ifs true fun c r => if r = true then do let ok ← isTrue c (compEnv scope C env) (eval c (compEnv scope C env)); pure (ForInStep.yield ok) else pure (ForInStep.yield r))
        (fun ok s₄ => ok = p v ∧ Keeps s₃ s₄) E' s₃)
    (he : ∀ C v s₃ m₃ E', v ∈ vs → p v = true → s₃.heap.Ns C m₃ → m₃ x = some v → (∀ b o, s.heap.get? b = some o → s₃.heap.get? b = some o) →
      wpAny (model prog w) A (eval elt (compEnv scope C env)) (fun y s₄ => F v y ∧ Keeps s₃ s₄) E' s₃)
    (done : ∀ D h' tk ys n, s.heap.get? D = none → h'.get? D = some (W.listOf (List.toArray ys) n) → Paired F (vs.filter p) ys → (∀ b o, s.heap.get? b = some o → h'.get? b = some o) → Q (.ref D) { s with heap := h', toks := tk }) :
    wpAny (model prog w) A (pyIter (.ref l)) (CompPost prog w A env scope x ifs elt Q) E s := by
  obtain ⟨o, hol, _⟩ := id hl
  have hne : l ≠ s.heap.objs.size := Nat.ne_of_lt (Heap.lt_size hol)
  refine wpAny_pyIter_list hl ?_
  have Wk := Walks.list (prog := prog) (w := w) hh s.heap.objs.size l hne vs.toArray
  have up : ∀ b o, s.heap.get? b = some o → (s.heap.push { cls := .type "list_iterator", data := .fields #[.ref l, .int 0 0] }).get? b = some o := fun b o e => Heap.get?_push_of_some _ e
  have nw : ∀ b o, s.heap.get? b = some o → b ∉ [s.heap.objs.size] := fun b o e m => by
    rw [List.mem_singleton.mp m] at e
    exact absurd (Heap.lt_size e) (Nat.lt_irrefl _)
  have hlen : vs.toArray.size = vs.length := by simp
  rw [hlen] at Wk
  refine ⟨p, F, s.heap.objs.size, _, _, vs.length, _, _, rfl, Wk, hz, ⟨⟨_, Heap.get?_push_size _ rfl, rfl, rfl⟩, hl.at fun o e => up _ _ e⟩, ?_, ⟨?_, ?_⟩, ?_⟩
  · intro b hb
    show b < (s.heap.push _).objs.size
    rw [Heap.size_push]
    rcases List.mem_cons.mp hb with rfl | hb
    · exact Nat.lt_succ_self _
    · rw [List.mem_singleton.mp hb]; exact Nat.lt_succ_of_lt (Heap.lt_size hol)
  · intro C i v s₃ m₃ E' hP hn hm hk _
    exact tests C v s₃ m₃ E' (List.mem_of_getElem? (i := i) (by simpa using hP)) hn hm fun b o e => hk b o (nw b o e) (up b o e)
  · intro C i v s₃ m₃ E' hP hp hn hm hk _
    exact he C v s₃ m₃ E' (List.mem_of_getElem? (i := i) (by simpa using hP)) hp hn hm fun b o e => hk b o (nw b o e) (up b o e)
  · intro D h' tk ys us hD _ hpl hlen2 hP hF hk
    obtain ⟨n, hDn⟩ := hpl
    have hus : us = vs := by
      refine List.ext_getElem? fun i => ?_
      by_cases hi : i < us.length
      · have h1 := hP i us[i] (by first | kopn_word | simp [hi])
        have h2 : vs[i]? = some us[i] := by simpa using h1
        rw [h2]; simp [hi]
      · rw [List.getElem?_eq_none (by omega), List.getElem?_eq_none (by omega)]
    subst hus
    refine done D h' tk ys.toList n ?_ (by simpa using hDn) hF fun b o e => hk b o (nw b o e) (up b o e)
    cases q : s.heap.get? D with
    | none => rfl
    | some o => rw [up _ _ q] at hD; cases hD

theorem tests_nil {C : Addr} {scope : Scope} {Q : Bool → Shared → Prop} (h : Q true s) :
    wpAny (model prog w) A (forIn ([] : List Expr) true fun c r => if r = true then do let ok ← isTrue c (compEnv scope C env) (eval c (compEnv scope C env)); pure (ForInStep.yield ok) else pure (ForInStep.yield r)) Q E s := by
  exact wpAny_pure h
end

theorem pr_mem {α β : Type} {F : α → β → Prop} {l₁ : List α} {l₂ : List β} (x : Paired F l₁ l₂) : ∀ a ∈ l₁, ∃ b ∈ l₂, F a b := by
  induction x with
  | nil => exact fun _ h => absurd h List.not_mem_nil
  | cons h t ih =>
    intro a hm
    rcases List.mem_cons.mp hm with rfl | hm
    · exact ⟨_, .head _, h⟩
    · obtain ⟨b, hb, e⟩ := ih a hm
      exact ⟨b, .tail _ hb, e⟩
theorem pr_comb {α β γ : Type} {F : α → β → Prop} {G : α → γ → Prop} {H : β → γ → Prop} (hc : ∀ a b c, F a b → G a c → H b c) {l₁ : List α} {l₂ : List β} {l₃ : List γ} (x : Paired F l₁ l₂) : Paired G l₁ l₃ → Paired H l₂ l₃ := by
  induction x generalizing l₃ with
  | nil => intro y; cases y; exact .nil
  | cons h t ih =>
    intro y
    cases y with
    | cons h' t' => exact .cons (hc _ _ _ h h') (ih t')
theorem pr_flip {α β : Type} {F : α → β → Prop} {l₁ : List α} {l₂ : List β} (x : Paired F l₁ l₂) : Paired (fun b a => F a b) l₂ l₁ := by
  induction x with
  | nil => exact .nil
  | cons h t ih => exact .cons h ih
theorem pr_get {α β : Type} {F : α → β → Prop} {l₁ : List α} {l₂ : List β} (x : Paired F l₁ l₂) : ∀ (i : Nat) (b : β), l₂[i]? = some b → ∃ a, l₁[i]? = some a ∧ F a b := by
  induction x with
  | nil => intro i b h; simp at h
  | cons h t ih =>
    intro i b e
    cases i with
    | zero => simp at e; subst e; exact ⟨_, rfl, h⟩
    | succ i => simpa using ih i b (by simpa using e)
theorem pr_app {α β : Type} {F : α → β → Prop} {a a' : List α} {b b' : List β} (h : Paired F a b) (h' : Paired F a' b') : Paired F (a ++ a') (b ++ b') := by
  induction h with
  | nil => exact h'
  | cons h _ ih => exact .cons h ih
theorem pr_filter {α β : Type} {F : α → β → Prop} {p : α → Bool} {q : β → Bool} {l₁ : List α} {l₂ : List β} (hpq : ∀ a b, a ∈ l₁ → F a b → p a = q b) (x : Paired F l₁ l₂) : Paired F (l₁.filter p) (l₂.filter q) := by
  revert hpq
  induction x with
  | nil => exact fun _ => .nil
  | cons h t ih =>
    intro hpq
    have e := hpq _ _ (.head _) h
    have r := ih (fun a b ha hf => hpq a b (.tail _ ha) hf)
    rw [List.filter_cons, List.filter_cons, e]
    split
    · exact .cons h r
    · exact r

noncomputable abbrev Bts := Array UInt8
/-- name, octets, without a name of its own -/
noncomputable abbrev Row := Bts × Bts × Bool
noncomputable abbrev tup3 (x y z : Value) (n : Nat) : Obj := { cls := .type "tuple", data := .seq #[x, y, z] n }
noncomputable def TupAt (h : Heap) (v : Value) (r : Row) : Prop := ∃ a t1 t2 n, v = .ref a ∧ h.get? a = some (tup3 (.bytes r.1 t1) (.bytes r.2.1 t2) (.bool r.2.2) n)
theorem TupAt.keep {h h' : Heap} {v : Value} {r : Row} (x : TupAt h v r) (k : ∀ b o, h.get? b = some o → h'.get? b = some o) : TupAt h' v r :=
  by obtain ⟨a, t1, t2, n, e, ha⟩ := x; exact ⟨a, t1, t2, n, e, k _ _ ha⟩
theorem TupAt.chg {h h' : Heap} {Δ : List Addr} {v : Value} {r : Row} (x : TupAt h v r) (k : Chg Δ h h') (hΔ : ∀ a ∈ Δ, ∀ o, h.get? a = some o → o.cls ≠ .type "tuple") : TupAt h' v r :=
  by obtain ⟨a, t1, t2, n, e, ha⟩ := x; exact ⟨a, t1, t2, n, e, k _ _ ha fun m => hΔ a m _ ha rfl⟩
theorem rows_g {g h : Heap} {cells : List (Addr × Obj)} {vs : List Value} {rows : List Row} (hg : ∀ a o, h.get? a = some o → a ∉ cells.map (·.1) → g.get? a = some o) (hc : ∀ q ∈ cells, h.get? q.1 = some q.2)
    (ht : ∀ q ∈ cells, q.2.cls ≠ .type "tuple") (P : Paired (TupAt h) vs rows) : Paired (TupAt g) vs rows :=
  P.mono fun _ _ ⟨a, t1, t2, n, e, ha⟩ => ⟨a, t1, t2, n, e, hg _ _ ha fun m => by
    obtain ⟨⟨q1, q2⟩, hq, rfl⟩ := List.mem_map.mp m
    have := hc _ hq
    dsimp only at ha this
    rw [ha] at this
    cases this
    exact ht _ hq rfl⟩
theorem TupAt.isTup {h : Heap} {a : Addr} {x y z : Value} {n : Nat} (e : h.get? a = some (tup3 x y z n)) : IsTup h a [x, y, z].toArray := ⟨_, e, rfl, n, rfl⟩
section
variable {prog : Program} {w : World} {A : Around} {E : Value → Shared → Prop} {s : Shared} {env : Env} {g : Heap} {m : Str → Option Value} {news : List (Addr × Obj)}

/-- a turn that stores nothing but the loop's own names and what the frame bears besides -/
noncomputable def Turn (g : Heap) (L : Addr) (keep : Str → Prop) (m : Str → Option Value) (news : List (Addr × Obj)) (Pn : Prop) (Q : Flow → Shared → Prop) (s : Shared) (f : Flow) (s₃ : Shared) : Prop :=
  match f with
  | .ret v => Q (.ret v) s₃
  | .brk => Q .next s₃
  | _ => ∃ h' tk' m₂, s₃ = { s with heap := h', toks := tk' } ∧ Fr g L h' m₂ ∧ News g L h' news ∧ (∀ y, keep y → m₂ y = m y) ∧ Pn

theorem enum_loop {xi xc : Str} {body : List Stmt} {l : Addr} {vs : List Value} {Q : Flow → Shared → Prop} (Pre : Nat → Prop) (hh : A.handled = none) (hl : s.heap.IsList l vs.toArray)
    (F : Fr g env.locals s.heap m) (N : News g env.locals s.heap news) (hlL : l ≠ env.locals) (h0 : Pre 0)
    (step : ∀ i v t h tk own, vs[i]? = some v → Pre i → Fr g env.locals h (fun y => if y = xc then some v else if y = xi then some (.int i t) else m y) → News g env.locals h (news ++ own) →
      wpAny (model prog w) A (execs body env) (Turn g env.locals (fun y => y ≠ xi ∧ y ≠ xc) m (news ++ own) (Pre (i + 1)) Q s) E { s with heap := h, toks := tk })
    (done : ∀ h tk (m₁ : Str → Option Value), Pre vs.length → (∀ y, y ≠ xi ∧ y ≠ xc → m₁ y = m y) → Fr g env.locals h m₁ → News g env.locals h news → Q .next { s with heap := h, toks := tk }) :
    wpAny (model prog w) A (call (.type "enumerate") [.ref l]) (fun xv s₁ => wpAny (model prog w) A (pyIter xv) (fun it s₂ => PairAt3 prog w A g env xi xc body Q E it s₂) E s₁) E s := by
  obtain ⟨ol, hol, _⟩ := id hl
  have hlt : l < s.heap.objs.size := Heap.lt_size hol
  have hLs : env.locals < s.heap.objs.size := F.ns.lt
  refine call_enumerate_list hl fun h₂ he hit hsz hk => ?_
  refine wpAny_pyIter_enum he ?_
  have F₂ : Fr g env.locals h₂ m := ⟨F.ns.keeps hk, fun b o e => hk b o (F.keep b o e), F.above⟩
  have N₂ : News g env.locals h₂ news := fun q hq => ⟨hk _ _ (N q hq).1, (N q hq).2⟩
  have Wk := WalksT.enumerate (prog := prog) (w := w) hh (s.heap.objs.size + 1) s.heap.objs.size l (Nat.succ_ne_self _) (Nat.ne_of_lt (Nat.lt_succ_of_lt hlt)) (Nat.ne_of_lt hlt) vs.toArray
  have hlen : vs.toArray.size = vs.length := by simp
  have gnone : ∀ b, s.heap.objs.size ≤ b → g.get? b = none := fun b hb => by
    cases q : g.get? b with
    | none => rfl
    | some o => exact absurd (Heap.lt_size (F.keep b o q)) (Nat.not_lt.mpr hb)
  rw [hlen] at Wk
  refine ⟨s.heap.objs.size + 1, _, _, vs.length, _, _, _, fun i v0 v1 => vs[i]? = some v1 ∧ ∃ t, v0 = .int i t, m, news, fun i m₁ n₁ => n₁ = news ∧ Pre i ∧ ∀ y, y ≠ xi ∧ y ≠ xc → m₁ y = m y, rfl, Wk, ?_, ?_, ?_, ?_, ?_, F₂, N₂, ⟨rfl, h0, fun _ _ => rfl⟩, ?_, ?_⟩
  · rintro i vals ⟨t, x, hx, rfl⟩
    exact ⟨_, _, rfl, by simpa using hx, t, rfl⟩
  · intro hm
    rcases List.mem_cons.mp hm with e | hm
    · (rw [e] at hLs; exact absurd hLs (Nat.not_lt.mpr (Nat.le_succ _)))
    · rcases List.mem_cons.mp hm with e | hm
      · exact absurd hLs (e ▸ Nat.lt_irrefl _)
      · exact hlL (List.mem_singleton.mp hm).symm
  · intro b hb
    rcases List.mem_cons.mp hb with e | hb
    · exact gnone b (e ▸ Nat.le_succ _)
    · exact gnone b (Nat.le_of_eq (List.mem_singleton.mp hb).symm)
  · intro q hq hm
    have hlt := Heap.lt_size (N q hq).1
    rcases List.mem_cons.mp hm with e | hm
    · (rw [e] at hlt; exact absurd hlt (Nat.not_lt.mpr (Nat.le_succ _)))
    · exact absurd hlt (by rw [List.mem_singleton.mp hm]; exact Nat.lt_irrefl _)
  · exact ⟨⟨.none, he⟩, hit, hl.at fun o e => hk l o e⟩
  · rintro i v0 v1 m₁ n₁ s₁ own ⟨h, tk, rfl⟩ hi ⟨hv, t, rfl⟩ ⟨rfl, hp, hm⟩ _ hown F₃ N₃
    have N₄ : News g env.locals h (n₁ ++ own) := fun q hq => N₃ q (List.mem_append.mpr ((List.mem_append.mp hq).symm))
    have em : (fun y => if y = xc then some v1 else if y = xi then some (Value.int i t) else m₁ y) = fun y => if y = xc then some v1 else if y = xi then some (Value.int i t) else m y := by
      funext y
      by_cases h1 : y = xc
      · simp only [if_pos h1]
      · by_cases h2 : y = xi
        · simp only [if_neg h1, if_pos h2]
        · simp only [if_neg h1, if_neg h2]; exact hm y ⟨h2, h1⟩
    rw [em] at F₃
    refine wpAny_mono (step i v1 t h tk own hv hp F₃ N₄) (fun f s₃ p => ?_) fun _ _ e => e
    have fin : (∃ h' tk' m₂, s₃ = { s with heap := h', toks := tk' } ∧ Fr g env.locals h' m₂ ∧ News g env.locals h' (n₁ ++ own) ∧ (∀ y, y ≠ xi ∧ y ≠ xc → m₂ y = m y) ∧ Pre (i + 1)) →
        LoopStep2 g env.locals own n₁ (fun m₁ n₂ => n₂ = n₁ ∧ Pre (i + 1) ∧ ∀ y, y ≠ xi ∧ y ≠ xc → m₁ y = m y) { s with heap := h, toks := tk } .next s₃ := by
      rintro ⟨h', tk', m₂, rfl, F', N', hm', hp'⟩
      exact ⟨rfl, h', tk', m₂, n₁, rfl, F', fun q hq => N' q (List.mem_append.mpr ((List.mem_append.mp hq).symm)), rfl, rfl, hp', hm'⟩
    cases f with
    | ret v => exact p
    | brk => exact p
    | next => exact fin p
    | cont => exact fin p
  · rintro h tk m₁ n₁ F' N' _ ⟨rfl, hp, hm⟩
    exact done h tk m₁ hp hm F' N'

/-- an item that is a tuple or a list of three -/
noncomputable def Three (h : Heap) (v v0 v1 v2 : Value) : Prop := ∃ a, v = .ref a ∧ (h.IsTuple a #[v0, v1, v2] ∨ h.IsList a #[v0, v1, v2])
theorem Three.keep {h h' : Heap} {v v0 v1 v2 : Value} (x : Three h v v0 v1 v2) (k : ∀ b o, h.get? b = some o → h'.get? b = some o) : Three h' v v0 v1 v2 := by
  obtain ⟨a, e, h1 | h1⟩ := x
  · exact ⟨a, e, .inl (h1.at fun o q => k _ _ q)⟩
  · exact ⟨a, e, .inr (h1.at fun o q => k _ _ q)⟩

theorem assign3 {x y z : Str} {p1 p2 p3 pt : Pos} {k : Nat} {v v0 v1 v2 : Value} {Q : Unit → Shared → Prop} (hh : A.handled = none) (hx : env.kindOf x = some .local) (hy : env.kindOf y = some .local) (hz : env.kindOf z = some .local)
    (hp : (env.scope.kind == .class || (env.scope.kind == .module && env.locals != env.globals)) = false) (F : Fr g env.locals s.heap m) (N : News g env.locals s.heap news) (T : Three s.heap v v0 v1 v2)
    (h : ∀ h' tk, Fr g env.locals h' (fun n => if n = z then some v2 else if n = y then some v1 else if n = x then some v0 else m n) → News g env.locals h' news → Q () { s with heap := h', toks := tk }) :
    wpAny (model prog w) A (assign (.Tuple [.Name x p1, .Name y p2, .Name z p3] k pt) env v) Q E s := by
  have rest : ∀ h₃, Fr g env.locals h₃ m → News g env.locals h₃ news →
      wpAny (model prog w) A (assignInOrder ((assignEach [.Name x p1, .Name y p2, .Name z p3] env).map (·.2)) [v0, v1, v2]) Q E { s with heap := h₃ } := fun h₃ F₃ N₃ => by
    show wpAny _ A (do holding [v1, v2] (assign (.Name x p1) env v0); do holding [v2] (assign (.Name y p2) env v1); do holding [] (assign (.Name z p3) env v2); pure ()) _ _ _
    refine wpAny_bind (wpAny_holding (wpAny_assign_Name (wpAny_storeName_local hx F₃.ns (fun h₄ hn₄ hs₄ => ?_) hp)))
    have F₄ := F₃.set hn₄ hs₄
    have N₄ := N₃.set hs₄
    refine wpAny_bind (wpAny_holding (wpAny_assign_Name (wpAny_storeName_local hy F₄.ns (fun h₅ hn₅ hs₅ => ?_) hp)))
    have F₅ := F₄.set hn₅ hs₅
    have N₅ := N₄.set hs₅
    refine wpAny_bind (wpAny_holding (wpAny_assign_Name (wpAny_storeName_local hz F₅.ns (fun h₆ hn₆ hs₆ => wpAny_pure ?_) hp)))
    exact h h₆ _ (F₅.set hn₆ hs₆) (N₅.set hs₆)
  obtain ⟨a, rfl, T | T⟩ := T
  · refine wpAny_assign_Tuple hh T rfl rfl fun h₃ hx₃ => ?_
    have up : ∀ b o, s.heap.get? b = some o → h₃.get? b = some o := fun b o e => hx₃ b o (Nat.ne_of_lt (Heap.lt_size e)) e
    exact rest h₃ ⟨F.ns.keeps up, fun b o e => up b o (F.keep b o e), F.above⟩ fun q hq => ⟨up _ _ (N q hq).1, (N q hq).2⟩
  · exact kun_list F N T hh rfl rfl rest

noncomputable def At3 (prog : Program) (w : World) (A : Around) (env : Env) (x y z : Str) (p1 p2 p3 : Pos) (k : Nat) (pt : Pos) (body : List Stmt) (Q : Flow → Shared → Prop) (E : Value → Shared → Prop) (it : Value) (s₂ : Shared) : Prop :=
  codeAny (model prog w) A (.forLoop (.Tuple [.Name x p1, .Name y p2, .Name z p3] k pt) it body [] env) (fun r s' => match r with | .ok f => Q f s' | .error e => cameBackBy (model prog w) A env E e s') s₂
theorem For3 {x y z : Str} {p1 p2 p3 pt pos : Pos} {k : Nat} {iter : Expr} {body : List Stmt} {Q : Flow → Shared → Prop}
    (h : wpAny (model prog w) A (eval iter env) (fun xv s₁ => wpAny (model prog w) A (pyIter xv) (fun it s₂ => At3 prog w A env x y z p1 p2 p3 k pt body Q E it s₂) E s₁) E s)
    (hs : ∀ x, foldedSetIterable iter env x = pure x := by intro _; rfl) :
    wpAny (model prog w) A (exec (.For (.Tuple [.Name x p1, .Name y p2, .Name z p3] k pt) iter body [] pos) env) Q E s := wpAny_For h hs

theorem list3_loop {x y z : Str} {p1 p2 p3 pt : Pos} {k : Nat} {body : List Stmt} {l : Addr} {vs : List Value} {Q : Flow → Shared → Prop} (Pre : Nat → Prop) (B : Nat → Value → Value → Value → Prop) (hh : A.handled = none)
    (hx : env.kindOf x = some .local) (hy : env.kindOf y = some .local) (hz : env.kindOf z = some .local) (hp : (env.scope.kind == .class || (env.scope.kind == .module && env.locals != env.globals)) = false)
    (F : Fr g env.locals s.heap m) (N : News g env.locals s.heap news) (h0 : Pre 0) (hl : ∀ h n, Fr g env.locals h n → News g env.locals h news → h.IsList l vs.toArray)
    (it3 : ∀ i v, vs[i]? = some v → ∃ v0 v1 v2, B i v0 v1 v2 ∧ Three g v v0 v1 v2)
    (step : ∀ i v0 v1 v2 h tk own, i < vs.length → B i v0 v1 v2 → Pre i → Fr g env.locals h (fun n => if n = z then some v2 else if n = y then some v1 else if n = x then some v0 else m n) → News g env.locals h (news ++ own) →
      wpAny (model prog w) A (execs body env) (Turn g env.locals (fun n => n ≠ x ∧ n ≠ y ∧ n ≠ z) m (news ++ own) (Pre (i + 1)) Q s) E { s with heap := h, toks := tk })
    (done : ∀ h tk (m₁ : Str → Option Value), Pre vs.length → (∀ n, n ≠ x ∧ n ≠ y ∧ n ≠ z → m₁ n = m n) → Fr g env.locals h m₁ → News g env.locals h news → Q .next { s with heap := h, toks := tk })
    (hE : PassesOwn (model prog w) A env E := by passes_own) :
    wpAny (model prog w) A (pyIter (.ref l)) (fun it s₂ => At3 prog w A env x y z p1 p2 p3 k pt body Q E it s₂) E s := by
  have hls := hl _ _ F N
  obtain ⟨ol, hol, _⟩ := id hls
  have hlt : l < s.heap.objs.size := Heap.lt_size hol
  have hne : l ≠ s.heap.objs.size := Nat.ne_of_lt hlt
  have hLs : env.locals < s.heap.objs.size := F.ns.lt
  refine wpAny_pyIter_list hls ?_
  have Wk := Walks.list (prog := prog) (w := w) hh s.heap.objs.size l hne vs.toArray
  generalize hI : s.heap.objs.size = I at Wk hne hlt hLs
  have hgI : g.get? I = none := by rw [← hI]; exact next_is_new F
  have hIn : ∀ q ∈ news, q.1 ≠ I := fun q hq e => absurd (Heap.lt_size (N q hq).1) (by rw [e, ← hI]; exact Nat.lt_irrefl _)
  refine codeAny_forLoop_any
    (fun n s' => ∃ h' tk m' i, s' = { s with heap := h', toks := tk } ∧ (h'.IsListIter I l i ∧ h'.IsList l vs.toArray) ∧ Fr g env.locals h' m' ∧ News g env.locals h' news ∧ (∀ n, n ≠ x ∧ n ≠ y ∧ n ≠ z → m' n = m n) ∧ Pre i ∧ i ≤ vs.length ∧ n = vs.length + 1 - i) ?_ (vs.length + 1)
    ⟨_, s.toks, m, 0, rfl, ⟨⟨_, by rw [← hI]; exact Heap.get?_push_size _ rfl, rfl, rfl⟩, hls.at fun o e => Heap.get?_push_of_some _ e⟩, F.push _, fun q hq => ⟨Heap.get?_push_of_some _ (N q hq).1, (N q hq).2⟩, fun _ _ => rfl, h0, Nat.zero_le _, rfl⟩
  rintro n s' ⟨H, tk, m', i, rfl, hst, F', N', hm', hpre, hi, rfl⟩
  have next : ∀ h₁ : Heap, (∀ b o, b ∉ [I] → H.get? b = some o → h₁.get? b = some o) → Fr g env.locals h₁ m' ∧ News g env.locals h₁ news := fun h₁ hk₁ =>
    ⟨⟨F'.ns.at' fun o e => hk₁ _ o (fun hm => absurd hLs (by rw [List.mem_singleton.mp hm]; exact Nat.lt_irrefl _)) e, fun b o e => hk₁ b o (fun hm => by rw [List.mem_singleton.mp hm, hgI] at e; cases e) (F'.keep b o e), F'.above⟩,
      fun q hq => ⟨hk₁ _ _ (fun hm => hIn q hq (List.mem_singleton.mp hm)) (N' q hq).1, (N' q hq).2⟩⟩
  have hlen : vs.toArray.size = vs.length := by simp
  by_cases hlt2 : i < vs.length
  · refine Wk.item i _ _ _ (by rw [hlen]; exact hlt2) hst fun v h₁ tk₁ hv hst₁ hk₁ => ?_
    have hv' : vs[i]? = some v := by simpa using hv
    obtain ⟨F₁, N₁⟩ := next h₁ hk₁
    obtain ⟨v0, v1, v2, hB, T⟩ := it3 i v hv'
    obtain ⟨aT, rfl, _⟩ := id T
    refine wpAny_letOwnedTupleGo_listiter (s := { s with heap := h₁, toks := tk₁ }) hst₁.1 ?_
    obtain ⟨oI, hoI, hoc, hod⟩ := id hst₁.1
    have N₁' : News g env.locals h₁ (news ++ [(I, oI)]) := fun q hq => by
      rcases List.mem_append.mp hq with hq | hq
      · exact N₁ q hq
      · rw [List.mem_singleton.mp hq]
        exact ⟨hoI, fun e => absurd hLs (by rw [← e]; exact Nat.lt_irrefl _), hgI⟩
    refine assign3 (s := { s with heap := h₁, toks := tk₁ }) hh hx hy hz hp F₁ N₁' (T.keep F₁.keep) fun h₂ tk₂ F₂ N₂ => ?_
    have em : (fun n => if n = z then some v2 else if n = y then some v1 else if n = x then some v0 else m' n) = fun n => if n = z then some v2 else if n = y then some v1 else if n = x then some v0 else m n := by
      funext n
      by_cases h1 : n = z
      · simp only [if_pos h1]
      · by_cases h2 : n = y
        · simp only [if_neg h1, if_pos h2]
        · by_cases h3 : n = x
          · simp only [if_neg h1, if_neg h2, if_pos h3]
          · simp only [if_neg h1, if_neg h2, if_neg h3]; exact hm' n ⟨h3, h2, h1⟩
    rw [em] at F₂
    refine wpAny_passesOwn hE (wpAny_mono (step i v0 v1 v2 h₂ tk₂ [(I, oI)] hlt2 hB hpre F₂ N₂) (fun f s₃ q => ?_) fun _ _ e => e)
    have fin : (∃ h' tk' m₂, s₃ = { s with heap := h', toks := tk' } ∧ Fr g env.locals h' m₂ ∧ News g env.locals h' (news ++ [(I, oI)]) ∧ (∀ n, n ≠ x ∧ n ≠ y ∧ n ≠ z → m₂ n = m n) ∧ Pre (i + 1)) →
        ∃ n, n < vs.length + 1 - i ∧ ∃ h' tk m' i, s₃ = { s with heap := h', toks := tk } ∧ (h'.IsListIter I l i ∧ h'.IsList l vs.toArray) ∧ Fr g env.locals h' m' ∧ News g env.locals h' news ∧ (∀ n, n ≠ x ∧ n ≠ y ∧ n ≠ z → m' n = m n) ∧ Pre i ∧ i ≤ vs.length ∧ n = vs.length + 1 - i := by
      rintro ⟨h', tk', m₂, rfl, F₃, N₃, hm₃, hp₃⟩
      have N₄ : News g env.locals h' news := fun q hq => N₃ q (List.mem_append.mpr (.inl hq))
      exact ⟨vs.length + 1 - (i + 1), by omega, h', tk', m₂, i + 1, rfl, ⟨⟨oI, (N₃ _ (List.mem_append.mpr (.inr (.head _)))).1, hoc, hod⟩, hl _ _ F₃ N₄⟩, F₃, N₄, hm₃, hp₃, hlt2, rfl⟩
    cases f with
    | ret v => exact q
    | brk => exact q
    | next => exact fin q
    | cont => exact fin q
  · have hin : i = vs.length := by omega
    subst hin
    refine Wk.done _ _ _ (by rw [hlen]; exact hst) fun h₁ tk₁ hk₁ => wpAny_execs_nil ?_
    obtain ⟨F₁, N₁⟩ := next h₁ hk₁
    exact done h₁ tk₁ m' hpre hm' F₁ N₁
end
theorem beq_toList (x y : Bts) : (x.toList == y.toList) = (x == y) := by
  by_cases h : x = y
  · subst h; simp
  · have h2 : x.toList ≠ y.toList := fun e => h (Array.toList_inj.mp e)
    rw [beq_eq_false_iff_ne.mpr h, beq_eq_false_iff_ne.mpr h2]
theorem eqGives_bytes (x y : Bts) (t u : Tok) : MeetsSeq.EqGives (.bytes x t) (.bytes y u) (x == y) := by
  intro prog w A E s Q h
  unfold eqBool
  refine wpAny_holding ?_
  refine wpAny_ite_split (fun hab => ?_) (fun hab => ?_)
  · have e : x = y := by have := eq_of_beq hab; injection this
    subst e
    exact wpAny_bind (wpAny_rule (wpAny_pure (by simpa using h)))
  · exact wpAny_bind (richCompare_gives (typeIs_bytes s x t) (typeIs_bytes s y u) FB.slot_bytes_eq FB.entry_bytes_eq (FB.args_bytes_eq_2 _ _) (gives_bytes_eq x y t u) (by first | kopn_word | simp [Made.takes]) (wpAny_truthy_bool (by rw [beq_toList]; exact h)))

theorem fr_kst {g h : Heap} {L : Addr} {m : Str → Option Value} (ps : List (Str × Value)) (F : Fr g L h m) (hp : ∀ q ∈ ps, m q.1 = some q.2) : Fr g L h (kstB m ps) := by
  have e : kstB m ps = m := funext fun _ => kstB_eq hp fun _ => rfl
  rw [e]
  exact F
theorem fr_kst1 {g h : Heap} {L : Addr} {m : Str → Option Value} {x : Str} {v : Value} (ps : List (Str × Value)) (F : Fr g L h fun y => if y = x then some v else m y) (hp : ∀ q ∈ ps, m q.1 = some q.2) : Fr g L h fun y => if y = x then some v else kstB m ps y := by
  have e : kstB m ps = m := funext fun _ => kstB_eq hp fun _ => rfl
  rw [e]
  exact F
noncomputable def isBts (nm : Bts) (v : Value) : Bool := match v with | .bytes b _ => b == nm | _ => false
noncomputable def has (rows : List Row) (nm : Bts) : Bool := rows.any fun r => r.1 == nm
theorem any_names {nm : Bts} : ∀ {us : List Value} {rows : List Row}, Paired (fun v r => ∃ t, v = .bytes r.1 t) us rows → us.any (isBts nm) = has rows nm
  | _, _, .nil => rfl
  | _, _, .cons ⟨t, e⟩ r => by
    subst e
    have := any_names (nm := nm) r
    unfold has at this ⊢
    rw [List.any_cons, List.any_cons, this]
    rfl
theorem gives_names {nm : Bts} {t : Tok} {us : List Value} {rows : List Row} (P : Paired (fun v r => ∃ t, v = .bytes r.1 t) us rows) : ∀ y, y ∈ us.toArray → MeetsSeq.EqGives y (.bytes nm t) (isBts nm y) := fun y hy => by
  obtain ⟨r, _, u, rfl⟩ := pr_mem P y (by simpa using hy)
  exact eqGives_bytes _ _ _ _
section
variable {prog : Program} {w : World} {A : Around} {E : Value → Shared → Prop} {s : Shared} {l : Addr} {us : List Value} {rows : List Row} {nm : Bts} {t : Tok} {Q : Value → Shared → Prop}
theorem in_names (P : Paired (fun v r => ∃ t, v = .bytes r.1 t) us rows) (hl : s.heap.IsList l us.toArray) (h : Q (.bool (has rows nm)) s) : wpAny (model prog w) A (compareOp .In (.bytes nm t) (.ref l)) Q E s :=
  SeqInW.in_listW (isBts nm) (gives_names P) hl (by rw [List.any_toArray, any_names P]; exact h)
theorem notIn_names (P : Paired (fun v r => ∃ t, v = .bytes r.1 t) us rows) (hl : s.heap.IsList l us.toArray) (h : Q (.bool (!has rows nm)) s) : wpAny (model prog w) A (compareOp .NotIn (.bytes nm t) (.ref l)) Q E s :=
  SeqInW.notIn_listW (isBts nm) (gives_names P) hl (by rw [List.any_toArray, any_names P]; exact h)
end
noncomputable abbrev bufEs (w : World) (t1 t2 t3 : Tok) (m r n : Value) : List DictEntry :=
  [⟨PyData.keyHash w.params (Str.ofString "most"), .str (Str.ofString "most") t1, m⟩, ⟨PyData.keyHash w.params (Str.ofString "rows"), .str (Str.ofString "rows") t2, r⟩, ⟨PyData.keyHash w.params (Str.ofString "next"), .str (Str.ofString "next") t3, n⟩]
structure BufAt (w : World) (h : Heap) (b dx rl : Addr) (vs : List Value) (rows : List Row) (most next : Int) : Prop where
  inst : h.get? b = some (instObj 154 dx)
  dict : ∃ t1 t2 t3 tm tn, h.get? dx = some (dictOf (bufEs w t1 t2 t3 (.int most tm) (.ref rl) (.int next tn)) 3)
  list : ∃ n, h.get? rl = some (W.listOf vs.toArray n)
  rep : Paired (TupAt h) vs rows
  small : rows.length ≤ 1000

theorem buf_news {w : World} {g h : Heap} {L b dx rl : Addr} {m : Str → Option Value} {news : List (Addr × Obj)} {vs : List Value} {rows : List Row} {most next : Int} {t1 t2 t3 tm tn : Tok} {nr : Nat} (F : Fr g L h m) (N : News g L h news)
    (m1 : (b, instObj 154 dx) ∈ news) (m2 : (dx, dictOf (bufEs w t1 t2 t3 (.int most tm) (.ref rl) (.int next tn)) 3) ∈ news) (m3 : (rl, W.listOf vs.toArray nr) ∈ news) (P : Paired (TupAt g) vs rows) (hs : rows.length ≤ 1000) :
    BufAt w h b dx rl vs rows most next :=
  ⟨(N _ m1).1, ⟨t1, t2, t3, tm, tn, (N _ m2).1⟩, ⟨nr, (N _ m3).1⟩, P.mono fun _ _ x => x.keep F.keep, hs⟩

section
variable {p : Program} {loose : List Str} {mean : ExcName → Option Value} {mg mb : Str → Option Value} {prog : Program} {w : World} {dp un : Nat} {gs : Option (List Code)} {R : Result → Shared → Prop} {s : Shared} {base : Heap} {fs : List Env} {k : Nat}

theorem names_spec {b dx rl : Addr} {vs : List Value} {rows : List Row} {most next : Int} (M : Amb p loose mean mg mb w dp gs un base fs s.heap 5) (Bu : BufAt w s.heap b dx rl vs rows most next) (O : Off base fs [b, dx, rl])
    (post : ∀ D us n h' tk, s.heap.get? D = none → h'.get? D = some (W.listOf (List.toArray us) n) → Paired (fun v r => ∃ t, v = .bytes r.1 t) us rows → Chg [] s.heap h' → R (.ok (.ret (.ref D))) { s with heap := h', toks := tk }) :
    codeAny (model prog w) (AA dp fs gs un) (.call (.ref 81) ⟨[.ref b], []⟩) R s := by
  obtain ⟨hb, x5, ⟨nr, hrl⟩, hrows, hsm⟩ := Bu
  refine exE5 x5 fun t1 t2 t3 tm tn hdx => ?_
  clear x5
  w_on
  refine enterH M [(b, instObj 154 dx), (dx, dictOf (bufEs w t1 t2 t3 (.int most tm) (.ref rl) (.int next tn)) 3), (rl, W.listOf vs.toArray nr)] (by first | kopn_word | simp [hb, hdx, hrl]) O ?_
  intro g L' h₁ F N B X T hg hg' hL'
  dsimp only
  k_fold
  have hrg := rows_g hg (by first | kopn_word | simp [hb, hdx, hrl]) (by first | kopn_word | simp) hrows
  have hrh := hrg.mono fun _ _ x => x.keep F.keep
  w_strict k_steps
  dsimp only
  refine comp_src (fun _ => true) (fun v y => ∃ a x1 y1 z1 n1 tk tk', v = .ref a ∧ h₁.get? a = some (tup3 (.bytes x1 tk) y1 z1 n1) ∧ y = .bytes x1 tk') (by rfl) (isl N (.tail _ (.tail _ (.head _)))) (by rw [sizeLine_eq]; have := hrows.length; omega) ?_ ?_ ?_
  · intro C v s₃ m₃ E' _ _ _ _
    exact tests_nil ⟨rfl, s₃.heap, s₃.toks, rfl, fun _ _ e => e⟩
  · intro C v s₃ m₃ E' hv _ hn hm hk
    obtain ⟨r, _, a, x1, x2, n1, rfl, ha⟩ := pr_mem hrh _ hv
    refine ev_row (by rfl) (by rfl) hn hm (.inl (TupAt.isTup (hk _ _ ha))) (by decide) (by decide) rfl fun tk => ?_
    exact ⟨⟨a, _, _, _, _, _, _, rfl, ha, rfl⟩, _, _, rfl, fun _ _ e => e⟩
  · intro D h' tk' ys n' hD hDn hF hk
    dsimp only
    k_unfold
    dsimp only
    refine post D ys n' h' tk' ?_ hDn ?_ (fun a o e _ => hk _ _ (hg' a o e))
    · cases q : s.heap.get? D with
      | none => rfl
      | some o => exact absurd (hg' _ _ q) (by rw [hD]; exact nofun)
    · rw [List.filter_eq_self.mpr (by first | kopn_word | simp)] at hF
      refine pr_comb ?_ hF hrh
      rintro v y r ⟨a, x1, y1, z1, n1, tk, tk', rfl, ha, rfl⟩ ⟨a', t1', t2', n1', e', ha'⟩
      cases e'
      rw [ha] at ha'
      cases ha'
      exact ⟨_, rfl⟩
end
section
variable {p : Program} {loose : List Str} {mean : ExcName → Option Value} {mg mb : Str → Option Value} {prog : Program} {w : World} {dp un : Nat} {gs : Option (List Code)} {R : Result → Shared → Prop} {s : Shared} {base : Heap} {fs : List Env} {k : Nat}

theorem place_spec {b dx rl : Addr} {vs : List Value} {rows : List Row} {most next : Int} {nm : Bts} {tk₀ : Tok} {i : Nat} (M : Amb p loose mean mg mb w dp gs un base fs s.heap 5) (Bu : BufAt w s.heap b dx rl vs rows most next) (O : Off base fs [b, dx, rl])
    (hi : rows.findIdx? (fun r => r.1 == nm) = some i)
    (post : ∀ t h' tk, Chg [] s.heap h' → R (.ok (.ret (.int i t))) { s with heap := h', toks := tk }) :
    codeAny (model prog w) (AA dp fs gs un) (.call (.ref 88) ⟨[.ref b, .bytes nm tk₀], []⟩) R s := by
  obtain ⟨hb, x5, ⟨nr, hrl⟩, hrows, hsm⟩ := Bu
  refine exE5 x5 fun t1 t2 t3 tm tn hdx => ?_
  clear x5
  w_on
  refine enterH M [(b, instObj 154 dx), (dx, dictOf (bufEs w t1 t2 t3 (.int most tm) (.ref rl) (.int next tn)) 3), (rl, W.listOf vs.toArray nr)] (by first | kopn_word | simp [hb, hdx, hrl]) O ?_
  intro g L' h₁ F N B X T hg hg' hL'
  dsimp only
  k_fold
  have hrg := rows_g hg (by first | kopn_word | simp [hb, hdx, hrl]) (by first | kopn_word | simp) hrows
  have hrh := hrg.mono fun _ _ x => x.keep F.keep
  w_strict k_steps
  dsimp only
  rename Fr _ _ _ _ => F
  rename News _ _ _ _ => N
  refine enum_loop (fun j => ∀ j', j' < j → ∀ r, rows[j']? = some r → r.1 ≠ nm) rfl (isl N (.tail _ (.tail _ (.head _)))) F N (N _ (.tail _ (.tail _ (.head _)))).2.1 (fun _ h => absurd h (Nat.not_lt_zero _)) ?_ ?_
  · intro j v t h tk own hv hpre F N
    obtain ⟨r, hr, a, x1, x2, n1, rfl, ha⟩ := pr_get (pr_flip hrg) j v hv
    have hT := TupAt.isTup ha
    simp only [List.cons_append, List.nil_append] at N
    w_strict k_steps
    · rename (_ == _) = true => heq
      show R _ _
      have hj : i = j := by
        obtain ⟨h1, h2, h3⟩ := List.findIdx?_eq_some_iff_getElem.mp hi
        have hrj : rows[i]? = some rows[i] := List.getElem?_eq_getElem h1
        rcases Nat.lt_trichotomy i j with h | h | h
        · exact absurd (by simpa using h2) (hpre i h _ hrj)
        · exact h
        · have hjl : j < rows.length := Nat.lt_trans h h1
          have h4 := h3 j h
          rw [List.getElem?_eq_getElem hjl] at hr
          cases hr
          simp at h4
          exact absurd (Array.toList_inj.mp (by simpa using heq)) h4
      subst hj
      exact post _ _ _ (chg_sub hg (by first | kopn_word | simp [hb, hdx, hrl]) F N (by first | kopn_word | simp))
    · rename (_ == _) = false => hne
      refine ⟨_, _, _, rfl, F, N, fun y hy => ?_, fun j' hj' r' hr' => ?_⟩
      · rw [if_neg hy.2, if_neg hy.1]
      · rcases Nat.lt_or_ge j' j with h | h
        · exact hpre j' h r' hr'
        · have : j' = j := by omega
          subst this
          rw [hr] at hr'
          cases hr'
          intro e
          rw [e] at hne
          simp at hne
  · intro h tk m₁ hpre _ _ _
    obtain ⟨h1, h2, h3⟩ := List.findIdx?_eq_some_iff_getElem.mp hi
    exact absurd (by simpa using h2) (hpre i (by have := hrows.length; omega) _ (List.getElem?_eq_getElem h1))
end
section
variable {p : Program} {loose : List Str} {mean : ExcName → Option Value} {mg mb : Str → Option Value} {prog : Program} {w : World} {dp un : Nat} {gs : Option (List Code)} {R : Result → Shared → Prop} {s : Shared} {base : Heap} {fs : List Env} {k : Nat}


noncomputable def newestOf (rows : List Row) : Option Bts := (rows.find? (·.2.2)).map (·.1)
noncomputable def optV (o : Option Bts) (v : Value) : Prop := match o with | none => v = .none | some b => ∃ t, v = .bytes b t

theorem newest_spec {b dx rl : Addr} {vs : List Value} {rows : List Row} {most next : Int} (M : Amb p loose mean mg mb w dp gs un base fs s.heap 5) (Bu : BufAt w s.heap b dx rl vs rows most next) (O : Off base fs [b, dx, rl])
    (post : ∀ v h' tk, optV (newestOf rows) v → Chg [] s.heap h' → R (.ok (.ret v)) { s with heap := h', toks := tk }) :
    codeAny (model prog w) (AA dp fs gs un) (.call (.ref 117) ⟨[.ref b], []⟩) R s := by
  obtain ⟨hb, x5, ⟨nr, hrl⟩, hrows, hsm⟩ := Bu
  refine exE5 x5 fun t1 t2 t3 tm tn hdx => ?_
  clear x5
  w_on
  refine enterH M [(b, instObj 154 dx), (dx, dictOf (bufEs w t1 t2 t3 (.int most tm) (.ref rl) (.int next tn)) 3), (rl, W.listOf vs.toArray nr)] (by first | kopn_word | simp [hb, hdx, hrl]) O ?_
  intro g L' h₁ F N B X T hg hg' hL'
  dsimp only
  k_fold
  have hrg := rows_g hg (by first | kopn_word | simp [hb, hdx, hrl]) (by first | kopn_word | simp) hrows
  w_strict k_steps
  refine For3 ?_
  w_strict k_steps
  dsimp only
  rename Fr _ _ _ _ => F
  rename News _ _ _ _ => N
  refine list3_loop (fun j => ∀ j', j' < j → ∀ r, rows[j']? = some r → r.2.2 = false) (fun j v0 v1 v2 => ∃ r ta tb, rows[j]? = some r ∧ v0 = .bytes r.1 ta ∧ v1 = .bytes r.2.1 tb ∧ v2 = .bool r.2.2) rfl rfl rfl rfl rfl F N (fun _ h => absurd h (Nat.not_lt_zero _)) (fun _ _ _ N' => isl N' (.tail _ (.tail _ (.head _)))) ?_ ?_ ?_
  · intro j v hv
    obtain ⟨r, hr, a, x1, x2, n1, rfl, ha⟩ := pr_get (pr_flip hrg) j v hv
    exact ⟨_, _, _, ⟨r, x1, x2, hr, rfl, rfl, rfl⟩, a, rfl, .inl ⟨_, ha, rfl, _, rfl⟩⟩
  · rintro j _ _ _ h tk own hj ⟨r, ta, tb, hr, rfl, rfl, rfl⟩ hpre F N
    simp only [List.cons_append, List.nil_append] at N
    w_strict k_steps
    · rename _ = true => hown
      show R _ _
      refine post _ _ _ ?_ (chg_sub hg (by first | kopn_word | simp [hb, hdx, hrl]) F N (by first | kopn_word | simp))
      have hjl : j < rows.length := by rw [List.getElem?_eq_some_iff] at hr; exact hr.1
      have : rows.find? (·.2.2) = some r := by
        rw [List.find?_eq_some_iff_getElem]
        refine ⟨hown, j, hjl, by rw [List.getElem?_eq_getElem hjl] at hr; exact Option.some.inj hr, fun j' hj' => ?_⟩
        rw [hpre j' hj' _ (List.getElem?_eq_getElem (Nat.lt_trans hj' hjl))]
        rfl
      unfold newestOf
      rw [this]
      exact ⟨_, rfl⟩
    · rename _ = false => hown
      refine ⟨_, _, _, rfl, F, N, fun y hy => ?_, fun j' hj' r' hr' => ?_⟩
      · simp only [if_neg hy.1, if_neg hy.2.1, if_neg hy.2.2]
      · rcases Nat.lt_or_ge j' j with h | h
        · exact hpre j' h r' hr'
        · have : j' = j := by omega
          subst this
          rw [hr] at hr'
          cases hr'
          exact hown
  · intro h tk m₁ hpre hm F N
    w_strict k_steps
    show R _ _
    refine post _ _ _ ?_ (chg_sub hg (by first | kopn_word | simp [hb, hdx, hrl]) F N (by first | kopn_word | simp))
    have : rows.find? (·.2.2) = none := by
      rw [List.find?_eq_none]
      intro r hr
      obtain ⟨i, hi, e⟩ := List.mem_iff_getElem.mp hr
      rw [hpre i (by have := hrows.length; omega) r (by rw [List.getElem?_eq_getElem hi, e])]
      simp
    unfold newestOf
    rw [this]
    rfl
end
noncomputable def DeckAt (prog : Program) (w : World) (h : Heap) (d l : Addr) : Prop :=
  ∃ od vs ns mx n t, h.get? d = some od ∧ od.IsDictOf (strKind prog w) [(Str.ofString "left", .ref l), (Str.ofString "mixed", .int mx t)] ∧ h.get? l = some (W.listOf (List.toArray vs) n) ∧
    IntsAre vs ns ∧ (d == sysModules) = false ∧ (∀ x ∈ ns, 0 ≤ x ∧ x < 1000003) ∧ ns.length ≤ 63 ∧ 0 ≤ mx ∧ mx < 1000003

section
variable {p : Program} {loose : List Str} {mean : ExcName → Option Value} {mg mb : Str → Option Value} {prog : Program} {w : World} {dp un : Nat} {gs : Option (List Code)} {R : Result → Shared → Prop} {s : Shared} {base : Heap} {fs : List Env} {k : Nat}

theorem draw_spec {d l : Addr} {many : Int} {tk₀ : Tok} (M : Amb p loose mean mg mb w dp gs un base fs s.heap (k + 5)) (D : DeckAt prog w s.heap d l) (O : Off base fs [d, l]) (hm1 : 0 < many) (hm2 : many ≤ 1000)
    (post : ∀ v t h' tk, 0 ≤ v → v < many → DeckAt prog w h' d l → Chg [d, l] s.heap h' → R (.ok (.ret (.int v t))) { s with heap := h', toks := tk }) :
    codeAny (model prog w) (AA dp fs gs un) (.call (.ref 170) ⟨[.ref d, .int many tk₀], []⟩) R s := by
  obtain ⟨od, vs, ns, mx, n, t, hd1, hd2, hl1, hi, lo, hns, hlen, hmx⟩ := D
  have hne := dict_ne_list hd1 hd2 hl1
  w_on
  refine enterH M [(d, od), (l, W.listOf vs.toArray n)] (by first | kopn_word | simp [hd1, hl1]) O ?_
  intro g L' h₁ F N B X T hg hg' hL'
  dsimp only
  k_fold
  w_strict k_steps
  dsimp only
  rename News _ _ _ _ => N
  refine ne_intsK (isl N (.tail _ (.tail _ (.head _)))) hi (isl N (.head _)) .nil (by have := M.uni; show un + 3 + 64 < 9900; omega) ?_
  w_strict k_steps
  · dsimp only
    k_unfold
    dsimp only
    rename News _ _ _ _ => N
    rename Fr _ _ _ _ => F
    rename Obj.IsDictOf _ _ _ => D
    refine post _ _ _ _ ?_ ?_ ⟨_, vs, ns, _, n, _, (N _ (.tail _ (.head _))).1, D, (N _ (.tail _ (.tail _ (.head _)))).1, hi, lo, hns, hlen, ?_, ?_⟩ (chg_of hg F)
    · exact Int.fmod_nonneg_of_pos _ hm1
    · exact Int.fmod_lt_of_pos _ hm1
    · exact Int.fmod_nonneg_of_pos _ (by decide)
    · exact Int.fmod_lt_of_pos _ (by decide)
  · rename_i hz
    dsimp only [List.append]
    rename News _ _ _ _ => N
    cases hi with
    | nil => cases hz
    | cons x t₁ hr =>
      rename Fr _ _ _ _ => F
      refine' kl_popAt (its := List.toArray (Value.int x t₁ :: _)) F N (p := []) (k := 0) rfl ?hk rfl ?U ?_ ?_
      case U => k_upd
      case hk => simp [seqIndex?]
      · have := hr.length; simp only [List.length_cons] at hlen; rw [sizeLine_eq]; simp only [List.length_cons]; omega
      intro h' F' N'
      w_strict k_steps
      refine post _ _ _ _ ?_ ?_ ⟨_, _, _, _, _, _, (N' _ (.tail _ (.head _))).1, hd2, (N' _ (.tail _ (.tail _ (.head _)))).1, hr, lo, fun y hy => hns y (.tail _ hy), ?_, hmx.1, hmx.2⟩ (chg_of hg F')
      · exact Int.fmod_nonneg_of_pos _ hm1
      · exact Int.fmod_lt_of_pos _ hm1
      · simp only [List.length_cons] at hlen; omega
end
section
variable {p : Program} {loose : List Str} {mean : ExcName → Option Value} {mg mb : Str → Option Value} {prog : Program} {w : World} {dp un : Nat} {gs : Option (List Code)} {R : Result → Shared → Prop} {s : Shared} {base : Heap} {fs : List Env} {k : Nat}

/-- into a def whose locals are captured -/
theorem enterC {f : Addr} {oc : Value} {od : Option Addr} {osl : Array (Option Value)} {name qual : Str} {params : Arguments} {body : List Stmt} {scope : Scope} {dV kV doc pm cdv ct : Value} {an : Option Addr} {args : Args} {binds : List (Str × Value)}
    (M : Amb p loose mean mg mb w dp gs un base fs s.heap (k + 1)) (cells : List (Addr × Obj))
    (hc : ∀ q ∈ cells, s.heap.get? q.1 = some q.2) (ho' : Off base fs (cells.map (·.1)))
    (h : ∀ g L' h₁ tk own, Fr g L' h₁ (bindL (envOfC qual scope L' f cdv).kindOf binds fun _ => none) → News g L' h₁ (own ++ cells) → CellsAre (bindC (envOfC qual scope L' f cdv).kindOf binds fun _ => none) (cellsFrom (L' + 1) scope.names []) own →
      Below (AA dp fs gs un) base fs g → (Mine.hd.heap_1 w.params).In g → Top p loose mean mg mb g → (∀ q ∈ cells, q.1 < L') →
      (∀ a o, s.heap.get? a = some o → a ∉ cells.map (·.1) → g.get? a = some o) → (∀ a o, s.heap.get? a = some o → h₁.get? a = some o) → L' = s.heap.objs.size →
      wpAny (model prog w) ((AA dp fs gs un).deeper (envOfC qual scope L' f cdv)) (execs body (envOfC qual scope L' f cdv))
        (fun fl s' => R (.ok (.ret (match fl with | .ret v => v | _ => .none))) s')
        (fun e s' => wpAny (model prog w) ((AA dp fs gs un).deeper (envOfC qual scope L' f cdv)) (leaving (envOfC qual scope L' f cdv) e) (fun _ s'' => R (.error e) s'') (fun e' s'' => R (.error e') s'') s')
        { s with heap := h₁, toks := tk })
    (ho : (Mine.hd.heap_1 w.params).lookup f = some ⟨oc, od, .func (fnOf name qual params body scope dV kV doc pm an cdv ct), osl⟩ := by k_dflt k_is) (hcd : codeIn (Mine.hd.heap_1 w.params) cdv qual = true := by k_dflt k_is)
    (hbind : BindsTo s (fnOf name qual params body scope dV kV doc pm an cdv ct) args binds := by exact BindsTo.of_eq rfl) (hkind : (binds.all fun y => scope.names.lookup y.1 == some .local || scope.names.lookup y.1 == some .cell) = true := by rfl)
    (hnd : ((cellsFrom 0 scope.names []).map (·.1)).Nodup := by decide)
    (hco : scope.isCoroutine = false := by rfl) (hgen : scope.isGenerator = false := by rfl) (hk : scope.kind = .function := by rfl) : codeAny (model prog w) (AA dp fs gs un) (.call (.ref f) args) R s := by
  have hroom : (AA dp fs gs un).depth < recursionLimit := by have := M.dep; unfold recursionLimit; show dp < 1000; omega
  have B := M.below
  have XH : (Mine.hd.heap_1 w.params).In s.heap := fun a o e => B.stays a o (M.KI a o e)
  refine codeAny_call_function hroom (XH _ _ ho) rfl hco hgen rfl (codeRec_of XH hcd) (hbind _ _ _ _ ?_)
  refine wpAny_newFunctionEnv_cells hk (kindsX hkind _) fun env' he s' x => ?_
  subst he
  refine ⟨(M.top.nolimit.keeps B.stays).keeps x.toInCall.keep, codeAny_func ?_⟩
  obtain ⟨h₁, tk, rfl, _⟩ := x.done
  have hk₁ := x.toInCall.keep
  obtain ⟨own, NC, Y⟩ := Cl.news (h₀ := s.heap) (Nat.le_refl _) fun n c hm => ⟨x.cell n c (lookup_of_mem_nodup (cellsFrom_names scope.names 0 (s.heap.objs.size + 1) [] [] rfl ▸ hnd) hm), x.above n c hm⟩
  have nm : ∀ b o, base.get? b = some o → b ∉ cells.map (·.1) := fun b o e q => by rw [(ho' b q).1] at e; cases e
  have st : base.StaysIn (hideAll s.heap (cells.map (·.1))) := fun b o e => hideAll_get _ (B.stays b o e) (nm b o e)
  refine h (hideAll s.heap (cells.map (·.1))) s.heap.objs.size h₁ tk own ⟨x.toInCall.ns, fun b o e => hk₁ b o (of_hideAll _ e), Nat.le_of_eq (hideAll_size _ _)⟩ (fun q hq => ?_) Y
    ⟨B.stack, st, funFrames_hideAll B.frames fun env he a ha hf => (ho' a ha).2 (List.mem_filterMap.mpr ⟨env, he, hf⟩)⟩
    (M.KI.keeps fun b o e => st b o e) (M.top.keeps fun b o e => st b o e) (fun q hq => Heap.lt_size (hc q hq)) (fun a o e n => hideAll_get _ e n) hk₁ rfl
  rcases List.mem_append.mp hq with hq | hq
  · refine ⟨(NC q hq).1, (NC q hq).2.1, ?_⟩
    cases z : (hideAll s.heap (cells.map (·.1))).get? q.1 with
    | none => rfl
    | some o => have := of_hideAll _ z; rw [(NC q hq).2.2] at this; cases this
  · exact ⟨hk₁ _ _ (hc q hq), Nat.ne_of_lt (Heap.lt_size (hc q hq)), hideAll_none _ (List.mem_map_of_mem hq)⟩
end
section
variable {prog : Program} {w : World} {A : Around} {E : Value → Shared → Prop} {s : Shared} {env : Env}

/-- what a list comprehension over a list asks, once its source is there -/
noncomputable def LcEnd (prog : Program) (w : World) (A : Around) (env : Env) (scope : Scope) (cl : List (Str × Addr)) (x : Str) (ifs : List Expr) (elt : Expr) (Q : Value → Shared → Prop) (xv : Value) (s₁ : Shared) : Prop :=
  ∃ (p : Value → Bool) (F : Value → Value → Prop) (l : Addr) (vs : List Value), xv = .ref l ∧ s₁.heap.IsList l vs.toArray ∧ vs.length ≤ 1000 ∧
    (∀ C v s₃ m₃ E', v ∈ vs → s₃.heap.Ns (compEnvC scope cl C env).locals m₃ → m₃ x = some v → (∀ b o, s₁.heap.get? b = some o → s₃.heap.get? b = some o) →
      wpAny (model prog w) A (forIn ifs true fun c r => if r = true then do let ok ← isTrue c (compEnvC scope cl C env) (eval c (compEnvC scope cl C env)); pure (ForInStep.yield ok) else pure (ForInStep.yield r))
        (fun ok s₄ => ok = p v ∧ Keeps s₃ s₄) E' s₃) ∧
    (∀ C v s₃ m₃ E', v ∈ vs → p v = true → s₃.heap.Ns (compEnvC scope cl C env).locals m₃ → m₃ x = some v → (∀ b o, s₁.heap.get? b = some o → s₃.heap.get? b = some o) →
      wpAny (model prog w) A (eval elt (compEnvC scope cl C env)) (fun y s₄ => F v y ∧ Keeps s₃ s₄) E' s₃) ∧
    (∀ D h' tk ys n, s₁.heap.get? D = none → h'.get? D = some (W.listOf (List.toArray ys) n) → Paired F (vs.filter p) ys → (∀ b o, s₁.heap.get? b = some o → h'.get? b = some o) → Q (.ref D) { s₁ with heap := h', toks := tk })

theorem LC {elt iter : Expr} {x : Str} {px : Pos} {ifs : List Expr} {scope : Scope} {cl : List (Str × Addr)} {pos : Pos} {Q : Value → Shared → Prop}
    (hh : A.handled = none) (hclos : closureFor scope env = pure cl) (hcell : ∀ y ∈ scope.names, y.2 ≠ .cell) (hkind : scope.kind = .function)
    (hnames : ∀ y ∈ scope.names, y.2 = .local → scope.names.lookup y.1 = some .local) (hx : scope.names.lookup x = some .local)
    (hs : ∀ x, foldedSetIterable iter env x = pure x)
    (h : wpAny (model prog w) A (eval iter env) (LcEnd prog w A env scope cl x ifs elt Q) E s) :
    wpAny (model prog w) A (eval (.ListComp elt [⟨.Name x px, iter, ifs, 0⟩] scope pos) env) Q E s := by
  rw [eval_ListComp]
  refine wpAny_comprehension_free (use := none) rfl hs hclos hkind hnames (wpAny_mono h (fun xv s₁ h₁ => ?_) fun _ _ e => e)
  obtain ⟨p, F, l, vs, rfl, hl, hsz, htests, helt, hQ⟩ := h₁
  have hlt : l < s₁.heap.objs.size := by obtain ⟨_, e, _⟩ := hl; exact Heap.lt_size e
  have up : ∀ (s₃ : Shared), (∀ b o, b ∉ [s₁.heap.objs.size] → (s₁.heap.push { cls := .type "list_iterator", data := .fields #[.ref l, .int 0 0] }).get? b = some o → s₃.heap.get? b = some o) → ∀ b o, s₁.heap.get? b = some o → s₃.heap.get? b = some o :=
    fun s₃ hk b o e => hk b o (fun hm => by rcases List.mem_cons.mp hm with rfl | hm; exact Nat.lt_irrefl _ (Heap.lt_size e); cases hm) (Heap.get?_push_of_some _ e)
  have hz : vs.toArray.size ≤ sizeLine := by rw [sizeLine_eq]; simp; omega
  refine wpAny_pyIter_list hl ?_
  refine comp_block_walkC (RR := fun acc C => compPost (model prog w) A E none Q acc C) (Walks.list hh s₁.heap.objs.size l (Nat.ne_of_lt hlt) vs.toArray) hz p F hcell hkind hx ⟨⟨_, Heap.get?_push_size _ rfl, rfl, rfl⟩, hl.push _⟩ ?_ ⟨?_, ?_⟩ ?_
  · intro b hb
    show b < (s₁.heap.push _).objs.size
    rw [Heap.size_push]
    rcases List.mem_cons.mp hb with rfl | hb
    · exact Nat.lt_succ_self _
    · rcases List.mem_cons.mp hb with rfl | hb
      · exact Nat.lt_succ_of_lt hlt
      · cases hb
  · intro C i v s₃ m₃ E' hC hP hn hm hk _
    exact htests C v s₃ m₃ E' (List.mem_of_getElem? (i := i) (by simpa using hP)) hn hm (up s₃ hk)
  · intro C i v s₃ m₃ E' hC hP hp hn hm hk _
    exact helt C v s₃ m₃ E' (List.mem_of_getElem? (i := i) (by simpa using hP)) hp hn hm (up s₃ hk)
  · intro D C h' tk m' ys us hD hC hDC hn hlD hpl hlen hP hF hk
    have hus : us = vs := by simpa using list_of_places hlen hP
    subst hus
    have keep : ∀ b o, s₁.heap.get? b = some o → h'.get? b = some o := up { s₁ with heap := h' } hk
    refine ⟨m', hn, fun h'' hs'' => ?_⟩
    obtain ⟨n, hDn⟩ := hpl
    refine hQ D h'' tk ys.toList n ?_ (hs''.extBut _ _ hDC (by simpa using hDn)) hF fun b o e => hs''.extBut b o (by rintro rfl; rw [Heap.get?_push_of_some _ e] at hC; cases hC) (keep b o e)
    cases q : s₁.heap.get? D with
    | none => rfl
    | some o => rw [Heap.get?_push_of_some _ q] at hD; cases hD

theorem tests0 {ce : Env} {Q : Bool → Shared → Prop} (h : Q true s) :
    wpAny (model prog w) A (forIn ([] : List Expr) true fun c r => if r = true then do let ok ← isTrue c ce (eval c ce); pure (ForInStep.yield ok) else pure (ForInStep.yield r)) Q E s := by
  exact wpAny_pure h
theorem tests1 {ce : Env} {c : Expr} {Q : Bool → Shared → Prop} (h : wpAny (model prog w) A (isTrue c ce (eval c ce)) Q E s) :
    wpAny (model prog w) A (forIn [c] true fun c r => if r = true then do let ok ← isTrue c ce (eval c ce); pure (ForInStep.yield ok) else pure (ForInStep.yield r)) Q E s := by
  rw [List.forIn_cons]
  simp only [if_true]
  refine wpAny_bind (wpAny_bind (wpAny_mono h (fun ok s₁ h₁ => wpAny_pure ?_) fun _ _ e => e))
  exact wpAny_pure h₁
end
theorem news_more {g h h' : Heap} {L D : Addr} {o : Obj} {m : Str → Option Value} {news : List (Addr × Obj)} (N : News g L h news) (hk : ∀ b o, h.get? b = some o → h'.get? b = some o) (hD : h'.get? D = some o) (hn : h.get? D = none) (F : Fr g L h m) : News g L h' ((D, o) :: news) := fun q hq => by
  rcases List.mem_cons.mp hq with rfl | hq
  · refine ⟨hD, fun e => ?_, ?_⟩
    · obtain ⟨oL, es, ep, hL, _⟩ := F.ns
      have e' : D = L := e
      rw [e', hL] at hn; cases hn
    · show g.get? D = none
      cases z : g.get? D with
      | none => rfl
      | some o => rw [F.keep _ _ z] at hn; cases hn
  · exact ⟨hk _ _ (N q hq).1, (N q hq).2⟩
theorem paired_bytes {b : Bts} {F : UInt8 → Value → Prop} {p : Value → Bool} {us ys : List Value} (hlen : us.length = b.size) (hP : ∀ (j : Nat) v, us[j]? = some v → ∃ (c : UInt8) (u : Tok), b[j]? = some c ∧ v = Value.int (c.toNat : Int) u)
    (hp : ∀ v, p v = true) (hF : Paired (fun (v y : Value) => ∀ (c : UInt8) (u : Tok), v = Value.int (c.toNat : Int) u → F c y) (us.filter p) ys) : Paired F b.toList ys := by
  rw [List.filter_eq_self.mpr fun v _ => hp v] at hF
  obtain ⟨l⟩ := b
  simp only [List.size_toArray] at hlen
  simp only [List.getElem?_toArray] at hP
  show Paired F l ys
  clear hp
  induction l generalizing us ys with
  | nil =>
    cases us with
    | nil => cases hF; exact .nil
    | cons _ _ => simp at hlen
  | cons c l ih =>
    cases us with
    | nil => simp at hlen
    | cons v us =>
      cases hF with
      | cons h t =>
        obtain ⟨c', u, hc, rfl⟩ := hP 0 v rfl
        simp at hc
        subst hc
        exact .cons (h _ _ rfl) (ih t (by simpa using hlen) fun j v hv => by
          have := hP (j + 1) v (by simpa using hv)
          simpa using this)
section
variable {prog : Program} {w : World} {A : Around} {E : Value → Shared → Prop} {s : Shared} {env : Env}

/-- what a list comprehension over octets asks, once they are there -/
noncomputable def LcEndB (prog : Program) (w : World) (A : Around) (env : Env) (scope : Scope) (cl : List (Str × Addr)) (x : Str) (elt : Expr) (Q : Value → Shared → Prop) (xv : Value) (s₁ : Shared) : Prop :=
  ∃ (F : UInt8 → Value → Prop) (b : Bts) (t : Tok), xv = .bytes b t ∧ b.size ≤ 1000 ∧
    (∀ C c u s₃ m₃ E', s₃.heap.Ns (compEnvC scope cl C env).locals m₃ → m₃ x = some (.int (c.toNat : Int) u) → (∀ b o, s₁.heap.get? b = some o → s₃.heap.get? b = some o) →
      wpAny (model prog w) A (eval elt (compEnvC scope cl C env)) (fun y s₄ => F c y ∧ Keeps s₃ s₄) E' s₃) ∧
    (∀ D h' tk ys n, s₁.heap.get? D = none → h'.get? D = some (W.listOf (List.toArray ys) n) → Paired F b.toList ys → (∀ b o, s₁.heap.get? b = some o → h'.get? b = some o) → Q (.ref D) { s₁ with heap := h', toks := tk })

theorem u8_inj {c d : UInt8} (e : (c.toNat : Int) = (d.toNat : Int)) : c = d := UInt8.toNat_inj.mp (Int.ofNat.inj e)

theorem LCB {elt iter : Expr} {x : Str} {px : Pos} {scope : Scope} {cl : List (Str × Addr)} {pos : Pos} {Q : Value → Shared → Prop}
    (hh : A.handled = none) (hclos : closureFor scope env = pure cl) (hcell : ∀ y ∈ scope.names, y.2 ≠ .cell) (hkind : scope.kind = .function)
    (hnames : ∀ y ∈ scope.names, y.2 = .local → scope.names.lookup y.1 = some .local) (hx : scope.names.lookup x = some .local)
    (hs : ∀ x, foldedSetIterable iter env x = pure x)
    (h : wpAny (model prog w) A (eval iter env) (LcEndB prog w A env scope cl x elt Q) E s) :
    wpAny (model prog w) A (eval (.ListComp elt [⟨.Name x px, iter, [], 0⟩] scope pos) env) Q E s := by
  rw [eval_ListComp]
  refine wpAny_comprehension_free (use := none) rfl hs hclos hkind hnames (wpAny_mono h (fun xv s₁ h₁ => ?_) fun _ _ e => e)
  obtain ⟨F, b, t, rfl, hsz, helt, hQ⟩ := h₁
  have up : ∀ (s₃ : Shared), (∀ a o, a ∉ [s₁.heap.objs.size] → (s₁.heap.push { cls := .type "bytes_iterator", data := .fields #[.bytes b t, .int 0 0] }).get? a = some o → s₃.heap.get? a = some o) → ∀ b o, s₁.heap.get? b = some o → s₃.heap.get? b = some o :=
    fun s₃ hk b o e => hk b o (fun hm => by rcases List.mem_cons.mp hm with rfl | hm; exact Nat.lt_irrefl _ (Heap.lt_size e); cases hm) (Heap.get?_push_of_some _ e)
  have hz : b.size ≤ sizeLine := by rw [sizeLine_eq]; omega
  refine KBw.pyIter_bytes ?_
  refine comp_block_walkC (RR := fun acc C => compPost (model prog w) A E none Q acc C) (KBw.walks hh s₁.heap.objs.size b t) hz (fun _ => true) (fun (v y : Value) => ∀ (c : UInt8) (u : Tok), v = Value.int (c.toNat : Int) u → F c y) hcell hkind hx ⟨_, Heap.get?_push_size _ rfl, rfl, rfl⟩ ?_ ⟨?_, ?_⟩ ?_
  · intro a ha
    show a < (s₁.heap.push _).objs.size
    rw [Heap.size_push]
    rcases List.mem_cons.mp ha with rfl | ha
    · exact Nat.lt_succ_self _
    · cases ha
  · intro C i v s₃ m₃ E' hC hP hn hm hk _
    exact tests0 ⟨rfl, _, _, rfl, fun _ _ e => e⟩
  · rintro C i v s₃ m₃ E' hC ⟨c, u, hc, rfl⟩ hp hn hm hk _
    refine wpAny_mono (helt C c u s₃ m₃ E' hn hm (up s₃ hk)) (fun y s₄ h₄ => ⟨fun c' u' e => ?_, h₄.2⟩) fun _ _ e => e
    injection e with e
    rw [← u8_inj e]; exact h₄.1
  · intro D C h' tk m' ys us hD hC hDC hn hlD hpl hlen hP hF hk
    have keep : ∀ b o, s₁.heap.get? b = some o → h'.get? b = some o := up { s₁ with heap := h' } hk
    refine ⟨m', hn, fun h'' hs'' => ?_⟩
    obtain ⟨n, hDn⟩ := hpl
    refine hQ D h'' tk ys.toList n ?_ (hs''.extBut _ _ hDC (by simpa using hDn)) (paired_bytes hlen hP (fun _ => rfl) hF) fun b o e => hs''.extBut b o (by rintro rfl; rw [Heap.get?_push_of_some _ e] at hC; cases hC) (keep b o e)
    cases q : s₁.heap.get? D with
    | none => rfl
    | some o => rw [Heap.get?_push_of_some _ q] at hD; cases hD
end
section
variable {prog : Program} {w : World} {A : Around} {E : Value → Shared → Prop} {s : Shared}
theorem lk_bytes_bytes : typeLookup (.type "bytes") "__bytes__" = pure (some (.builtin "bytes.__bytes__")) := by rw [typeLookup_type, builtinLookup_eq_fast]; kernel_rfl
theorem bb_new {b : Bts} {t : Tok} {Q : Value → Shared → Prop} (h : Q (.bytes b t) s) : codeAny (model prog w) A (.call (.builtin "bytes.__new__") ⟨[.type "bytes", .bytes b t], []⟩) (wants Q E) s := by
  refine codeAny_of_tree ?_
  show wpAny _ A.in1 (do checkBuiltinCall "bytes.__new__" ⟨[.type "bytes", .bytes b t], []⟩; again (.builtin "bytes.__new__" ⟨[.type "bytes", .bytes b t], []⟩)) _ _ s
  refine wpAny_bind (wpAny_of_eq (F.bm_newCall _) (wpAny_pure ⟨plainId_quiet F.bm_plain _, codeAny_builtin F.bm_entry ?_⟩))
  rw [Around.under_plainId F.bm_plain _]
  have hT : s.TypeIs (.bytes b t) "bytes" := typeIs_bytes s b t
  unfold Builtin.«bytes.__new__»
  refine wpAny_bind (wpAny_of_eq (a := true) rfl ?_)
  refine bm_if_false rfl ?_
  refine wpAny_bind (wpAny_of_eq F.bm_sub ?_)
  refine bm_if_false rfl ?_
  refine wpAny_bind (wpAny_of_eq (F.bm_bind _) ?_)
  refine wpAny_bind (wpAny_of_eq (a := ()) rfl ?_)
  refine wpAny_bind (wpAny_of_eq (a := ()) rfl ?_)
  refine bm_if_false rfl ?_
  refine wpAny_bind (wpAny_specialOf hT lk_bytes_bytes ?_)
  refine wpAny_bind (wpAny_rule ?_)
  refine wpAny_bind (wpAny_of_eq (a := .type "bytes") rfl ?_)
  refine bm_if_true rfl ?_
  exact wpAny_pure h
theorem call_bytes_bytes {b : Bts} {t : Tok} {Q : Value → Shared → Prop} (h : Q (.bytes b t) s) : wpAny (model prog w) A (call (.type "bytes") [.bytes b t]) Q E s := by
  refine callType_codes (Q₁ := fun obj s₁ => s₁.TypeIs obj "bytes" ∧ Q obj s₁) F.bm_called (F.bm_typeCall _) F.entry_object_init (bb_new ⟨typeIs_bytes _ _ _, h⟩) fun obj s₁ h₁ => ?_
  exact ⟨h₁.1, F.args_object_init_2 obj _, object_init_meets F.bm_called.init.lookup F.bm_called.made (by decide) prog w A.in1 _ s₁ ⟨h₁.1, rfl, h₁.2⟩⟩
end
theorem sub_none_bytes : isSubtype (.type "NoneType") (.type "bytes") = pure false := by rw [isSubtype_type]; kernel_rfl
theorem gives_bytes_eq_none (b : Bts) (t : Tok) : Gives (Builtin.«bytes.__eq__» ⟨[.bytes b t, .none], []⟩) (.val Value.notImplemented) :=
  .of_wp fun M A E s Q h => by
    obtain ⟨hp, g, d, tk, os⟩ := s
    have f := sub_none_bytes
    wp_walk
    exact ⟨_, rfl, h⟩
theorem gives_none_eq_bytes (b : Bts) (t : Tok) : Gives (Builtin.«NoneType.__eq__» ⟨[.none, .bytes b t], []⟩) (.val Value.notImplemented) :=
  .of_wp fun M A E s Q h => by obtain ⟨hp, g, d, tk, os⟩ := s; wp_walk; exact ⟨_, rfl, h⟩
section
variable {prog : Program} {w : World} {A : Around} {E : Value → Shared → Prop} {s : Shared}
theorem eq_bytes_none {b : Bts} {t : Tok} {Q : Value → Shared → Prop} (h : Q (.bool false) s) : wpAny (model prog w) A (compareOp .Eq (.bytes b t) .none) Q E s := by
  show wpAny _ A (richCompare .Eq _ _) Q E s
  exact PySem.EqNone.wpAny_richCompare_eq_decline (k := false) (fun s' => typeIs_bytes s' b t) (fun _ => rfl) (by decide) sub_none_bytes FB.slot_bytes_eq PySem.F.slot_NoneType_eq_refl rfl
    (call_gives FB.slot_bytes_eq (typeIs_bytes s b t) FB.entry_bytes_eq (FB.args_bytes_eq_2 _ _) (gives_bytes_eq_none b t)
      ⟨rfl, call_gives PySem.F.slot_NoneType_eq_refl rfl PySem.F.entry_NoneType_eq (PySem.F.args_NoneType_eq_2 _ _) (gives_none_eq_bytes b t) ⟨rfl, h⟩⟩)
end
section
/-- a row as the law keeps it: a list of three -/
noncomputable def LRow (h : Heap) (v : Value) (r : Row) : Prop := ∃ a t1 t2 n, v = .ref a ∧ h.get? a = some (W.listOf #[.bytes r.1 t1, .bytes r.2.1 t2, .bool (!r.2.2)] n)
theorem LRow.keep {h h' : Heap} {v : Value} {r : Row} (x : LRow h v r) (k : ∀ b o, h.get? b = some o → h'.get? b = some o) : LRow h' v r :=
  by obtain ⟨a, t1, t2, n, e, ha⟩ := x; exact ⟨a, t1, t2, n, e, k _ _ ha⟩
structure VAt (prog : Program) (w : World) (h : Heap) (d l : Addr) (vs : List Value) (rows : List Row) (most next : Int) : Prop where
  dict : ∃ od tm tn, h.get? d = some od ∧ od.IsDictOf (strKind prog w) [(Str.ofString "rows", .ref l), (Str.ofString "most", .int most tm), (Str.ofString "next", .int next tn)]
  list : ∃ n, h.get? l = some (W.listOf vs.toArray n)
  rep : Paired (LRow h) vs rows
  nsys : (d == sysModules) = false
  small : rows.length ≤ 1000

theorem row_ne_list {h : Heap} {a l : Addr} {vs : List Value} {rows : List Row} {x y z : Value} {n n' : Nat} (ha : h.get? a = some (W.listOf #[x, y, z] n)) (hx : ∀ b, x ≠ .ref b) (hl : h.get? l = some (W.listOf vs.toArray n')) (P : Paired (LRow h) vs rows) : @Ne Nat a l := by
  intro e
  have e' : a = l := e
  subst e'
  rw [ha] at hl
  have h1 : (#[x, y, z] : Array Value) = vs.toArray := by
    injection hl with hl
    injection hl with _ _ h3 _
    injection h3
  have h2 : vs = [x, y, z] := by simpa using (congrArg Array.toList h1).symm
  subst h2
  cases P with
  | cons q _ =>
    obtain ⟨b, _, _, _, e, _⟩ := q
    exact hx b e
theorem lrows_g {prog : Program} {w : World} {g h : Heap} {d l : Addr} {od : Obj} {kvs : List (Str × Value)} {vs : List Value} {rows : List Row} {n : Nat} (hg : ∀ a o, h.get? a = some o → a ∉ [d, l] → g.get? a = some o)
    (hd : h.get? d = some od) (D : od.IsDictOf (strKind prog w) kvs) (hl : h.get? l = some (W.listOf vs.toArray n)) (P : Paired (LRow h) vs rows) : Paired (LRow g) vs rows :=
  P.mono fun _ _ ⟨a, t1, t2, m, e, ha⟩ => ⟨a, t1, t2, m, e, hg _ _ ha fun hm => by
    rcases List.mem_cons.mp hm with q | hm
    · exact dict_ne_list hd D ha q.symm
    · exact row_ne_list ha (fun _ => nofun) hl P (List.mem_singleton.mp hm)⟩
theorem LRow.isList {h : Heap} {a : Addr} {x y z : Value} {n : Nat} (e : h.get? a = some (W.listOf #[x, y, z] n)) : h.IsList a [x, y, z].toArray := ⟨_, e, rfl, n, rfl⟩
section
variable {p : Program} {loose : List Str} {mean : ExcName → Option Value} {mg mb : Str → Option Value} {prog : Program} {w : World} {dp un : Nat} {gs : Option (List Code)} {R : Result → Shared → Prop} {s : Shared} {base : Heap} {fs : List Env} {k : Nat}

noncomputable def atOf (rows : List Row) : Option Bts → Option Nat
  | some nm => rows.findIdx? (fun r => r.1 == nm)
  | none => rows.findIdx? (·.2.2)
noncomputable def optN (o : Option Nat) (v : Value) : Prop := match o with | none => v = .none | some i => ∃ t, v = .int i t

theorem findIdx_at {α : Type} {q : α → Bool} {l : List α} {j : Nat} {r : α} (hpre : ∀ j', j' < j → ∀ r, l[j']? = some r → q r = false) (hr : l[j]? = some r) (h : q r = true) : l.findIdx? q = some j := by
  obtain ⟨h1, h2⟩ := List.getElem?_eq_some_iff.mp hr
  refine List.findIdx?_eq_some_iff_getElem.mpr ⟨h1, by rw [h2]; exact h, fun j' hj' => ?_⟩
  rw [hpre j' hj' _ (List.getElem?_eq_getElem (Nat.lt_trans hj' h1))]
  nofun
theorem findIdx_no {α : Type} {q : α → Bool} {l : List α} {j : Nat} (hpre : ∀ j', j' < j → ∀ r, l[j']? = some r → q r = false) (hj : l.length ≤ j) : l.findIdx? q = none := by
  rw [List.findIdx?_eq_none_iff]
  intro r hr
  obtain ⟨i, hi, e⟩ := List.mem_iff_getElem.mp hr
  exact hpre i (Nat.lt_of_lt_of_le hi hj) r (by rw [List.getElem?_eq_getElem hi, e])
theorem pre_step {α : Type} {q : α → Bool} {l : List α} {j : Nat} {r : α} (hpre : ∀ j', j' < j → ∀ r, l[j']? = some r → q r = false) (hr : l[j]? = some r) (h : q r = false) : ∀ j', j' < j + 1 → ∀ r, l[j']? = some r → q r = false := fun j' hj' r' hr' => by
  rcases Nat.lt_or_ge j' j with h' | h'
  · exact hpre j' h' r' hr'
  · have : j' = j := by omega
    subst this
    rw [hr] at hr'
    cases hr'
    exact h

theorem at_some {d l : Addr} {vs : List Value} {rows : List Row} {most next : Int} {nm : Bts} {tk₀ : Tok} (M : Amb p loose mean mg mb w dp gs un base fs s.heap 5) (V : VAt prog w s.heap d l vs rows most next) (O : Off base fs [d, l])
    (post : ∀ v h' tk, optN (atOf rows (some nm)) v → Chg [] s.heap h' → R (.ok (.ret v)) { s with heap := h', toks := tk }) :
    codeAny (model prog w) (AA dp fs gs un) (.call (.ref 189) ⟨[.ref d, .bytes nm tk₀], []⟩) R s := by
  obtain ⟨⟨od, tm, tn, hd1, hd2⟩, ⟨n, hl1⟩, hrows, lo, hsm⟩ := V
  have hne := dict_ne_list hd1 hd2 hl1
  w_on
  refine enterH M [(d, od), (l, W.listOf vs.toArray n)] (by first | kopn_word | simp [hd1, hl1]) O ?_
  intro g L' h₁ F N B X T hg hg' hL'
  dsimp only
  k_fold
  have hrg := lrows_g hg hd1 hd2 hl1 hrows
  w_strict k_steps
  try dsimp only
  rename Fr _ _ _ _ => F
  rename News _ _ _ _ => N
  refine enum_loop (fun j => ∀ j', j' < j → ∀ r, rows[j']? = some r → (fun r => r.1 == nm) r = false) rfl (isl N (by k_mem)) F N (N (l, _) (by k_mem)).2.1 (fun _ h => absurd h (Nat.not_lt_zero _)) ?_ ?_
  · intro j v t h tk own hv hpre F N
    obtain ⟨r, hr, a, x1, x2, n1, rfl, ha⟩ := pr_get (pr_flip hrg) j v hv
    have hT := LRow.isList (F.keep _ _ ha)
    simp only [List.cons_append, List.nil_append] at N
    w_strict k_steps
    · rename (_ == _) = true => heq
      show R _ _
      refine post _ _ _ ?_ (chg_sub hg (by first | kopn_word | simp [hd1, hl1]) F N (by first | kopn_word | simp))
      show optN (rows.findIdx? (fun r => r.1 == nm)) _
      rw [findIdx_at hpre hr (by rw [beq_toList] at heq; exact heq)]
      exact ⟨_, rfl⟩
    · rename (_ == _) = false => heq
      refine ⟨_, _, _, rfl, F, N, fun y hy => ?_, pre_step hpre hr (by rw [beq_toList] at heq; exact heq)⟩
      rw [if_neg hy.2, if_neg hy.1]
  · intro h tk m₁ hpre hm F N
    w_strict k_steps
    show R _ _
    refine post _ _ _ ?_ (chg_sub hg (by first | kopn_word | simp [hd1, hl1]) F N (by first | kopn_word | simp))
    show optN (rows.findIdx? (fun r => r.1 == nm)) _
    rw [findIdx_no hpre (by have := hrows.length; omega)]
    rfl

local macro_rules | `(tactic| walk_at "compareOp Eq bytes none") => `(tactic| refine eq_bytes_none ?_)
theorem at_none {d l : Addr} {vs : List Value} {rows : List Row} {most next : Int} (M : Amb p loose mean mg mb w dp gs un base fs s.heap 5) (V : VAt prog w s.heap d l vs rows most next) (O : Off base fs [d, l])
    (post : ∀ v h' tk, optN (atOf rows none) v → Chg [] s.heap h' → R (.ok (.ret v)) { s with heap := h', toks := tk }) :
    codeAny (model prog w) (AA dp fs gs un) (.call (.ref 189) ⟨[.ref d, .none], []⟩) R s := by
  obtain ⟨⟨od, tm, tn, hd1, hd2⟩, ⟨n, hl1⟩, hrows, lo, hsm⟩ := V
  have hne := dict_ne_list hd1 hd2 hl1
  w_on
  refine enterH M [(d, od), (l, W.listOf vs.toArray n)] (by first | kopn_word | simp [hd1, hl1]) O ?_
  intro g L' h₁ F N B X T hg hg' hL'
  dsimp only
  k_fold
  have hrg := lrows_g hg hd1 hd2 hl1 hrows
  w_strict k_steps
  try dsimp only
  rename Fr _ _ _ _ => F
  rename News _ _ _ _ => N
  refine enum_loop (fun j => ∀ j', j' < j → ∀ r, rows[j']? = some r → (fun r => r.2.2) r = false) rfl (isl N (by k_mem)) F N (N (l, _) (by k_mem)).2.1 (fun _ h => absurd h (Nat.not_lt_zero _)) ?_ ?_
  · intro j v t h tk own hv hpre F N
    obtain ⟨r, hr, a, x1, x2, n1, rfl, ha⟩ := pr_get (pr_flip hrg) j v hv
    have hT := LRow.isList (F.keep _ _ ha)
    simp only [List.cons_append, List.nil_append] at N
    w_strict k_steps
    · rename_i heq
      show R _ _
      refine post _ _ _ ?_ (chg_sub hg (by first | kopn_word | simp [hd1, hl1]) F N (by first | kopn_word | simp))
      show optN (rows.findIdx? (fun r => r.2.2)) _
      rw [findIdx_at hpre hr (by simpa using heq)]
      exact ⟨_, rfl⟩
    · rename_i heq
      refine ⟨_, _, _, rfl, F, N, fun y hy => ?_, pre_step hpre hr (by simpa using heq)⟩
      rw [if_neg hy.2, if_neg hy.1]
  · intro h tk m₁ hpre hm F N
    w_strict k_steps
    show R _ _
    refine post _ _ _ ?_ (chg_sub hg (by first | kopn_word | simp [hd1, hl1]) F N (by first | kopn_word | simp))
    show optN (rows.findIdx? (fun r => r.2.2)) _
    rw [findIdx_no hpre (by have := hrows.length; omega)]
    rfl

theorem at_any {d l : Addr} {vs : List Value} {rows : List Row} {most next : Int} {nm : Option Bts} {nv : Value} (M : Amb p loose mean mg mb w dp gs un base fs s.heap 5) (V : VAt prog w s.heap d l vs rows most next) (O : Off base fs [d, l]) (hnv : optV nm nv)
    (post : ∀ v h' tk, optN (atOf rows nm) v → Chg [] s.heap h' → R (.ok (.ret v)) { s with heap := h', toks := tk }) :
    codeAny (model prog w) (AA dp fs gs un) (.call (.ref 189) ⟨[.ref d, nv], []⟩) R s := by
  cases nm with
  | none =>
    obtain rfl : nv = .none := hnv
    exact at_none M V O post
  | some nm =>
    obtain ⟨t, rfl⟩ : ∃ t, nv = .bytes nm t := hnv
    exact at_some M V O post
end
end
section
variable {p : Program} {loose : List Str} {mean : ExcName → Option Value} {mg mb : Str → Option Value} {prog : Program} {w : World} {dp un : Nat} {gs : Option (List Code)} {R : Result → Shared → Prop} {s : Shared} {base : Heap} {fs : List Env} {k : Nat}


theorem dec_spec {i : Int} {tk₀ : Tok} (M : Amb p loose mean mg mb w dp gs un base fs s.heap 5) (h0 : 0 ≤ i) (h9 : i < 10)
    (post : ∀ t h' tk, Chg [] s.heap h' → R (.ok (.ret (.bytes #[(48 + i).toNat.toUInt8] t))) { s with heap := h', toks := tk }) :
    codeAny (model prog w) (AA dp fs gs un) (.call (.ref 61) ⟨[.int i tk₀], []⟩) R s := by
  w_on
  refine enterH M [] (by first | kopn_word | simp) off_nil ?_
  intro g L' h₁ F N B X T hg hg' hL'
  dsimp only
  k_fold
  have hd0 : i.fdiv 10 = 0 := by rw [Int.fdiv_eq_ediv_of_nonneg _ (by decide)]; omega
  have hm0 : i.fmod 10 = i := by rw [Int.fmod_eq_emod_of_nonneg _ (by decide)]; omega
  w_strict k_steps
  refine WhlIf.no (by rw [hd0]; rfl) ?_
  w_strict k_steps
  show R _ _
  dsimp only
  rw [hm0]
  exact post _ _ _ (chg_sub hg (by first | kopn_word | simp) (by assumption) (by assumption) (by first | kopn_word | simp))

theorem clamp_spec {ta tb tc : Tok} (M : Amb p loose mean mg mb w dp gs un base fs s.heap 5)
    (post : ∀ t h' tk, Chg [] s.heap h' → R (.ok (.ret (.int 3 t))) { s with heap := h', toks := tk }) :
    codeAny (model prog w) (AA dp fs gs un) (.call (.ref 54) ⟨[.int 3 ta, .int 0 tb, .int 1000 tc], []⟩) R s := by
  w_on
  refine enterH M [] (by first | kopn_word | simp) off_nil ?_
  intro g L' h₁ F N B X T hg hg' hL'
  dsimp only
  k_fold
  w_strict k_steps
  show R _ _
  exact post _ _ _ (chg_sub hg (by first | kopn_word | simp) (by assumption) (by assumption) (by first | kopn_word | simp))

end
section
variable {p : Program} {loose : List Str} {mean : ExcName → Option Value} {mg mb : Str → Option Value} {prog : Program} {w : World} {dp un : Nat} {gs : Option (List Code)} {R : Result → Shared → Prop} {s : Shared} {base : Heap} {fs : List Env} {k : Nat}


noncomputable def bufName (i : Int) : Bts := #[98, 117, 102, 102, 101, 114, (48 + i).toNat.toUInt8]

theorem fresh_spec {b dx rl : Addr} {vs : List Value} {rows : List Row} {most next : Int} {j : Nat} (M : Amb p loose mean mg mb w dp gs un base fs s.heap 10) (Bu : BufAt w s.heap b dx rl vs rows most next) (O : Off base fs [b, dx, rl])
    (hin : ∀ i, i < j → has rows (bufName (next + i)) = true) (hout : has rows (bufName (next + j)) = false) (h0 : 0 ≤ next) (h9 : next + j ≤ 9)
    (post : ∀ t h' tk, BufAt w h' b dx rl vs rows most (next + j + 1) → Chg [dx] s.heap h' → R (.ok (.ret (.bytes (bufName (next + j)) t))) { s with heap := h', toks := tk }) :
    codeAny (model prog w) (AA dp fs gs un) (.call (.ref 95) ⟨[.ref b], []⟩) R s := by
  obtain ⟨hb, x5, ⟨nr, hrl⟩, hrows, hsm⟩ := Bu
  refine exE5 x5 fun t1 t2 t3 tm tn hdx => ?_
  clear x5
  have q1 := ne_get hdx hb nofun
  have q2 := ne_get hdx hrl (by first | kopn_word | simp)
  have q3 := ne_get hrl hb nofun
  w_on
  refine enterH M [(b, instObj 154 dx), (dx, dictOf (bufEs w t1 t2 t3 (.int most tm) (.ref rl) (.int next tn)) 3), (rl, W.listOf vs.toArray nr)] (by first | kopn_word | simp [hb, hdx, hrl]) O ?_
  intro g L' h₁ F N B X T hg hg' hL'
  dsimp only
  k_fold
  have hrg := rows_g hg (by first | kopn_word | simp [hb, hdx, hrl]) (by first | kopn_word | simp) hrows
  have fin : ∀ (h' : Heap) m' news, Fr g L' h' m' → News g L' h' news → (b, instObj 154 dx) ∈ news → (rl, W.listOf vs.toArray nr) ∈ news → Chg [dx] s.heap h' := fun h' m' news F N q1 q2 => chg_sub hg (by first | kopn_word | simp [hb, hdx, hrl]) F N (by first | kopn_word | simp [q1, q2])
  clear hdx hg hg' hL'
  refine wpAny_execs_cons ?_
  refine whl_start 0 ?_
  generalize s.toks + _ = tk
  obtain ⟨u, FF⟩ : ∃ u : Str → Option Value, Fr g L' h₁ fun y => if y = Str.ofString "name" then u y else [(Str.ofString "self", Value.ref b)].lookup y := ⟨fun y => [(Str.ofString "self", Value.ref b)].lookup y, by simp only [ite_self]; exact F⟩
  clear F
  have F := FF
  clear FF
  induction j using Nat.strongRecOn generalizing next h₁ tk u tn with
  | ind j ih =>
    refine whl_turn (k := 0) (by passes_own) ?_
    generalize hP : WhlPost prog w _ ek _ _ _ _ _ 0 = P
    w_strict k_steps
    refine wpAny_call (dec_spec ((M.deeper B F rfl rfl).less (by decide)) h0 (by omega) fun t h₂ tk₂ C₂ => ?_)
    have F₂ := fr_chg0 F C₂
    have N₂ := news_chg0 N C₂
    clear F N
    dsimp only
    w_strict k_steps
    dsimp only [List.nil_append, List.append_nil]
    rename Fr _ _ _ _ => F
    rename News _ _ _ _ => N
    refine wpAny_call (names_spec ((M.deeper B F rfl rfl).less (by decide)) (buf_news F N (.head _) (.tail _ (.head _)) (.tail _ (.tail _ (.head _))) hrg hsm) (.cons (off1 B N rfl (.head _)) (.cons (off1 B N rfl (.tail _ (.head _))) (.cons (off1 B N rfl (.tail _ (.tail _ (.head _)))) off_nil))) fun D us nD h₃ tk₃ hD hDn P C₃ => ?_)
    have F₃ := fr_chg0 F C₃
    have N₃ := news_chg0 N C₃
    dsimp only
    refine notIn_names P (isl_at hDn) ?_
    clear F N
    w_strict k_steps
    · rename has _ _ = true => hno
      subst hP
      have hj : 0 < j := by
        rcases Nat.eq_zero_or_pos j with e | e
        · subst e
          rw [show next + ((0 : Nat) : Int) = next by simp] at hout
          exact absurd (hno.symm.trans hout) nofun
        · exact e
      show WhlRest _ _ _ _ _ _ _ _ _ 0 _
      refine ih (j - 1) (by omega) (next := next + 1) (fun i hi => ?_) ?_ (by omega) (by omega) (fun t h' tk B C => ?_) _ _ N₃ _ _ (fr_over F₃)
      · have := hin (i + 1) (by omega)
        rw [show next + 1 + (i : Int) = next + ((i + 1 : Nat) : Int) by push_cast; omega]
        exact this
      · rw [show next + 1 + ((j - 1 : Nat) : Int) = next + (j : Int) by omega]
        exact hout
      · rw [show next + 1 + ((j - 1 : Nat) : Int) = next + (j : Int) by omega] at B ⊢
        exact post t h' tk B C
    · rename has _ _ = false => hno
      subst hP
      have hj : j = 0 := by
        rcases Nat.eq_zero_or_pos j with e | e
        · exact e
        · have := hin 0 e
          rw [show next + ((0 : Nat) : Int) = next by simp] at this
          exact absurd (this.symm.trans hno) nofun
      subst hj
      show R _ _
      rw [show next + ((0 : Nat) : Int) = next by simp] at post
      exact post _ _ _ (buf_news F₃ N₃ (.head _) (.tail _ (.head _)) (.tail _ (.tail _ (.head _))) hrg hsm) (fin _ _ _ F₃ N₃ (.head _) (.tail _ (.tail _ (.head _))))
end
local macro_rules | `(tactic| k_all) => `(tactic| assumption)
section
variable {p : Program} {loose : List Str} {mean : ExcName → Option Value} {mg mb : Str → Option Value} {prog : Program} {w : World} {dp un : Nat} {gs : Option (List Code)} {R : Result → Shared → Prop} {s : Shared} {base : Heap} {fs : List Env} {k : Nat}


noncomputable def trimOf (most : Int) : Int → List Row → List Row
  | _, [] => []
  | c, r :: rs => if !r.2.2 || decide (c + (if r.2.2 then 1 else 0) ≤ most) then r :: trimOf most (c + if r.2.2 then 1 else 0) rs else trimOf most (c + if r.2.2 then 1 else 0) rs

theorem drop_at {α : Type} {l : List α} {i : Nat} {r : α} (h : l[i]? = some r) : l.drop i = r :: l.drop (i + 1) := by
  obtain ⟨h1, h2⟩ := List.getElem?_eq_some_iff.mp h
  rw [List.drop_eq_getElem_cons h1, h2]
theorem trim_yes {most c : Int} {r : Row} {rs : List Row} (h : r.2.2 = false ∨ c + (if r.2.2 = true then 1 else 0) ≤ most) : trimOf most c (r :: rs) = r :: trimOf most (c + if r.2.2 = true then 1 else 0) rs := by
  rw [trimOf, if_pos]
  rcases h with h | h
  · rw [h]; rfl
  · rw [decide_eq_true h, Bool.or_true]
theorem trim_no {most c : Int} {r : Row} {rs : List Row} (h : r.2.2 = true) (h2 : ¬ c + (if r.2.2 = true then 1 else 0) ≤ most) : trimOf most c (r :: rs) = trimOf most (c + if r.2.2 = true then 1 else 0) rs := by
  rw [trimOf, if_neg]
  simp only [h, Bool.not_true, Bool.false_or, decide_eq_true_eq]
  rw [h] at h2
  exact h2
theorem trim_spec {b dx rl : Addr} {vs : List Value} {rows : List Row} {most next : Int} (M : Amb p loose mean mg mb w dp gs un base fs s.heap 10) (Bu : BufAt w s.heap b dx rl vs rows most next) (O : Off base fs [b, dx, rl])
    (post : ∀ h' tk rl' vs', BufAt w h' b dx rl' vs' (trimOf most 0 rows) most next → s.heap.get? rl' = none → Chg [dx] s.heap h' → R (.ok (.ret .none)) { s with heap := h', toks := tk }) :
    codeAny (model prog w) (AA dp fs gs un) (.call (.ref 110) ⟨[.ref b], []⟩) R s := by
  obtain ⟨hb, x5, ⟨nr, hrl⟩, hrows, hsm⟩ := Bu
  refine exE5 x5 fun t1 t2 t3 tm tn hdx => ?_
  clear x5
  have q1 := ne_get hdx hb nofun
  have q2 := ne_get hdx hrl (by first | kopn_word | simp)
  have q3 := ne_get hrl hb nofun
  w_on
  refine enterH M [(b, instObj 154 dx), (dx, dictOf (bufEs w t1 t2 t3 (.int most tm) (.ref rl) (.int next tn)) 3), (rl, W.listOf vs.toArray nr)] (by first | kopn_word | simp [hb, hdx, hrl]) O ?_
  intro g L' h₁ F N B X T hg hg' hL'
  dsimp only
  k_fold
  have hrg := rows_g hg (by first | kopn_word | simp [hb, hdx, hrl]) (by first | kopn_word | simp) hrows
  w_strict k_steps
  dsimp only
  rename Fr _ _ _ _ => F
  rename News _ _ _ _ => N
  rename_i K _ l1 _ _ l2 _ _ _
  have N0 : News g L' _ [(K, W.listOf [].toArray 0), (b, instObj 154 dx), (dx, dictOf (bufEs w t1 t2 t3 (.int most tm) (.ref rl) (.int next tn)) 3), (rl, W.listOf vs.toArray nr)] := fun q hq => N q (.tail _ hq)
  refine kdl_iter (env := envOf _ _ L' 110 (Value.ref 109)) (nn := nr) (fun i m nx => ∃ ys c tc nk kept, nx = [(K, W.listOf ys nk), (b, instObj 154 dx), (dx, dictOf (bufEs w t1 t2 t3 (.int most tm) (.ref rl) (.int next tn)) 3), (rl, W.listOf vs.toArray nr)] ∧
      m (Str.ofString "kept") = some (.ref K) ∧ m (Str.ofString "many") = some (.int c tc) ∧ m (Str.ofString "self") = some (.ref b) ∧ Paired (TupAt g) ys.toList kept ∧ ys.size ≤ i ∧ trimOf most 0 rows = kept ++ trimOf most c (rows.drop i))
    rfl (.tail _ (.tail _ (.tail _ (.head _)))) F N0 ⟨#[], 0, _, 0, [], rfl, rfl, rfl, rfl, .nil, Nat.le_refl _, rfl⟩ ?_ ?_
  · rintro i v m₁ nx h tk own hv hoff _ ⟨ys, c, tc, nk, kept, rfl, hk1, hk2, hk3, P, hle, htr⟩ F N
    obtain ⟨r, hr, a, x1, x2, n1, rfl, ha⟩ := pr_get (pr_flip hrg) i v hv
    have hT := TupAt.isTup ha
    have F := fr_kst1 [(Str.ofString "kept", .ref K), (Str.ofString "many", .int c tc), (Str.ofString "self", .ref b)] F (by first | kopn_word | simp [hk1, hk2, hk3])
    simp only [List.cons_append, List.nil_append] at N
    have hofK : ∀ p ∈ own, p.1 ≠ K := fun q hq => hoff q hq K (by first | kopn_word | simp)
    have hsz : ys.size ≤ sizeLine := by rw [sizeLine_eq]; have := (List.getElem?_eq_some_iff.mp hr).1; omega
    have hr' := drop_at hr
    have hTa : TupAt g (.ref a) r := ⟨a, x1, x2, n1, rfl, ha⟩
    w_strict k_steps
    · dsimp only [List.cons_append, List.nil_append]
      w_strict k_steps
      rename Fr _ _ _ _ => F
      rename News _ _ _ _ => N
      refine InvEndG.intro (nx := [(K, W.listOf (ys.push (.ref a)) (nk + 1)), (b, instObj 154 dx), (dx, dictOf (bufEs w t1 t2 t3 (.int most tm) (.ref rl) (.int next tn)) 3), (rl, W.listOf vs.toArray nr)]) F N ⟨by simp, ys.push (.ref a), _, _, nk + 1, kept ++ [r], rfl, rfl, rfl, rfl, ?_, ?_, ?_⟩ hoff (by first | kopn_word | simp) (fun q hq => .tail _ (.tail _ (.tail _ (.tail _ hq))))
      · rw [Array.toList_push]; exact P.snoc hTa
      · rw [Array.size_push]; omega
      · rw [htr, hr', trim_yes (.inr (by assumption)), List.append_assoc]; rfl
    · rename Fr _ _ _ _ => F
      rename News _ _ _ _ => N
      refine InvEndG.intro (nx := [(K, W.listOf ys nk), (b, instObj 154 dx), (dx, dictOf (bufEs w t1 t2 t3 (.int most tm) (.ref rl) (.int next tn)) 3), (rl, W.listOf vs.toArray nr)]) F N ⟨by simp, ys, _, _, nk, kept, rfl, rfl, rfl, rfl, P, by omega, ?_⟩ hoff (by first | kopn_word | simp) (fun q hq => .tail _ (.tail _ (.tail _ (.tail _ hq))))
      rw [htr, hr', trim_no (by assumption) (by assumption)]
    · dsimp only [List.cons_append, List.nil_append]
      w_strict k_steps
      rename Fr _ _ _ _ => F
      rename News _ _ _ _ => N
      refine InvEndG.intro (nx := [(K, W.listOf (ys.push (.ref a)) (nk + 1)), (b, instObj 154 dx), (dx, dictOf (bufEs w t1 t2 t3 (.int most tm) (.ref rl) (.int next tn)) 3), (rl, W.listOf vs.toArray nr)]) F N ⟨by simp, ys.push (.ref a), _, _, nk + 1, kept ++ [r], rfl, rfl, rfl, rfl, ?_, ?_, ?_⟩ hoff (by first | kopn_word | simp) (fun q hq => .tail _ (.tail _ (.tail _ (.tail _ hq))))
      · rw [Array.toList_push]; exact P.snoc hTa
      · rw [Array.size_push]; omega
      · rw [htr, hr', trim_yes (.inl (by assumption)), List.append_assoc]; rfl
  · rintro m₁ nx h tk ⟨ys, c, tc, nk, kept, rfl, hk1, hk2, hk3, P, hle, htr⟩ F N
    have F := fr_kst [(Str.ofString "kept", .ref K), (Str.ofString "self", .ref b)] F (by first | kopn_word | simp [hk1, hk3])
    have hlen := hrows.length
    rw [hlen, List.drop_length, trimOf, List.append_nil] at htr
    w_strict k_steps
    rename Fr _ _ _ _ => F
    rename News _ _ _ _ => N
    refine post _ _ K ys.toList (buf_news (nr := nk) F N (.tail _ (.head _)) (.tail _ (.tail _ (.head _))) (by first | kopn_word | simp) (by rw [htr]; exact P) (by rw [htr, ← P.length]; simp; omega)) ?_ (chg_sub hg (by first | kopn_word | simp [hb, hdx, hrl]) F N (by first | kopn_word | simp))
    cases q : s.heap.get? K with
    | none => rfl
    | some o =>
      have e := hg K o q (fun hm => by simp only [List.map_cons, List.map_nil, List.mem_cons, List.not_mem_nil, or_false] at hm; rcases hm with e | e | e; exact absurd l1.1 (e ▸ Nat.lt_irrefl _); exact absurd l1.2.1 (e ▸ Nat.lt_irrefl _); exact absurd l1.2.2 (e ▸ Nat.lt_irrefl _))
      rw [(N _ (.head _)).2.2] at e
      cases e
end
theorem cut_at {vs : List Value} {i : Nat} {v : Value} (hi : vs[i]? = some v) : kl_cut vs i = some (vs.take i, v, vs.drop (i + 1)) := by
  induction vs generalizing i with
  | nil => cases hi
  | cons x l ih =>
    cases i with
    | zero => cases hi; rfl
    | succ i =>
      have := ih (i := i) (by simpa using hi)
      simp only [kl_cut, this]
      rfl
section
variable {prog : Program} {w : World} {A : Around} {E : Value → Shared → Prop} {s : Shared} {g : Heap} {L : Addr} {m : Str → Option Value} {news news' : List (Addr × Obj)}
theorem pop_at {rl : Addr} {vs : List Value} {nr i : Nat} {v : Value} {u : Tok} {Q : Value → Shared → Prop} (F : Fr g L s.heap m) (N : News g L s.heap news) (hi : vs[i]? = some v) (hz : vs.length ≤ 1000)
    (U : Upd rl (W.listOf vs.toArray nr) (W.listOf (vs.eraseIdx i).toArray (nr + 1)) news news') (h : ∀ h', Fr g L h' m → News g L h' news' → Q v { s with heap := h' }) :
    wpAny (model prog w) A (call (.builtin "list.pop") [.ref rl, .int i u]) Q E s := by
  have hlt : i < vs.length := (List.getElem?_eq_some_iff.mp hi).1
  refine kl_popAt (k := i) (its := vs.toArray) F N ?_ ?_ (cut_at hi) (by rw [← List.eraseIdx_eq_take_drop_succ]; exact U) (by rw [sizeLine_eq]; simp; omega) h
  · unfold Builtin.List.listFitsIndex
    simp
    omega
  · simp [seqIndex?]
    omega
theorem insert_0 {rl : Addr} {vs : List Value} {nr : Nat} {v : Value} {u : Tok} {Q : Value → Shared → Prop} (F : Fr g L s.heap m) (N : News g L s.heap news)
    (U : Upd rl (W.listOf vs.toArray nr) (W.listOf (v :: vs).toArray (nr + 1)) news news') (hz : vs.length ≤ 1000) (h : ∀ h', Fr g L h' m → News g L h' news' → Q .none { s with heap := h' }) :
    wpAny (model prog w) A (call (.builtin "list.insert") [.ref rl, .int 0 u, v]) Q E s :=
  kl_insert (its := vs.toArray) F N (by rfl) (by first | kopn_word | simp [kl_ins]) U (by rw [sizeLine_eq]; simp; omega) h
end

section
variable {p : Program} {loose : List Str} {mean : ExcName → Option Value} {mg mb : Str → Option Value} {prog : Program} {w : World} {dp un : Nat} {gs : Option (List Code)} {R : Result → Shared → Prop} {s : Shared} {base : Heap} {fs : List Env} {k : Nat}

/-- what set makes of the rows: the new rows, the next number, what it tells -/
noncomputable def setOut (rows : List Row) (most next : Int) (oc : Bts) (nm : Option Bts) (j : Nat) : List Row × Int × Option Bts :=
  if oc = #[] then (rows, next, none) else match nm with
    | some nm => (trimOf most 0 ((nm, oc, false) :: rows.filter (fun r => r.1 != nm)), next, some nm)
    | none => (trimOf most 0 ((bufName (next + j), oc, true) :: rows.filter (fun r => r.1 != bufName (next + j))), next + j + 1, some (bufName (next + j)))
structure Fresh (rows : List Row) (next : Int) (j : Nat) : Prop where
  hin : ∀ i, i < j → has rows (bufName (next + i)) = true
  hout : has rows (bufName (next + j)) = false
  h0 : 0 ≤ next
  h9 : next + j ≤ 9

theorem find_has {rows : List Row} {nm : Bts} (h : has rows nm = true) : ∃ i r, rows.findIdx? (fun r => r.1 == nm) = some i ∧ rows[i]? = some r ∧ r.1 = nm := by
  cases q : rows.findIdx? (fun r => r.1 == nm) with
  | none =>
    have := List.findIdx?_eq_none_iff.mp q
    unfold has at h
    obtain ⟨r, hr, e⟩ := List.any_eq_true.mp h
    exact absurd ((this r hr).symm.trans e) nofun
  | some i =>
    obtain ⟨h1, h2, h3⟩ := List.findIdx?_eq_some_iff_getElem.mp q
    exact ⟨i, rows[i], rfl, List.getElem?_eq_getElem h1, by simpa using h2⟩
theorem erase_named {rows : List Row} {nm : Bts} {i : Nat} (hnd : (rows.map (·.1)).Nodup) (h : rows.findIdx? (fun r => r.1 == nm) = some i) : rows.eraseIdx i = rows.filter (fun r => r.1 != nm) := by
  induction rows generalizing i with
  | nil => cases h
  | cons r l ih =>
    simp only [List.map_cons, List.nodup_cons] at hnd
    rw [List.findIdx?_cons] at h
    by_cases e : (r.1 == nm) = true
    · rw [if_pos e] at h
      cases h
      have e' : r.1 = nm := by simpa using e
      rw [List.eraseIdx_cons_zero, List.filter_cons_of_neg (by first | kopn_word | simp [e'])]
      refine (List.filter_eq_self.mpr fun x hx => ?_).symm
      have : x.1 ≠ nm := fun q => hnd.1 (by rw [e', ← q]; exact List.mem_map_of_mem hx)
      simpa using this
    · rw [if_neg e] at h
      obtain ⟨k, hk, rfl⟩ := Option.map_eq_some_iff.mp h
      rw [List.eraseIdx_cons_succ, List.filter_cons_of_pos (by simpa using e), ih hnd.2 hk]
theorem filter_none {rows : List Row} {nm : Bts} (h : has rows nm = false) : rows.filter (fun r => r.1 != nm) = rows := by
  refine List.filter_eq_self.mpr fun x hx => ?_
  have : x.1 ≠ nm := fun q => by
    have : has rows nm = true := List.any_eq_true.mpr ⟨x, hx, by simp [q]⟩
    rw [this] at h; cases h
  simpa using this
theorem pr_erase {α β : Type} {F : α → β → Prop} {l₁ : List α} {l₂ : List β} (i : Nat) (x : Paired F l₁ l₂) : Paired F (l₁.eraseIdx i) (l₂.eraseIdx i) := by
  induction x generalizing i with
  | nil => exact .nil
  | cons h t ih =>
    cases i with
    | zero => exact t
    | succ i => exact .cons h (ih i)

theorem off_fr1 {g h : Heap} {L a : Addr} {o : Obj} {news : List (Addr × Obj)} (N : News g L h news) (m : (a, o) ∈ news) : ∀ x ∈ [a], g.get? x = none ∧ x ≠ L := fun x hx => by
  rw [List.mem_singleton.mp hx]
  exact ⟨(N _ m).2.2, (N _ m).2.1⟩
theorem off_fr2 {g h : Heap} {L a b : Addr} {o o' : Obj} {news : List (Addr × Obj)} (N : News g L h news) (m : (a, o) ∈ news) (m' : (b, o') ∈ news) : ∀ x ∈ [a, b], g.get? x = none ∧ x ≠ L := fun x hx => by
  rcases List.mem_cons.mp hx with rfl | hx
  · exact ⟨(N _ m).2.2, (N _ m).2.1⟩
  · exact off_fr1 N m' x hx
theorem buf_at {w : World} {g h : Heap} {L b dx rl : Addr} {news : List (Addr × Obj)} {vs : List Value} {rows : List Row} {most next : Int} {t1 t2 t3 tm tn : Tok} {nr : Nat} (N : News g L h news)
    (m1 : (b, instObj 154 dx) ∈ news) (m2 : (dx, dictOf (bufEs w t1 t2 t3 (.int most tm) (.ref rl) (.int next tn)) 3) ∈ news) (m3 : (rl, W.listOf vs.toArray nr) ∈ news) (P : Paired (TupAt h) vs rows) (hs : rows.length ≤ 1000) :
    BufAt w h b dx rl vs rows most next :=
  ⟨(N _ m1).1, ⟨t1, t2, t3, tm, tn, (N _ m2).1⟩, ⟨nr, (N _ m3).1⟩, P, hs⟩
theorem tup_news {g h : Heap} {L a : Addr} {news : List (Addr × Obj)} {x y : Bts} {o : Bool} {t1 t2 : Tok} {n : Nat} (N : News g L h news) (m : (a, tup3 (.bytes x t1) (.bytes y t2) (.bool o) n) ∈ news) : TupAt h (.ref a) (x, y, o) := ⟨a, t1, t2, n, rfl, (N _ m).1⟩
theorem fresh_back {Δ : List Addr} {h h' : Heap} {x : Addr} (C : Chg Δ h h') (hΔ : ∀ a ∈ Δ, ∃ o, h'.get? a = some o) (e : h'.get? x = none) : h.get? x = none := by
  cases q : h.get? x with
  | none => rfl
  | some o =>
    by_cases hx : x ∈ Δ
    · obtain ⟨o', ho'⟩ := hΔ x hx
      rw [ho'] at e; cases e
    · rw [C x o q hx] at e; cases e

theorem set_some {b dx rl : Addr} {vs : List Value} {rows : List Row} {most next : Int} {oc nm : Bts} {to tn₀ : Tok} (M : Amb p loose mean mg mb w dp gs un base fs s.heap 15) (Bu : BufAt w s.heap b dx rl vs rows most next) (O : Off base fs [b, dx, rl])
    (hoc : oc ≠ #[]) (hnd : (rows.map (·.1)).Nodup) (hlt : rows.length ≤ 900)
    (post : ∀ t h' tk rl' vs', BufAt w h' b dx rl' vs' (setOut rows most next oc (some nm) 0).1 most next → s.heap.get? rl' = none → Chg [dx, rl] s.heap h' → R (.ok (.ret (.bytes nm t))) { s with heap := h', toks := tk }) :
    codeAny (model prog w) (AA dp fs gs un) (.call (.ref 103) ⟨[.ref b, .bytes oc to, .bytes nm tn₀], []⟩) R s := by
  obtain ⟨hb, x5, ⟨nr, hrl⟩, hrows, hsm⟩ := Bu
  refine exE5 x5 fun t1 t2 t3 tm tn hdx => ?_
  clear x5
  have q1 := ne_get hdx hb nofun
  have q2 := ne_get hdx hrl (by first | kopn_word | simp)
  have q3 := ne_get hrl hb nofun
  have hocl : (oc.toList == []) = false := by
    rw [beq_eq_false_iff_ne]
    exact fun e => hoc (Array.toList_inj.mp e)
  w_on
  have XH : (Mine.hd.heap_1 w.params).In s.heap := fun a o e => M.below.stays a o (M.KI a o e)
  refine enterH M [(b, instObj 154 dx), (dx, dictOf (bufEs w t1 t2 t3 (.int most tm) (.ref rl) (.int next tn)) 3), (rl, W.listOf vs.toArray nr)] (by first | kopn_word | simp [hb, hdx, hrl]) O ?_ (hbind := binds_K XH rfl (by k_dflt k_is) rfl rfl rfl)
  intro g L' h₁ F N B X T hg hg' hL'
  dsimp only
  k_fold
  have hrg := rows_g hg (by first | kopn_word | simp [hb, hdx, hrl]) (by first | kopn_word | simp) hrows
  w_strict k_steps
  dsimp only [List.nil_append, List.append_nil]
  rename Fr _ _ _ _ => F
  rename News _ _ _ _ => N
  refine wpAny_call (names_spec ((M.deeper B F rfl rfl).less (by decide)) (buf_news F N (.head _) (.tail _ (.head _)) (.tail _ (.tail _ (.head _))) hrg hsm) (.cons (off1 B N rfl (.head _)) (.cons (off1 B N rfl (.tail _ (.head _))) (.cons (off1 B N rfl (.tail _ (.tail _ (.head _)))) off_nil))) fun D us nD h₃ tk₃ hD hDn P C₃ => ?_)
  have F₃ := fr_chg0 F C₃
  have N₃ := news_chg0 N C₃
  clear F N
  dsimp only
  refine in_names P (isl_at hDn) ?_
  w_strict k_steps
  · rename has _ _ = true => hh
    obtain ⟨i, r, hi, hr, hrn⟩ := find_has hh
    have er := erase_named hnd hi
    obtain ⟨v, hv, hTv⟩ := pr_get hrg i r hr
    have hvl := hrows.length
    have F := F₃
    have N := N₃
    refine wpAny_call (place_spec ((M.deeper B F rfl rfl).less (by decide)) (buf_news F N (.head _) (.tail _ (.head _)) (.tail _ (.tail _ (.head _))) hrg hsm) (.cons (off1 B N rfl (.head _)) (.cons (off1 B N rfl (.tail _ (.head _))) (.cons (off1 B N rfl (.tail _ (.tail _ (.head _)))) off_nil))) hi fun t₄ h₄ tk₄ C₄ => ?_)
    have F₄ := fr_chg0 F C₄
    have N₄ := news_chg0 N C₄
    clear F N F₃ N₃
    dsimp only
    w_strict k_steps
    refine pop_at F₄ N₄ hv (by omega) (by k_upd) fun h₅ F₅ N₅ => ?_
    clear F₄ N₄
    w_strict k_steps
    refine call_bytes_bytes ?_
    w_strict k_steps
    dsimp only [List.cons_append, List.nil_append]
    rename Fr _ _ _ _ => F
    rename News _ _ _ _ => N
    refine insert_0 F N (by k_upd) (by have := List.length_eraseIdx_le vs i; omega) fun h₆ F₆ N₆ => ?_
    clear F N
    w_strict k_steps
    dsimp only [List.nil_append, List.append_nil]
    refine wpAny_call (trim_spec ((M.deeper B F₆ rfl rfl).less (by decide)) (rows := (nm, oc, false) :: rows.filter (fun r => r.1 != nm)) (buf_at N₆ (.tail _ (.head _)) (.tail _ (.tail _ (.head _))) (.tail _ (.tail _ (.tail _ (.head _)))) (.cons (tup_news N₆ (.head _)) (by rw [← er]; exact (pr_erase i hrg).mono fun _ _ x => x.keep F₆.keep)) (by have := List.length_filter_le (fun r : Row => r.1 != nm) rows; simp only [List.length_cons]; omega))
      (.cons (off1 B N₆ rfl (.tail _ (.head _))) (.cons (off1 B N₆ rfl (.tail _ (.tail _ (.head _)))) (.cons (off1 B N₆ rfl (.tail _ (.tail _ (.tail _ (.head _))))) off_nil))) fun h₇ tk₇ rl' vs' Bu' hrl' C₇ => ?_)
    have F₇ := fr_chg F₆ C₇ (off_fr1 N₆ (.tail _ (.tail _ (.head _))))
    have N₇ : News g L' h₇ [] := fun _ h => nomatch h
    have C₆ : Chg [dx, rl] s.heap h₆ := chg_sub hg (by first | kopn_word | simp [hb, hdx, hrl]) F₆ N₆ (by first | kopn_word | simp)
    have fr : s.heap.get? rl' = none := fresh_back C₆ (by intro a ha; simp only [List.mem_cons, List.not_mem_nil, or_false] at ha; rcases ha with rfl | rfl; exact ⟨_, (N₆ _ (.tail _ (.tail _ (.head _)))).1⟩; exact ⟨_, (N₆ _ (.tail _ (.tail _ (.tail _ (.head _))))).1⟩) hrl'
    clear F₆ N₆
    dsimp only
    w_strict k_steps
    show R _ _
    refine post _ _ _ rl' vs' ?_ fr (C₆.trans (C₇.mono (by first | kopn_word | simp)))
    unfold setOut
    rw [if_neg hoc]
    exact Bu'
  · rename has _ _ = false => hh
    have er := filter_none hh
    refine call_bytes_bytes ?_
    w_strict k_steps
    dsimp only [List.cons_append, List.nil_append]
    rename Fr _ _ _ _ => F
    rename News _ _ _ _ => N
    have hvl := hrows.length
    refine insert_0 F N (by k_upd) (by omega) fun h₆ F₆ N₆ => ?_
    clear F N
    w_strict k_steps
    dsimp only [List.nil_append, List.append_nil]
    refine wpAny_call (trim_spec ((M.deeper B F₆ rfl rfl).less (by decide)) (rows := (nm, oc, false) :: rows.filter (fun r => r.1 != nm)) (buf_at N₆ (.tail _ (.head _)) (.tail _ (.tail _ (.head _))) (.tail _ (.tail _ (.tail _ (.head _)))) (.cons (tup_news N₆ (.head _)) (by rw [er]; exact hrg.mono fun _ _ x => x.keep F₆.keep)) (by have := List.length_filter_le (fun r : Row => r.1 != nm) rows; simp only [List.length_cons]; omega))
      (.cons (off1 B N₆ rfl (.tail _ (.head _))) (.cons (off1 B N₆ rfl (.tail _ (.tail _ (.head _)))) (.cons (off1 B N₆ rfl (.tail _ (.tail _ (.tail _ (.head _))))) off_nil))) fun h₇ tk₇ rl' vs' Bu' hrl' C₇ => ?_)
    have F₇ := fr_chg F₆ C₇ (off_fr1 N₆ (.tail _ (.tail _ (.head _))))
    have N₇ : News g L' h₇ [] := fun _ h => nomatch h
    have C₆ : Chg [dx, rl] s.heap h₆ := chg_sub hg (by first | kopn_word | simp [hb, hdx, hrl]) F₆ N₆ (by first | kopn_word | simp)
    have fr : s.heap.get? rl' = none := fresh_back C₆ (by intro a ha; simp only [List.mem_cons, List.not_mem_nil, or_false] at ha; rcases ha with rfl | rfl; exact ⟨_, (N₆ _ (.tail _ (.tail _ (.head _)))).1⟩; exact ⟨_, (N₆ _ (.tail _ (.tail _ (.tail _ (.head _))))).1⟩) hrl'
    clear F₆ N₆
    dsimp only
    w_strict k_steps
    show R _ _
    refine post _ _ _ rl' vs' ?_ fr (C₆.trans (C₇.mono (by first | kopn_word | simp)))
    unfold setOut
    rw [if_neg hoc]
    exact Bu'
end
/-- an exception with a dict of its own, its newest traceback entry, and the mark that the entry bears -/
noncomputable def Trc (h B : Heap) (e : Addr) (cls a0 : Value) (dct : Option Addr) (fl : Value) : Prop :=
  ∃ oe vs T oT ts, h.get? e = some oe ∧ (oe.cls = cls ∧ oe.dict = dct ∧ vs[0]? = some a0) ∧ oe.data = .fields vs ∧ vs[1]? = some (.ref T) ∧ B.get? T = none ∧ T ≠ e ∧ h.get? T = some oT ∧ oT.data = .fields ts ∧ ts[3]? = some fl
noncomputable def Ntd (B : Heap) (l : List Env) (e : Addr) (cls a0 : Value) (dct : Option Addr) (fl : Value) (h : Heap) : Prop :=
  B.StaysIn h ∧ B.get? e = none ∧ h.FunFrames B l ∧ Trc h B e cls a0 dct fl

theorem dict_mapFields (f : Array Value → Array Value) (o : Obj) : (Obj.mapFields f o).dict = o.dict := by
  obtain ⟨c, d, dt, sl⟩ := o
  cases dt <;> rfl

section
variable {M : Model} {A : Around} {E : Value → Shared → Prop} {s : Shared} {B : Heap} {env : Env} {l outer : List Env} {L e : Addr} {cls a0 fl : Value} {dct : Option Addr} {Q : Unit → Shared → Prop}

theorem ntd_entry {oe : Obj} {vs : Array Value} {head : Value} {hadNext : Bool}
    (hfr : A.frames = some (env :: outer)) (hl : s.heap.FunFrames B (env :: outer)) (hf : env.frame = some L)
    (he : s.heap.get? e = some oe) (hkb : B.StaysIn s.heap) (hen : B.get? e = none) (hd : oe.data = .fields vs) (hsz : 1 < vs.size) (h0 : vs[0]? = some a0)
    (h : ∀ h', Ntd B (env :: outer) e oe.cls a0 oe.dict (rawInt L) h' → s.heap.UpToSlots h' → Q () { s with heap := h' }) :
    wpAny M A (do let a ← frameOf env; let pl ← entryPlaceOf L hadNext; let b ← EntryCells.newEntry head a .none (rawInt L) .none pl; setField (.ref e) 1 b) Q E s := by
  have hene : e ∉ (env :: outer).filterMap (·.frame) := fun hm => by
    obtain ⟨_, o, ho, hnf⟩ := hl.mem hm
    rw [he] at ho; cases ho; exact hnf vs hd
  refine wpAny_bind (wpAny_frameOf_fun hfr hl hf fun h₁ hs₁ => ?_)
  refine wpAny_bind (wpAny_entryPlaceOf fun pl hpl => ?_)
  unfold EntryCells.newEntry newFields
  refine wpAny_bind (wpAny_newObj_type ?_ (hpl.sizeOk5 _ _ _ _ _))
  generalize hob : ({ cls := .type "traceback", dict := none, data := .fields ([head, .ref L, .none, rawInt L, .none] ++ (if pl.isEmpty then List.replicate 6 Value.none else pl)).toArray } : Obj) = ob
  have hobd : ∃ ts, ob.data = .fields ts ∧ ts[3]? = some (rawInt L) := by
    subst hob
    exact ⟨_, rfl, by simp⟩
  clear hob
  obtain ⟨ts, hbd, hb3⟩ := hobd
  have he₁ : h₁.get? e = some oe := (hs₁.2.1 e hene).trans he
  have kb₁ : B.StaysIn h₁ := fun b o hbo => (hs₁.2.1 b fun hm => by rw [(hl.mem hm).1] at hbo; cases hbo).trans (hkb b o hbo)
  have he₂ := Heap.get?_push_of_some (h := h₁) ob he₁
  refine wpAny_setField he₂ hd hsz ?_
  have hTe : h₁.objs.size ≠ e := Nat.ne_of_gt (Heap.lt_size he₁)
  have hd₃ := Obj.data_mapFields hd (·.setIfInBounds 1 (Value.ref h₁.objs.size))
  have he₃ := Heap.get?_update_self (Obj.mapFields (·.setIfInBounds 1 (Value.ref h₁.objs.size))) he₂ (Obj.isFreed_of_fields hd₃)
  have hT₃ := (Heap.get?_update_other (h₁.push ob) (Obj.mapFields (·.setIfInBounds 1 (Value.ref h₁.objs.size))) (Ne.symm hTe)).trans (Heap.get?_push_size h₁ (Obj.isFreed_of_fields hbd))
  have keep : ∀ b o, b ≠ e → h₁.get? b = some o → ((h₁.push ob).update e (Obj.mapFields (·.setIfInBounds 1 (Value.ref h₁.objs.size)))).get? b = some o := fun b o hbe hb => by
    rw [Heap.get?_update_other _ _ (Ne.symm hbe)]
    exact Heap.get?_push_of_some _ hb
  have nr : ∀ b o, s.heap.get? b = some o → (∀ vs, o.data ≠ .fields vs) → b ≠ e := fun b o hb hnf q => by
    rw [q, he] at hb; cases hb; exact hnf vs hd
  have up : s.heap.UpToSlots ((h₁.push ob).update e (Obj.mapFields (·.setIfInBounds 1 (Value.ref h₁.objs.size)))) := fun b o hb hnf => by
    obtain ⟨sl, hs⟩ := hs₁.2.2 b o hb
    exact ⟨sl, keep b _ (nr b o hb hnf) hs⟩
  refine h _ ⟨fun b o hbo => keep b o (fun q => by rw [q, hen] at hbo; cases hbo) (kb₁ b o hbo), hen, hl.of_keeps fun b o hb hnf => ?_, ?_⟩ up
  · obtain ⟨sl, hs⟩ := up b o hb hnf
    exact ⟨_, hs, rfl⟩
  · refine ⟨_, _, h₁.objs.size, _, _, he₃, ⟨Obj.cls_mapFields _ _, dict_mapFields _ _, ?_⟩, hd₃, by simp [hsz], ?_, hTe, hT₃, hbd, hb3⟩
    · rw [Array.getElem?_setIfInBounds_ne (by decide)]; exact h0
    · cases q : B.get? h₁.objs.size with
      | none => rfl
      | some o => exact absurd (Heap.lt_size (kb₁ _ _ q)) (Nat.lt_irrefl _)

/-- the first frame that the new exception leaves notes itself -/
theorem ntd_first {oe : Obj} {vs : Array Value} (hfr : A.frames = some (env :: outer)) (hl : s.heap.FunFrames B (env :: outer)) (hf : env.frame = some L)
    (he : s.heap.get? e = some oe) (hkb : B.StaysIn s.heap) (hen : B.get? e = none) (hd : oe.data = .fields vs) (h1 : vs[1]? = some .none) (h0 : vs[0]? = some a0)
    (h : ∀ h', Ntd B (env :: outer) e oe.cls a0 oe.dict (rawInt L) h' → s.heap.UpToSlots h' → Q () { s with heap := h' }) : wpAny M A (noteFrame (.ref e) env) Q E s := by
  unfold noteFrame
  simp only [hf]
  refine wpAny_bind (wpAny_field he hd h1 ?_)
  rw [if_neg (by decide)]
  exact ntd_entry hfr hl hf he hkb hen hd (Array.getElem?_eq_some_iff.mp h1).1 h0 h

/-- a later frame notes itself -/
theorem ntd_next (hfr : A.frames = some (env :: outer)) (hf : env.frame = some L) (N : Ntd B (env :: outer) e cls a0 dct .none s.heap)
    (h : ∀ h', Ntd B (env :: outer) e cls a0 dct (rawInt L) h' → s.heap.UpToSlots h' → Q () { s with heap := h' }) : wpAny M A (noteFrame (.ref e) env) Q E s := by
  obtain ⟨hkb, hen, hl, oe, vs, T, oT, ts, he, ⟨rfl, rfl, h0⟩, hd, h1, hnT, hTe, hT, hdT, h3⟩ := N
  unfold noteFrame
  simp only [hf]
  refine wpAny_bind (wpAny_field he hd h1 ?_)
  rw [if_pos (show (Value.ref T != Value.none) = true from by first | kopn_word | simp)]
  refine wpAny_bind (wpAny_field hT hdT h3 ?_)
  rw [if_neg (show ¬ ((Value.none == rawInt L) = true) from by first | kopn_word | simp [rawInt])]
  refine wpAny_bind (wpAny_setField hT hdT (Array.getElem?_eq_some_iff.mp h3).1 ?_)
  have other : ∀ b, b ≠ T → (s.heap.update T (Obj.mapFields (·.setIfInBounds 3 Value.none))).get? b = s.heap.get? b := fun b hb => Heap.get?_update_other _ _ (Ne.symm hb)
  have nr : ∀ b o, s.heap.get? b = some o → (∀ vs, o.data ≠ .fields vs) → b ≠ T := fun b o hb hnf q => by
    rw [q, hT] at hb; cases hb; exact hnf ts hdT
  refine ntd_entry (a0 := a0) hfr (hl.of_keeps fun b o hb hnf => ⟨o, (other b (nr b o hb hnf)).trans hb, rfl⟩) hf ((other e (Ne.symm hTe)).trans he)
    (fun b o hbo => (other b fun q => by rw [q, hnT] at hbo; cases hbo).trans (hkb b o hbo)) hen hd (Array.getElem?_eq_some_iff.mp h1).1 h0
    fun h' x1 x4 => h h' x1 fun b o hb hnf => x4 b o ((other b (nr b o hb hnf)).trans hb) hnf

theorem ntd_lands (N : Ntd B l e cls a0 dct fl s.heap)
    (h : ∀ h', Ntd B l e cls a0 dct .none h' → s.heap.UpToSlots h' → Q () { s with heap := h' }) : wpAny M A (setFlight (.ref e) none) Q E s := by
  obtain ⟨hkb, hen, hl, oe, vs, T, oT, ts, he, ⟨rfl, rfl, h0⟩, hd, h1, hnT, hTe, hT, hdT, h3⟩ := N
  have hsz3 : 3 < ts.size := (Array.getElem?_eq_some_iff.mp h3).1
  have other : ∀ b, b ≠ T → (s.heap.update T (Obj.mapFields (·.setIfInBounds 3 ((none : Option Addr).elim Value.none fun f => rawInt f)))).get? b = s.heap.get? b :=
    fun b hb => Heap.get?_update_other _ _ (Ne.symm hb)
  have nr : ∀ b o, s.heap.get? b = some o → (∀ vs, o.data ≠ .fields vs) → b ≠ T := fun b o hb hnf q => by
    rw [q, hT] at hb; cases hb; exact hnf ts hdT
  unfold setFlight
  refine wpAny_bind (wpAny_field he hd h1 ?_)
  rw [if_pos (show (Value.ref T != Value.none) = true from by first | kopn_word | simp)]
  refine wpAny_setField hT hdT hsz3 (h _ ⟨fun b o hbo => (other b fun q => by rw [q, hnT] at hbo; cases hbo).trans (hkb b o hbo), hen,
    hl.of_keeps fun b o hb hnf => ⟨o, (other b (nr b o hb hnf)).trans hb, rfl⟩, ?_⟩ fun b o hb hnf => ⟨o.slots, (other b (nr b o hb hnf)).trans hb⟩)
  exact ⟨oe, vs, T, _, _, (other e (Ne.symm hTe)).trans he, ⟨rfl, rfl, h0⟩, hd, h1, hnT, hTe, Heap.get?_update_self _ hT (Obj.isFreed_of_fields (Obj.data_mapFields hdT _)), Obj.data_mapFields hdT _, by simp [hsz3]⟩

theorem ntd_out {env : Env} {h : Heap} (N : Ntd B (env :: outer) e cls a0 dct fl h) : Ntd B outer e cls a0 dct fl h :=
  by obtain ⟨a, b, ⟨_, _, c⟩, d⟩ := N; exact ⟨a, b, c, d⟩
end
section
open Builtin Builtin.ObjectAttr
noncomputable abbrev excBare (t : Addr) : Obj := { cls := .ref 45, data := .fields #[.ref t, .none, .none, .none, .bool false, .none] }
noncomputable abbrev excFull (t dx : Addr) : Obj := { cls := .ref 45, dict := some dx, data := .fields #[.ref t, .none, .none, .none, .bool false, .none] }
noncomputable abbrev badTail : List Value := [.ref 32, .type "Exception", .type "BaseException", .type "object"]
noncomputable abbrev badCls : Obj := excClassObj (Str.ofString "BadTarget") (Str.ofString "BadTarget") 45 44 [.ref 32] badTail true [] [] false none none (some (.ref 36)) none (some (.str (Str.ofString "BadTarget") 218)) (some (.str (Str.ofString "BadTarget") 226)) (some (.bool true)) "Exception.__new__"

theorem bad_cls {w : World} {h : Heap} (X : (Mine.hd.heap_1 w.params).In h) : h.get? 45 = some badCls := X _ _ rfl

section
variable {prog : Program} {w : World} {A : Around} {E : Value → Shared → Prop} {R : Result → Shared → Prop} {h : Heap} {g : Array GenState} {d : Drawn} {t : Nat} {os : OsState}

theorem bad_check {M : Model} {rest : List Value} {Q : Unit → Shared → Prop} (hC : h.get? 45 = some badCls) (hq : Q () ⟨h, g, d, t, os⟩) :
    wpAny M A (checkBuiltinCall "Exception.__new__" ⟨.ref 45 :: rest, []⟩) Q E ⟨h, g, d, t, os⟩ := by
  have Fn := PySem.F.excBase_Exception
  have hcont : (Value.ref 45 :: badTail).contains (.type "Exception") = true := by decide
  have hstar := Fn.noStar
  simp only [checkBuiltinCall, Fn.newKind, Fn.newSplit, Fn.newRow]
  repeat (first | refine wpAny_loadPart_at hC ?_ | (refine wpAny_isSubtype_exc hC ?_; rw [hcont]) | refine wpAny_staticBase_exc hC ?_ | refine wpAny_madeBy_exc hC ?_ | simp only [bne_self_eq_false, Bool.false_eq_true, if_false] | wp_step)
  exact hq

theorem bad_new {rest : List Value} (hC : h.get? 45 = some badCls)
    (hq : R (.ok (.ret (.ref (h.objs.size + 1)))) ⟨(h.push { cls := .type "tuple", data := .seq rest.toArray }).push (excBare h.objs.size), g, d, t, os⟩) (hrest : rest.length ≤ sizeLine) :
    codeAny (model prog w) A (.builtin "Exception.__new__" ⟨.ref 45 :: rest, []⟩) R ⟨h, g, d, t, os⟩ := by
  have Fn := PySem.F.excBase_Exception
  have hends := Fn.ends
  have hcB : (Value.ref 45 :: badTail).contains (.type "Exception") = true := by decide
  have hcA : (Value.ref 45 :: badTail).contains (.type "AttributeError") = false := by decide
  have hcN : (Value.ref 45 :: badTail).contains (.type "NameError") = false := by decide
  refine codeAny_builtinAt Fn.entry ?_
  unfold Builtin.«BaseException.__new__»
  refine PySem.wpAt_bind ?_
  show PySem.wpAt _ _ _ (stack >>= _) _ _ _
  refine PySem.wpAt_bind (PySem.wpAt_stack fun p below => PySem.wpAt_of_wpAny ?_)
  wp_walk
  refine PySem.wpAt_of_wpAny ?_
  rw [Fn.owner]
  repeat (first | with_reducible refine wpAny_madeHere_exc Fn.canon hC ?_ | with_reducible refine wpAny_loadPart_at hC ?_ | (with_reducible refine wpAny_isSubtype_exc hC ?_; first | rw [hcB] | rw [hcA] | rw [hcN]) | wp_step)
  show R _ _
  rw [Heap.size_push]
  exact hq

theorem bad_type_call {rest : List Value} {Q : Fin → Shared → Prop} (X : (Mine.hd.heap_1 w.params).In h)
    (hq : wpAny (model prog w) A (call (.ref 29) (.ref (h.objs.size + 1) :: rest)) (fun r s' => r = .none ∧ Q (.done (.ret (.ref (h.objs.size + 1)))) s') E ⟨(h.push { cls := .type "tuple", data := .seq rest.toArray }).push (excBare h.objs.size), g, d, t, os⟩) (hrest : rest.length ≤ sizeLine) :
    wpAny (model prog w) A (Builtin.«type.__call__» ⟨.ref 45 :: rest, []⟩) Q E ⟨h, g, d, t, os⟩ := by
  have hC := bad_cls X
  have Fn := PySem.F.excBase_Exception
  repeat (first | with_reducible refine wpAny_loadPart_at hC ?_ | with_reducible refine wpAny_madeBy_exc hC ?_ | wp_step)
  refine codeAny_call_builtin_code (Code.quiet_builtin _ Fn.quiet) (bad_check hC ?_)
  refine bad_new hC ?_ hrest
  show wpAny _ _ _ _ _ _
  have k : ∀ b o, h.get? b = some o → ((h.push { cls := .type "tuple", data := .seq rest.toArray }).push (excBare h.objs.size)).get? b = some o := fun b o e => Heap.get?_push_of_some _ (Heap.get?_push_of_some _ e)
  have hC₁ := k _ _ hC
  have hget : ((h.push { cls := .type "tuple", data := .seq rest.toArray }).push (excBare h.objs.size)).get? (h.objs.size + 1) = some (excBare h.objs.size) := by heap_get
  have hcC : (Value.ref 45 :: badTail).contains (.ref 45) = true := by decide
  unfold isInstance
  repeat (first | with_reducible refine wpAny_loadPart_at hget ?_ | (with_reducible refine wpAny_isSubtype_exc hC₁ ?_; rw [hcC]) | wp_step)
  show wpAny _ _ (typeLookup (.ref 45) _) _ _ _
  have L1 : Looks (model prog w) ((h.push { cls := .type "tuple", data := .seq rest.toArray }).push (excBare h.objs.size)) (typeLookup (.ref 45) "__init__") (some (.ref 29)) := looks_findIn (X.keeps k) rfl
  refine L1.at ?_
  refine wpAny_holding (wpAny_bind ?_)
  refine (bind_fn (X.keeps k) _ (by rfl)).at ?_
  refine wpAny_bind (wpAny_mono hq (fun r s' hr => ?_) fun _ _ x => x)
  obtain ⟨rfl, hQ⟩ := hr
  wp_walk
  exact hQ

theorem bad_call {rest : List Value} {Q : Value → Shared → Prop} (X : (Mine.hd.heap_1 w.params).In h)
    (hq : wpAny (model prog w) (A.under (.builtin "type.__call__" ⟨.ref 45 :: rest, []⟩)) (call (.ref 29) (.ref (h.objs.size + 1) :: rest)) (fun r s' => r = .none ∧ Q (.ref (h.objs.size + 1)) s') E ⟨(h.push { cls := .type "tuple", data := .seq rest.toArray }).push (excBare h.objs.size), g, d, t, os⟩) (hrest : rest.length ≤ sizeLine) :
    wpAny (model prog w) A (call (.ref 45) rest) Q E ⟨h, g, d, t, os⟩ := by
  have hC := bad_cls X
  have f1 := tc_lookup
  have f2 := tc_bind (.ref 45)
  have hT : (⟨h, g, d, t, os⟩ : Shared).TypeIs (.ref 45) "type" := ⟨_, hC, rfl⟩
  refine wpAny_call (codeAny_of_tree ?_)
  show wpAny _ _ (callAny (.ref 45) _) _ _ _
  repeat (any_goals (first | assumption | with_reducible refine wpAny_loadPart_at hC ?_ | wp_step))
  refine ⟨rfl, ?_⟩
  refine codeAny_call_builtin_at (Code.quiet_builtin _ (by decide +kernel)) entry_typeCall (wpAny_check_type_call_sub hC (bad_type_call X ?_ hrest))
  exact hq
end

section
variable {prog : Program} {w : World} {A : Around} {E : Value → Shared → Prop} {h₀ : Heap} {L : Addr} {m : Str → Option Value} {news : List (Addr × Obj)}
theorem told_in {M : Model} {s : Shared} {dx : Addr} {name : Str} {tk : Tok} {v : Value} {Q : Fin → Shared → Prop} (hnd : s.heap.Ns dx fun _ => none)
    (h : ∀ h' tk', h'.Ns1 dx (fun y => if y = name then some v else none) → (∀ b, b ≠ dx → h'.get? b = s.heap.get? b) → Q (.done (.ret .none)) { s with heap := h', toks := tk' }) :
    wpAny M A (storeInDict dx (.str name tk) name v) Q E s := by
  unfold storeInDict newKeyGuard
  refine wpAny_bind (wpAny_pure (wpAny_bind (wpAny_nsSet1 (Heap.Ns1.of_empty hnd) fun h' hn' hs => ?_)))
  obtain ⟨oD, esD, epD, hoD, hdD, hcD⟩ := hn'.count (Within.cons name v Within.nil)
  refine wpAny_bind (wpAny_lookBehind hoD (by rw [hdD]; exact pastItsLine_dict (Nat.le_trans hcD (by rw [List.length_cons, List.length_nil, sizeLine_eq]; omega))) ?_)
  exact wpAny_pure (h _ _ hn' fun b hb => hs.2 b hb)
/-- the store of `told` into the new exception -/
theorem told_store {h : Heap} {g : Array GenState} {d : Drawn} {tk : Nat} {os : OsState} {x t : Addr} {v : Value} {Q : Unit → Shared → Prop} (X : (Mine.hd.heap_1 w.params).In h) (hx : h.get? x = some (excBare t))
    (hq : ∀ dx h' tk', (∀ b o, b ≠ x → h.get? b = some o → h'.get? b = some o) → h'.get? x = some (excFull t dx) → h.get? dx = none → dx ≠ x → h'.Ns1 dx (fun y => if y = Str.ofString "told" then some v else none) → h.objs.size ≤ dx → Q () ⟨h', g, d, tk', os⟩) :
    wpAny (model prog w) A (setAttr (.ref x) (Str.ofString "told") v) Q E ⟨h, g, d, tk, os⟩ := by
  have I : InstAt h x (excBare t) 45 none := ⟨hx, rfl, rfl, trivial⟩
  refine set_plain (K := Mine.hd.heap_1 w.params) (s := ⟨h, g, d, tk, os⟩) X I rfl ?_
  have SF := PySem.F.store_Exception
  have sub : Looks (model prog w) h (isInstance (.ref x) (.type "object")) true := I.type.andThen (looks_mroIn X (r := true) (by rfl))
  refine codeAny_call_builtin SF.slot.plain SF.entry (@check_slot (model prog w) _ _ _ "object.__setattr__" "object" "__setattr__" (.ref x) [.str (Str.ofString "told") tk, v] [] _ SF.kind SF.split sub (SF.args _ _ _) ?_)
  have hm : Looks (model prog w) h (mroOf (.ref 45)) (.ref 45 :: badTail) := (looks_clsIn (K := Mine.hd.heap_1 w.params) (C := 45) X rfl).andThen .now
  have La : Looks (model prog w) h (typeLookup (.ref 45) (Str.ofString "told")) none := looks_findIn X rfl
  rw [osa_eq, refuse_eq]
  refine wpAny_bind (wpAny_bind (I.type.at (wpAny_bind (hm.at ?_))))
  rw [refuseLoop_ref, refuseLoop_ref, SF.passes]
  refine wpAny_pure (wpAny_bind (I.type.at (wpAny_bind (La.at (wpAny_bind (wpAny_pure ?_))))))
  show wpAny _ _ (storeInOwnDict _ _ _ _ _ _) _ _ _
  have hxs : x ≠ h.objs.size := Nat.ne_of_lt (Heap.lt_size hx)
  have hx₁ : (h.push emptyDict).get? x = some (excBare t) := Heap.get?_push_of_some _ hx
  have hx₂ : ((h.push emptyDict).update x fun o => { cls := o.cls, dict := some h.objs.size, data := o.data, slots := o.slots }).get? x = some (excFull t h.objs.size) := Heap.get?_update_self _ hx₁ rfl
  have hgd : ((h.push emptyDict).update x fun o => { cls := o.cls, dict := some h.objs.size, data := o.data, slots := o.slots }).get? h.objs.size = some emptyDict :=
    (Heap.get?_update_ne _ _ _ _ hxs.symm).trans (Heap.get?_push_at rfl rfl)
  have hnd : ((h.push emptyDict).update x fun o => { cls := o.cls, dict := some h.objs.size, data := o.data, slots := o.slots }).Ns h.objs.size (fun _ => none) :=
    ⟨_, #[], _, hgd, rfl, fun e he => absurd he (by first | kopn_word | simp), fun _ => rfl⟩
  unfold storeInOwnDict ownStreamTells ownDictForStores
  have hC : h.get? 45 = some badCls := bad_cls X
  repeat (first | with_reducible refine told_in (dx := h.objs.size) hnd ?_ | with_reducible refine wpAny_loadPart_at hx ?_ | with_reducible refine wpAny_loadPart_at hC ?_ | wp_step)
  intro h' tk' hn' hs
  refine hq h.objs.size h' _ (fun b o hbx hb => ?_) ((hs x hxs).trans hx₂) (Heap.get?_none_of_le (Nat.le_refl _)) hxs.symm hn' (Nat.le_refl _)
  exact (hs b (Nat.ne_of_lt (Heap.lt_size hb))).trans ((Heap.get?_update_ne _ _ _ _ hbx).trans (Heap.get?_push_of_some _ hb))
end
end
section
open Builtin Builtin.ObjectAttr
section
variable {prog : Program} {w : World} {A : Around} {E : Value → Shared → Prop}

theorem lookIn_ns {h : Heap} {dx : Addr} {m : Str → Option Value} {name : Str} {v : Value} (hn : h.Ns dx m) (e : m name = some v) : ∃ od, h.get? dx = some od ∧ lookIn name od = some (some v) := by
  obtain ⟨o, es, ep, ho, hd, hk, hf⟩ := hn
  refine ⟨o, ho, ?_⟩
  have := hf name
  rw [e] at this
  unfold nsFind findBy at this
  unfold lookIn
  rw [hd]
  dsimp only
  simp only [← Array.find?_toList] at this
  cases q : es.toList.find? (fun x => x.key.isStr name) with
  | none => rw [q] at this; cases this
  | some en => rw [q] at this; simp at this; rw [← this]

theorem told_read {h : Heap} {g : Array GenState} {d : Drawn} {tk : Nat} {os : OsState} {x dx : Addr} {oe : Obj} {v : Value} {expr : Bool} {Q : Value → Shared → Prop} (X : (Mine.hd.heap_1 w.params).In h)
    (hx : h.get? x = some oe) (hc : oe.cls = .ref 45) (hdt : ∀ c, oe.data ≠ .cls c) (hdd : oe.dict = some dx) (hn : h.Ns dx (fun y => if y = Str.ofString "told" then some v else none)) (hh : handedIn v = true) (hq : Q v ⟨h, g, d, tk + 1, os⟩) :
    wpAny (model prog w) A (getAttr (.ref x) (Str.ofString "told") expr) Q E ⟨h, g, d, tk, os⟩ := by
  obtain ⟨od, hod, hl⟩ := lookIn_ns hn (name := Str.ofString "told") (v := v) (by first | kopn_word | simp)
  have I : InstAt h x oe 45 (some od) := ⟨hx, hc, by unfold notCls; split <;> first | rfl | exact absurd (by assumption) (hdt _), by rw [hdd]; exact hod⟩
  have Lt := I.type (M := model prog w)
  have Lga : Looks (model prog w) h (typeLookup (.ref 45) "__getattribute__") (some (.builtin "BaseException.__getattribute__")) := looks_findIn X rfl
  have Lgh : Looks (model prog w) h (typeLookup (.ref 45) "__getattr__") none := looks_findIn X rfl
  have Lis : Looks (model prog w) h (isInstance (.ref x) (.type "BaseException")) true := Lt.andThen (looks_mroIn X (r := true) (by rfl))
  have Lf : Looks (model prog w) h (find (.ref x) (.ref 45) (Str.ofString "told")) (.value v) := looks_find X I (findObj_own (K := Mine.hd.heap_1 w.params) rfl (attr := none) rfl rfl hl)
  have hx0 : (expr && onTheHeap (Value.builtin "BaseException.__getattribute__")) = false := by cases expr <;> rfl
  have hx2 : (Value.builtin "BaseException.__getattribute__" == Value.builtin "object.__getattribute__") = false := by decide +kernel
  have hx1 : (onTheHeap (Value.ref 45) && Value.builtin "BaseException.__getattribute__" == Value.builtin "object.__getattribute__") = false := by rw [hx2]; rfl
  have hk : builtinKind "BaseException.__getattribute__" = some .slot := by decide +kernel
  have hsplit : splitId "BaseException.__getattribute__" = some ("BaseException", "__getattribute__") := by decide +kernel
  have ga := PySem.F.excAttr_ValueError.ga
  unfold getAttr getAttrBy
  refine wpAny_bind (wpAny_mkText (wpAny_holding (wpAny_bind (Lt.at (wpAny_bind (Lga.at ?_))))))
  dsimp only
  rw [hx1]
  simp only [Bool.false_eq_true, if_false]
  unfold getAttrByItsOwn hookBefore
  rw [if_pos (show onTheHeap (Value.ref 45) = true from rfl)]
  refine wpAny_bind (Lgh.at ?_)
  refine wpAny_bind (wpAny_attempt (wpAny_holding ?_))
  unfold callGetattribute
  rw [hx0]
  simp only [Bool.false_eq_true, if_false]
  unfold boundAndCalled
  rw [ga.bind]
  refine wpAny_bind (wpAny_pure ?_)
  refine wpAny_call (codeAny_call_builtin ga.plain PySem.F.entry_bexc_ga (@check_slot (model prog w) _ _ _ "BaseException.__getattribute__" "BaseException" "__getattribute__" (.ref x) [.str (Str.ofString "told") tk] [] _ hk hsplit Lis (PySem.F.args_bexc_ga _ _) ?_))
  refine wpAny_bind (wpAny_pure (wpAny_bind (wpAny_pure (wpAny_bind (Lt.at (wpAny_bind (Lf.at ?_)))))))
  refine wpAny_pure ?_
  show wpAny _ _ (handedOut v) _ _ _
  rw [handedOut_of hh]; exact wpAny_pure hq
end
end
section
variable {p : Program} {loose : List Str} {mean : ExcName → Option Value} {mg mb : Str → Option Value} {prog : Program} {w : World} {dp un : Nat} {gs : Option (List Code)} {R : Result → Shared → Prop} {s : Shared} {base : Heap} {fs : List Env} {k : Nat}

theorem init_spec {e t : Addr} {v : Value} (M : Amb p loose mean mg mb w dp gs un base fs s.heap (k + 1)) (he : s.heap.get? e = some (excBare t)) (O : Off base fs [e])
    (post : ∀ dx h' tk, h'.get? e = some (excFull t dx) → s.heap.get? dx = none → dx ≠ e → h'.Ns dx (fun y => if y = Str.ofString "told" then some v else none) → Chg [e] s.heap h' → R (.ok (.ret .none)) { s with heap := h', toks := tk }) :
    codeAny (model prog w) (AA dp fs gs un) (.call (.ref 29) ⟨[.ref e, v], []⟩) R s := by
  w_on
  have XH : (Mine.hd.heap_1 w.params).In s.heap := fun a o e => M.below.stays a o (M.KI a o e)
  refine enterH M [(e, excBare t)] (by first | kopn_word | simp [he]) O ?_ (hbind := binds_K XH rfl (by k_dflt k_is) rfl rfl rfl)
  intro g L' h₁ F N B X T hg hg' hL'
  dsimp only
  k_fold
  w_strict k_steps
  refine told_store (X.keeps F.keep) (N _ (.head _)).1 fun dx h' tk' hk hx hdx hne hn _ => ?_
  refine wpAny_execs_nil ?_
  show R _ _
  refine post dx h' tk' hx ?_ hne hn.ns fun a o e n => hk a o (fun q => n (by rw [q]; exact .head _)) (hg' a o e)
  cases q : s.heap.get? dx with
  | none => rfl
  | some o => rw [hg' dx o q] at hdx; cases hdx

/-- `BadTarget(v)` made: the exception, its dict, what stood stands -/
theorem bad_made {nm : Bts} {t₀ : Tok} {E : Value → Shared → Prop} {Q : Value → Shared → Prop}
    (M : Amb p loose mean mg mb w dp gs un base fs s.heap (k + 3))
    (hq : ∀ e t dx h' tk, h'.get? e = some (excFull t dx) → s.heap.get? e = none → h'.Ns dx (fun y => if y = Str.ofString "told" then some (.bytes nm t₀) else none) → (∀ a o, s.heap.get? a = some o → h'.get? a = some o) → s.heap.get? dx = none → dx ≠ e → Q (.ref e) { s with heap := h', toks := tk }) :
    wpAny (model prog w) (AA dp fs gs un) (call (.ref 45) [.bytes nm t₀]) Q E s := by
  have XH : (Mine.hd.heap_1 w.params).In s.heap := fun a o e => M.below.stays a o (M.KI a o e)
  obtain ⟨h, g, d, tk, os⟩ := s
  refine bad_call XH ?_ (by size_fits)
  have k1 : ∀ b o, h.get? b = some o → ((h.push { cls := .type "tuple", data := .seq [Value.bytes nm t₀].toArray }).push (excBare h.objs.size)).get? b = some o := fun b o e => Heap.get?_push_of_some _ (Heap.get?_push_of_some _ e)
  have hget : ((h.push { cls := .type "tuple", data := .seq [Value.bytes nm t₀].toArray }).push (excBare h.objs.size)).get? (h.objs.size + 1) = some (excBare h.objs.size) := by heap_get
  have he : h.get? (h.objs.size + 1) = none := Heap.get?_none_of_le (Nat.le_succ _)
  have B := M.below
  have hu : (AA dp fs gs un).under (.builtin "type.__call__" ⟨.ref 45 :: [.bytes nm t₀], []⟩) = AA (dp + 1) fs gs (un + 1) := by
    unfold Around.under
    have e1 : (Code.builtin "type.__call__" ⟨.ref 45 :: [.bytes nm t₀], []⟩).weight = 1 := by rfl
    have e2 : (Code.builtin "type.__call__" ⟨.ref 45 :: [.bytes nm t₀], []⟩).guards = [] := by rfl
    have e3 : (Code.builtin "type.__call__" ⟨.ref 45 :: [.bytes nm t₀], []⟩).cUnits = 1 := by rfl
    rw [e1, e2, e3]
    rfl
  rw [hu]
  have M' : Amb p loose mean mg mb w (dp + 1) gs (un + 1) base fs ((h.push { cls := .type "tuple", data := .seq [Value.bytes nm t₀].toArray }).push (excBare h.objs.size)) (k + 2) :=
    ⟨⟨rfl, fun b o e => k1 b o (B.stays b o e), B.frames.of_keeps fun b o e _ => ⟨o, k1 b o e, rfl⟩⟩, M.KI, M.top, by have := M.dep; omega, by have := M.uni; omega⟩
  refine wpAny_call (init_spec (k := k + 1) M' hget ?_ fun dx h' tk hx hdx hne hn C => ?_)
  · intro a ha
    rw [List.mem_singleton.mp ha]
    refine ⟨none_of_base B.stays he, fun hm => ?_⟩
    obtain ⟨_, o, ho, _⟩ := B.frames.mem hm
    rw [show h.get? (h.objs.size + 1) = none from he] at ho
    cases ho
  · refine ⟨rfl, hq _ _ dx h' tk hx he hn (fun a o e => C a o (k1 a o e) fun hm => ?_) ?_ hne⟩
    · rw [List.mem_singleton.mp hm] at e
      rw [show h.get? (h.objs.size + 1) = none from he] at e
      cases e
    · cases q : h.get? dx with
      | none => rfl
      | some o => rw [k1 dx o q] at hdx; cases hdx
end
noncomputable abbrev toldNs (v : Value) : Str → Option Value := fun y => if y = Str.ofString "told" then some v else none
/-- a BadTarget with its name flies out of a call that began at h -/
noncomputable def Raised (fs : List Env) (h : Heap) (nm : Bts) (e : Addr) (h' : Heap) : Prop :=
  ∃ B dx t₀ a0, Ntd B fs e (.ref 45) a0 (some dx) .none h' ∧ B.Ns dx (toldNs (.bytes nm t₀)) ∧ (∀ a o, h.get? a = some o → a ∉ fs.filterMap (·.frame) → B.get? a = some o) ∧
    (∀ a o, h.get? a = some o → a ∈ fs.filterMap (·.frame) → ∃ sl, h'.get? a = some { o with slots := sl }) ∧ h.get? e = none

section
variable {p : Program} {loose : List Str} {mean : ExcName → Option Value} {mg mb : Str → Option Value} {prog : Program} {w : World} {dp un : Nat} {gs : Option (List Code)} {R : Result → Shared → Prop} {s : Shared} {base : Heap} {fs : List Env} {k : Nat}
  {E : Value → Shared → Prop}

theorem raise_own {A : Around} {x : Sem Value} {env : Env} {Q : Flow → Shared → Prop} (hh : A.handled = none)
    (h : wpAny (model prog w) A x (fun v s₁ => ∃ e t dx, v = .ref e ∧ (Mine.hd.heap_1 w.params).In s₁.heap ∧ s₁.heap.get? e = some (excFull t dx) ∧ E (.ref e) s₁) E s) :
    wpAny (model prog w) A (raiseStmt env (some x) none) Q E s := by
  have hcB : (Value.ref 45 :: badTail).contains (.type "BaseException") = true := by decide
  unfold raiseStmt
  refine wpAny_bind (wpAny_mono h (fun v s₁ h₁ => ?_) fun _ _ x => x)
  obtain ⟨e, t, dx, rfl, X, he, hE⟩ := h₁
  have hC := bad_cls X
  obtain ⟨hp, g, d, tk, os⟩ := s₁
  repeat (first | with_reducible refine wpAny_loadPart_at he ?_ | with_reducible refine wpAny_loadPart_at hC ?_ | (with_reducible refine wpAny_isSubtype_exc hC ?_; rw [hcB]) | wp_step)
  exact wpAny_raiseNew_none hh hE

theorem in_frames {env : Env} {L a : Addr} (hf : env.frame = some L) (hm : a ∈ (env :: fs).filterMap (·.frame)) : a = L ∨ a ∈ fs.filterMap (·.frame) := by
  rw [List.filterMap_cons, hf] at hm
  exact List.mem_cons.mp hm
theorem to_frames {env : Env} {L a : Addr} (hf : env.frame = some L) (hm : a = L ∨ a ∈ fs.filterMap (·.frame)) : a ∈ (env :: fs).filterMap (·.frame) := by
  rw [List.filterMap_cons, hf]
  exact List.mem_cons.mpr hm

theorem leave_made {M : Model} {env : Env} {L e t dx : Addr} {g h h₁ : Heap} {m : Str → Option Value} {nm : Bts} {t₀ : Tok} {Q : Unit → Shared → Prop}
    (B : Below (AA dp fs gs un) base fs g) (F : Fr g L h₁ m) (hf : env.frame = some L) (hk : env.scope.kind = .function)
    (keep : ∀ a o, h₁.get? a = some o → s.heap.get? a = some o) (he : s.heap.get? e = some (excFull t dx)) (hn : h₁.get? e = none) (hdn : h₁.get? dx = none) (hne : dx ≠ e) (ns : s.heap.Ns dx (toldNs (.bytes nm t₀)))
    (back : ∀ a o, h.get? a = some o → h₁.get? a = some o) (hL : h.get? L = none)
    (hQ : ∀ h', Raised fs h nm e h' → Q () { s with heap := h' }) : wpAny M ((AA dp fs gs un).deeper env) (leaving env (.ref e)) Q E s := by
  have K := pushX B F hf hk
  have Kf : s.heap.FunFrames base (env :: fs) := K.frames.of_keeps fun b o e _ => ⟨o, keep b o e, rfl⟩
  have inh : ∀ a ∈ (env :: fs).filterMap (·.frame), ∃ o, h₁.get? a = some o ∧ ∀ vs, o.data ≠ .fields vs := fun a ha => (K.frames.mem ha).2
  have hen : e ∉ (env :: fs).filterMap (·.frame) := fun q => by
    obtain ⟨o, ho, _⟩ := inh _ q
    rw [hn] at ho; cases ho
  have hdnf : dx ∉ (env :: fs).filterMap (·.frame) := fun q => by
    obtain ⟨o, ho, _⟩ := inh _ q
    rw [hdn] at ho; cases ho
  have hBe : (hideAll s.heap (e :: (env :: fs).filterMap (·.frame))).get? e = none := hideAll_none _ (.head _)
  have hfr : ((AA dp fs gs un).deeper env).frames = some (env :: fs) := rfl
  unfold leaving
  refine wpAny_bind (ntd_first (B := hideAll s.heap (e :: (env :: fs).filterMap (·.frame))) hfr (funFrames_hide Kf fun env' he' b hb => .tail _ (List.mem_filterMap.mpr ⟨env', he', hb⟩)) hf he (fun b o q => of_hideAll _ q) hBe rfl rfl rfl fun h₂ N₂ U₂ => ?_)
  refine ntd_lands N₂ fun h₃ N₃ U₃ => hQ h₃ ⟨_, dx, t₀, _, ntd_out N₃, ?_, fun a o ho hnf => ?_, fun a o ho hm => ?_, ?_⟩
  · obtain ⟨o, es, ep, ho, r⟩ := ns
    exact ⟨o, es, ep, hideAll_get _ ho (fun q => by rcases List.mem_cons.mp q with q | q; exact hne q; exact hdnf q), r⟩
  · refine hideAll_get _ (keep _ _ (back _ _ ho)) fun q => ?_
    rcases List.mem_cons.mp q with rfl | q
    · rw [back _ _ ho] at hn; cases hn
    · rcases in_frames hf q with rfl | q
      · rw [hL] at ho; cases ho
      · exact hnf q
  · obtain ⟨o', ho', hd'⟩ := inh a (to_frames hf (.inr hm))
    rw [back _ _ ho] at ho'
    cases ho'
    exact (U₂.trans U₃) a o (keep _ _ (back _ _ ho)) hd'
  · cases q : h.get? e with
    | none => rfl
    | some o => rw [back _ _ q] at hn; cases hn

theorem leave_passed {M : Model} {env : Env} {L e : Addr} {g h h₁ : Heap} {m : Str → Option Value} {nm : Bts} {Q : Unit → Shared → Prop}
    (B : Below (AA dp fs gs un) base fs g) (F : Fr g L h₁ m) (hf : env.frame = some L) (hk : env.scope.kind = .function) (Rz : Raised (env :: fs) h₁ nm e s.heap)
    (back : ∀ a o, h.get? a = some o → h₁.get? a = some o) (hL : h.get? L = none)
    (hQ : ∀ h', Raised fs h nm e h' → Q () { s with heap := h' }) : wpAny M ((AA dp fs gs un).deeper env) (leaving env (.ref e)) Q E s := by
  obtain ⟨B', dx, t₀, a0, N, ns, kb, kf, hn⟩ := Rz
  have K := pushX B F hf hk
  have inh : ∀ a ∈ (env :: fs).filterMap (·.frame), ∃ o, h₁.get? a = some o ∧ ∀ vs, o.data ≠ .fields vs := fun a ha => (K.frames.mem ha).2
  unfold leaving
  refine wpAny_bind (ntd_next (outer := fs) rfl hf N fun h₂ N₂ U₂ => ?_)
  refine ntd_lands N₂ fun h₃ N₃ U₃ => hQ h₃ ⟨_, dx, t₀, _, ntd_out N₃, ns, fun a o ho hnf => ?_, fun a o ho hm => ?_, ?_⟩
  · refine kb a o (back _ _ ho) fun q => ?_
    rcases in_frames hf q with rfl | q
    · rw [hL] at ho; cases ho
    · exact hnf q
  · have hm' := to_frames hf (.inr hm)
    obtain ⟨o', ho', hd'⟩ := inh a hm'
    rw [back _ _ ho] at ho'
    cases ho'
    obtain ⟨sl, hs⟩ := kf a o (back _ _ ho) hm'
    obtain ⟨sl', hs'⟩ := (U₂.trans U₃) a _ hs hd'
    exact ⟨sl', hs'⟩
  · cases q : h.get? e with
    | none => rfl
    | some o => rw [back _ _ q] at hn; cases hn
end
section
variable {p : Program} {loose : List Str} {mean : ExcName → Option Value} {mg mb : Str → Option Value} {prog : Program} {w : World} {dp un : Nat} {gs : Option (List Code)} {R : Result → Shared → Prop} {s : Shared} {base : Heap} {fs : List Env} {k : Nat}

theorem place_raise {b dx rl : Addr} {vs : List Value} {rows : List Row} {most next : Int} {nm : Bts} {tk₀ : Tok} (M : Amb p loose mean mg mb w dp gs un base fs s.heap 8) (Bu : BufAt w s.heap b dx rl vs rows most next) (O : Off base fs [b, dx, rl])
    (hi : rows.findIdx? (fun r => r.1 == nm) = none)
    (post : ∀ e h' tk, Raised fs s.heap nm e h' → R (.error (.ref e)) { s with heap := h', toks := tk }) :
    codeAny (model prog w) (AA dp fs gs un) (.call (.ref 88) ⟨[.ref b, .bytes nm tk₀], []⟩) R s := by
  obtain ⟨hb, x5, ⟨nr, hrl⟩, hrows, hsm⟩ := Bu
  refine exE5 x5 fun t1 t2 t3 tm tn hdx => ?_
  clear x5
  w_on
  refine enterH M [(b, instObj 154 dx), (dx, dictOf (bufEs w t1 t2 t3 (.int most tm) (.ref rl) (.int next tn)) 3), (rl, W.listOf vs.toArray nr)] (by first | kopn_word | simp [hb, hdx, hrl]) O ?_
  intro g L' h₁ F N B X T hg hg' hL'
  dsimp only
  k_fold
  have hrg := rows_g hg (by first | kopn_word | simp [hb, hdx, hrl]) (by first | kopn_word | simp) hrows
  have hrh := hrg.mono fun _ _ x => x.keep F.keep
  w_strict k_steps
  dsimp only
  rename Fr _ _ _ _ => F
  rename News _ _ _ _ => N
  refine enum_loop (fun _ => True) rfl (isl N (.tail _ (.tail _ (.head _)))) F N (N _ (.tail _ (.tail _ (.head _)))).2.1 trivial ?_ ?_
  · intro j v t h tk own hv _ F N
    obtain ⟨r, hr, a, x1, x2, n1, rfl, ha⟩ := pr_get (pr_flip hrg) j v hv
    have hT := TupAt.isTup ha
    simp only [List.cons_append, List.nil_append] at N
    w_strict k_steps
    · rename (_ == _) = true => heq
      exfalso
      have := (List.findIdx?_eq_none_iff.mp hi) r (List.mem_of_getElem? hr)
      rw [beq_toList] at heq
      exact absurd (heq.symm.trans this) nofun
    · refine ⟨_, _, _, rfl, F, N, fun y hy => ?_, trivial⟩
      rw [if_neg hy.2, if_neg hy.1]
  · intro h tk m₁ _ hm F N
    have hself := hm (Str.ofString "name") (by decide)
    have hname : m₁ (Str.ofString "name") = some (.bytes nm tk₀) := hself
    have F := fr_kst [(Str.ofString "name", .bytes nm tk₀)] F (by first | kopn_word | simp [hname])
    refine wpAny_execs_cons ?_
    rw [arm_exec_Raise]
    refine wpAny_bind (wpAny_standAt ?_)
    refine raise_own rfl ?_
    refine wpAny_bind ?_
    w_strict k_steps
    have hF := F
    refine bad_made (k := 4) ((M.deeper B F rfl rfl).less (by decide)) fun e t dx₂ h₂ tk₂ he hen ns kp hdn hne => ?_
    refine wpAny_bind (wpAny_standAt (wpAny_pure ⟨e, t, dx₂, rfl, fun a o q => kp a o (F.keep a o (X a o q)), he, ?_⟩))
    dsimp only
    k_unfold
    have hL : s.heap.get? L' = none := Heap.get?_none_of_le (by rw [hL']; exact Nat.le_refl _)
    have back : ∀ a o, s.heap.get? a = some o → h.get? a = some o := fun a o q => (chg_sub (Δ := []) hg (by first | kopn_word | simp [hb, hdx, hrl]) F N (by first | kopn_word | simp)) a o q (by first | kopn_word | simp)
    exact leave_made B F rfl rfl kp he hen hdn hne ns back hL fun h' Rz => post e h' _ Rz
end
section
variable {prog : Program} {w : World} {A : Around} {E : Value → Shared → Prop} {s : Shared}
theorem item_at {value slice : PySem.Expr} {l : Addr} {vs : List Value} {i : Nat} {u : Tok} {v : Value} {Q : Value → Shared → Prop} (hl : s.heap.IsList l vs.toArray) (hx : vs[i]? = some v) (hz : vs.length ≤ 1000) (h : Q v s)
    (hs : subscripted slice false (.ref l) (.int i u) = operate [.ref l, .int i u] (getItem (.ref l) (.int i u)) := by with_unfolding_all rfl) :
    wpAny (model prog w) A (subscriptTail value slice (.ref l) (.int i u)) Q E s := by
  have hlt : i < vs.length := (List.getElem?_eq_some_iff.mp hx).1
  exact tail_any hl.typeIs slot_list_getitem.lookup (wpAny_getItem_list hl (by omega) (by omega) (by simpa using hx) h) hs
end

theorem find_mem {rows : List Row} {r : Row} (hnd : (rows.map (·.1)).Nodup) (hm : r ∈ rows) : ∃ i, rows.findIdx? (fun x => x.1 == r.1) = some i ∧ rows[i]? = some r := by
  induction rows with
  | nil => cases hm
  | cons x l ih =>
    simp only [List.map_cons, List.nodup_cons] at hnd
    rcases List.mem_cons.mp hm with rfl | hm
    · exact ⟨0, by rw [List.findIdx?_cons, if_pos (by first | kopn_word | simp)], rfl⟩
    · obtain ⟨i, hi, hr⟩ := ih hnd.2 hm
      have hne : ¬ ((x.1 == r.1) = true) := fun q => hnd.1 (by rw [show x.1 = r.1 by simpa using q]; exact List.mem_map_of_mem hm)
      exact ⟨i + 1, by rw [List.findIdx?_cons, if_neg hne, hi]; rfl, by simpa using hr⟩

section
variable {p : Program} {loose : List Str} {mean : ExcName → Option Value} {mg mb : Str → Option Value} {prog : Program} {w : World} {dp un : Nat} {gs : Option (List Code)} {R : Result → Shared → Prop} {s : Shared} {base : Heap} {fs : List Env} {k : Nat}

theorem paste_some {b dx rl : Addr} {vs : List Value} {rows : List Row} {most next : Int} {nm : Bts} {tk₀ : Tok} {i : Nat} {r : Row} (M : Amb p loose mean mg mb w dp gs un base fs s.heap 10) (Bu : BufAt w s.heap b dx rl vs rows most next) (O : Off base fs [b, dx, rl])
    (hi : rows.findIdx? (fun r => r.1 == nm) = some i) (hr : rows[i]? = some r)
    (post : ∀ t h' tk, Chg [] s.heap h' → R (.ok (.ret (.bytes r.2.1 t))) { s with heap := h', toks := tk }) :
    codeAny (model prog w) (AA dp fs gs un) (.call (.ref 125) ⟨[.ref b, .bytes nm tk₀], []⟩) R s := by
  obtain ⟨hb, x5, ⟨nr, hrl⟩, hrows, hsm⟩ := Bu
  refine exE5 x5 fun t1 t2 t3 tm tn hdx => ?_
  clear x5
  w_on
  have XH : (Mine.hd.heap_1 w.params).In s.heap := fun a o e => M.below.stays a o (M.KI a o e)
  refine enterH M [(b, instObj 154 dx), (dx, dictOf (bufEs w t1 t2 t3 (.int most tm) (.ref rl) (.int next tn)) 3), (rl, W.listOf vs.toArray nr)] (by first | kopn_word | simp [hb, hdx, hrl]) O ?_ (hbind := binds_K XH rfl (by k_dflt k_is) rfl rfl rfl)
  intro g L' h₁ F N B X T hg hg' hL'
  dsimp only
  k_fold
  have hrg := rows_g hg (by first | kopn_word | simp [hb, hdx, hrl]) (by first | kopn_word | simp) hrows
  have hvl := hrows.length
  obtain ⟨v, hv, a, x1, x2, n1, rfl, ha⟩ := pr_get hrg i r hr
  w_strict k_steps
  try dsimp only [List.nil_append, List.append_nil, List.cons_append]
  refine wpAny_call (place_spec ((M.deeper B F rfl rfl).less (by decide)) (buf_news F N (.head _) (.tail _ (.head _)) (.tail _ (.tail _ (.head _))) hrg hsm) (.cons (off1 B N rfl (.head _)) (.cons (off1 B N rfl (.tail _ (.head _))) (.cons (off1 B N rfl (.tail _ (.tail _ (.head _)))) off_nil))) hi fun t₄ h₄ tk₄ C₄ => ?_)
  have F₄ := fr_chg0 F C₄
  have N₄ := news_chg0 N C₄
  have hT := TupAt.isTup (F₄.keep _ _ ha)
  clear F N
  dsimp only
  refine item_at (isl N₄ (.tail _ (.tail _ (.head _)))) hv (by omega) ?_
  w_strict k_steps
  show R _ _
  exact post _ _ _ (chg_sub hg (by first | kopn_word | simp [hb, hdx, hrl]) F₄ N₄ (by first | kopn_word | simp))

theorem paste_raise {b dx rl : Addr} {vs : List Value} {rows : List Row} {most next : Int} {nm : Bts} {tk₀ : Tok} (M : Amb p loose mean mg mb w dp gs un base fs s.heap 10) (Bu : BufAt w s.heap b dx rl vs rows most next) (O : Off base fs [b, dx, rl])
    (hi : rows.findIdx? (fun r => r.1 == nm) = none)
    (post : ∀ e h' tk, Raised fs s.heap nm e h' → R (.error (.ref e)) { s with heap := h', toks := tk }) :
    codeAny (model prog w) (AA dp fs gs un) (.call (.ref 125) ⟨[.ref b, .bytes nm tk₀], []⟩) R s := by
  obtain ⟨hb, x5, ⟨nr, hrl⟩, hrows, hsm⟩ := Bu
  refine exE5 x5 fun t1 t2 t3 tm tn hdx => ?_
  clear x5
  w_on
  have XH : (Mine.hd.heap_1 w.params).In s.heap := fun a o e => M.below.stays a o (M.KI a o e)
  refine enterH M [(b, instObj 154 dx), (dx, dictOf (bufEs w t1 t2 t3 (.int most tm) (.ref rl) (.int next tn)) 3), (rl, W.listOf vs.toArray nr)] (by first | kopn_word | simp [hb, hdx, hrl]) O ?_ (hbind := binds_K XH rfl (by k_dflt k_is) rfl rfl rfl)
  intro g L' h₁ F N B X T hg hg' hL'
  dsimp only
  k_fold
  have hrg := rows_g hg (by first | kopn_word | simp [hb, hdx, hrl]) (by first | kopn_word | simp) hrows
  w_strict k_steps
  try dsimp only [List.nil_append, List.append_nil, List.cons_append]
  have hL : s.heap.get? L' = none := Heap.get?_none_of_le (by rw [hL']; exact Nat.le_refl _)
  refine wpAny_call (place_raise ((M.deeper B F rfl rfl).less (by decide)) (buf_news F N (.head _) (.tail _ (.head _)) (.tail _ (.tail _ (.head _))) hrg hsm) (.cons (off1 B N rfl (.head _)) (.cons (off1 B N rfl (.tail _ (.head _))) (.cons (off1 B N rfl (.tail _ (.tail _ (.head _)))) off_nil))) hi fun e h₄ tk₄ Rz => ?_)
  dsimp only
  k_unfold
  exact leave_passed (s := { s with heap := h₄, toks := tk₄ }) B F rfl rfl Rz (fun a o q => hg' a o q) hL fun h' Rz => post e h' _ Rz
end
section
section
variable {p : Program} {loose : List Str} {mean : ExcName → Option Value} {mg mb : Str → Option Value} {prog : Program} {w : World} {dp un : Nat} {gs : Option (List Code)} {R : Result → Shared → Prop} {s : Shared} {base : Heap} {fs : List Env} {k : Nat}

/-- how the first three octets look -/
noncomputable def shown (oc : Bts) : Bts := ((oc.toList.take 3).map fun o => if o < 32 || o == 127 then 46 else o).toArray

/-- one octet as it looks -/
noncomputable def SeenAs (c : UInt8) (y : Value) : Prop := ∃ t, y = .int ((if c < 32 || c == 127 then (46 : UInt8) else c).toNat : Int) t
theorem seen_own {c : UInt8} {u : Tok} (h1 : 32 ≤ (c.toNat : Int)) (h2 : (c.toNat : Int) ≠ 127) : SeenAs c (.int c.toNat u) := by
  have a : ¬ c < 32 := fun h => by have := UInt8.lt_iff_toNat_lt.mp h; simp at this; omega
  have b : ¬ c = 127 := fun h => by subst h; exact h2 rfl
  exact ⟨u, by rw [if_neg (by first | kopn_word | simp [a, b])]⟩
theorem seen_low {c : UInt8} {t : Tok} (h : (c.toNat : Int) < 32) : SeenAs c (.int 46 t) := by
  have a : c < 32 := UInt8.lt_iff_toNat_lt.mpr (by simp; omega)
  exact ⟨t, by rw [if_pos (by first | kopn_word | simp [a])]; rfl⟩
theorem seen_del {c : UInt8} {t : Tok} (h : (c.toNat : Int) = 127) : SeenAs c (.int 46 t) := by
  have a : c = 127 := UInt8.toNat_inj.mp (by simp; omega)
  exact ⟨t, by rw [if_pos (by first | kopn_word | simp [a])]; rfl⟩
theorem picked3 (b : Bts) : KBy.picked b none (some 3) = (b.toList.take 3).toArray := by
  rw [KBc.picked_eq]
  simp only [Option.elim, List.drop_zero, Nat.sub_zero]
  rw [show clipAt (Array.size b) 3 = min 3 (Array.size b) from clipAt_nat _ 3]
  rw [show List.take (min 3 b.size) b.toList = List.take 3 b.toList by
    rcases Nat.le_total 3 b.size with h | h
    · rw [Nat.min_eq_left h]
    · rw [Nat.min_eq_right h, List.take_of_length_le (by first | kopn_word | simp), List.take_of_length_le (by simpa using h)]]
theorem seen_ints {l : List UInt8} {ys : List Value} (P : Paired SeenAs l ys) : IntsAre ys (l.map fun c => ((if c < 32 || c == 127 then (46 : UInt8) else c).toNat : Int)) := by
  induction P with
  | nil => exact .nil
  | cons h _ ih =>
    obtain ⟨t, rfl⟩ := h
    exact .cons _ t ih
theorem seen_arr (l : List UInt8) : byteArr (l.map fun c => ((if c < 32 || c == 127 then (46 : UInt8) else c).toNat : Int)) = (l.map fun c => if c < 32 || c == 127 then (46 : UInt8) else c).toArray := by
  unfold byteArr
  rw [List.map_map]
  congr 1
  refine List.map_congr_left fun c _ => ?_
  simp
theorem seen_in {l : List UInt8} : ∀ n ∈ l.map fun c => ((if c < 32 || c == 127 then (46 : UInt8) else c).toNat : Int), 0 ≤ n ∧ n < 256 := fun n hn => by
  obtain ⟨c, _, rfl⟩ := List.mem_map.mp hn
  have := UInt8.toNat_lt (if c < 32 || c == 127 then (46 : UInt8) else c)
  omega
local macro_rules | `(tactic| walk_at "eval ListComp") => `(tactic| (k_here; (with_unfolding_all refine' LCB ?a1 ?a2 ?a3 ?a4 ?a5 ?a6 ?a7 ?_; (case a1 => rfl); (case a2 => rfl); (case a3 => decide); (case a4 => rfl); (case a5 => decide); (case a6 => rfl); (case a7 => intro _; rfl))))
theorem sample_some {b dx rl : Addr} {vs : List Value} {rows : List Row} {most next : Int} {nm : Bts} {tk₀ tk₃ : Tok} {i : Nat} {r : Row} (M : Amb p loose mean mg mb w dp gs un base fs s.heap 10) (Bu : BufAt w s.heap b dx rl vs rows most next) (O : Off base fs [b, dx, rl])
    (hi : rows.findIdx? (fun r => r.1 == nm) = some i) (hr : rows[i]? = some r) (hsz : r.2.1.size ≤ 1000)
    (post : ∀ t h' tk, Chg [] s.heap h' → R (.ok (.ret (.bytes (shown r.2.1) t))) { s with heap := h', toks := tk }) :
    codeAny (model prog w) (AA dp fs gs un) (.call (.ref 151) ⟨[.ref b, .bytes nm tk₀, .int 3 tk₃], []⟩) R s := by
  obtain ⟨hb, x5, ⟨nr, hrl⟩, hrows, hsm⟩ := Bu
  refine exE5 x5 fun t1 t2 t3 tm tn hdx => ?_
  clear x5
  w_on
  refine enterH M [(b, instObj 154 dx), (dx, dictOf (bufEs w t1 t2 t3 (.int most tm) (.ref rl) (.int next tn)) 3), (rl, W.listOf vs.toArray nr)] (by first | kopn_word | simp [hb, hdx, hrl]) O ?_
  intro g L' h₁ F N B X T hg hg' hL'
  dsimp only
  k_fold
  have hrg := rows_g hg (by first | kopn_word | simp [hb, hdx, hrl]) (by first | kopn_word | simp) hrows
  have hvl := hrows.length
  obtain ⟨v, hv, a, x1, x2, n1, rfl, ha⟩ := pr_get hrg i r hr
  w_strict k_steps
  try dsimp only [List.nil_append, List.append_nil, List.cons_append]
  refine wpAny_call (place_spec ((M.deeper B F rfl rfl).less (by decide)) (buf_news F N (by k_mem) (by k_mem) (by k_mem) hrg hsm) (.cons (off1 B N rfl (by k_mem)) (.cons (off1 B N rfl (by k_mem)) (.cons (off1 B N rfl (by k_mem)) off_nil))) hi fun t₄ h₄ tk₄ C₄ => ?_)
  have F₄ := fr_chg0 F C₄
  have N₄ := news_chg0 N C₄
  have hT := TupAt.isTup (F₄.keep _ _ ha)
  clear F N
  try dsimp only
  refine item_at (isl N₄ (by k_mem)) hv (by omega) ?_
  w_strict k_steps
  have F := F₄
  have N := N₄
  clear F₄ N₄
  refine wpAny_call (clamp_spec ((M.deeper B F rfl rfl).less (by decide)) fun t₅ h₅ tk₅ C₅ => ?_)
  have F₅ := fr_chg0 F C₅
  have N₅ := news_chg0 N C₅
  clear F N
  try dsimp only
  w_strict k_steps
  refine KBc.slice_K (s := ⟨_, _, _, _, _⟩) (ks := KBw.bInts r.2.1) (lo := none) (hi := some 3) F₅ N₅ rfl (by constructor) (by constructor) (by rw [KBw.ints_length]; omega) ?_
  intro h₆ t₆ tk₆ F₆ N₆ _
  rw [picked3]
  clear F₅ N₅
  w_strict k_steps
  rename Fr _ _ _ _ => F
  rename News _ _ _ _ => N
  refine ⟨SeenAs, _, _, rfl, by simp; omega, ?_, ?_⟩
  · intro C c u s₃ m₃ E' hn hm hk
    w_strict k_steps
    all_goals first | exact ⟨_, _, rfl, fun _ _ e => e⟩ | exact seen_own (by omega) (by omega) | exact seen_low (by omega) | exact seen_del (by omega)
  · intro D h' tk' ys n' hD hDn hF hk
    have F' := F.keeps hk
    have N' := news_more N hk hDn hD F
    clear F N
    w_strict k_steps
    have P : Paired SeenAs (r.2.1.toList.take 3) ys := by simpa using hF
    have hC : Chg [] s.heap h' := chg_sub hg (by first | kopn_word | simp [hb, hdx, hrl]) F' N' (by first | kopn_word | simp)
    refine call_bytes_ints (isl_at hDn) (seen_ints P) seen_in (by have := P.length; rw [sizeLine_eq]; simp at this; omega) rfl fun h₇ t₇ k₇ hk₇ => ?_
    try dsimp only
    k_unfold
    rw [seen_arr]
    exact post _ _ _ (hC.trans fun a o e _ => hk₇ a o e)

end
end
local macro_rules | `(tactic| walk_at "exec Assign cons ListComp") => `(tactic| walk_at "exec Assign")
local macro_rules | `(tactic| walk_at "eval ListComp") => `(tactic| (k_here; (with_unfolding_all refine' LC ?a1 ?a2 ?a3 ?a4 ?a5 ?a6 ?a7 ?_; (case a1 => rfl); (case a2 => rfl); (case a3 => decide); (case a4 => rfl); (case a5 => decide); (case a6 => rfl); (case a7 => intro _; rfl))))
section
variable {p : Program} {loose : List Str} {mean : ExcName → Option Value} {mg mb : Str → Option Value} {prog : Program} {w : World} {dp un : Nat} {gs : Option (List Code)} {R : Result → Shared → Prop} {s : Shared} {base : Heap} {fs : List Env} {k : Nat}


noncomputable def RowObj (o : Obj) : Prop := ∃ x t y z n, o = W.listOf #[.bytes x t, y, z] n
theorem rowObj_dict {K : Type} [DecidableEq K] {knd : KeyKind prog w K} {od : Obj} {kvs : List (K × Value)} (D : od.IsDictOf knd kvs) : ¬ RowObj od := by
  rintro ⟨x, t, y, z, n, rfl⟩
  obtain ⟨es, ep, _, h2, _⟩ := D
  cases h2
theorem rowObj_list {vs : List Value} {n : Nat} (h : ∀ v ∈ vs, ∀ x t, v ≠ .bytes x t) : ¬ RowObj (W.listOf vs.toArray n) := by
  rintro ⟨x, t, y, z, n', e⟩
  injection e with _ _ h3 _
  injection h3 with h4 _
  have h2 : vs = [.bytes x t, y, z] := by simpa using congrArg Array.toList h4
  exact h (.bytes x t) (by rw [h2]; exact .head _) x t rfl
theorem lrows_at {g h : Heap} {cells : List Addr} {vs : List Value} {rows : List Row} (hg : ∀ a o, h.get? a = some o → a ∉ cells → g.get? a = some o) (hc : ∀ a ∈ cells, ∀ o, h.get? a = some o → ¬ RowObj o) (P : Paired (LRow h) vs rows) : Paired (LRow g) vs rows :=
  P.mono fun _ _ ⟨a, t1, t2, m, e, ha⟩ => ⟨a, t1, t2, m, e, hg _ _ ha fun hm => hc a hm _ ha ⟨_, _, _, _, _, rfl⟩⟩
theorem lrows_noBytes {h : Heap} {vs : List Value} {rows : List Row} (P : Paired (LRow h) vs rows) : ∀ v ∈ vs, ∀ x t, v ≠ .bytes x t := fun v hv x t e => by
  obtain ⟨r, _, a, _, _, _, rfl, _⟩ := pr_mem P v hv
  cases e
theorem ints_noBytes {vs : List Value} {ns : List Int} (P : IntsAre vs ns) : ∀ v ∈ vs, ∀ x t, v ≠ .bytes x t := fun v hv x t e => by
  induction P with
  | nil => cases hv
  | cons i u _ ih =>
    rcases List.mem_cons.mp hv with rfl | hv
    · cases e
    · exact ih hv
theorem DeckAt.apart {h : Heap} {d l : Addr} (D : DeckAt prog w h d l) : ∃ od li, h.get? d = some od ∧ h.get? l = some li ∧ (∀ h' : Heap, h'.get? d = some od → h'.get? l = some li → DeckAt prog w h' d l) ∧ @Ne Nat d l ∧ ¬ RowObj od ∧ ¬ RowObj li := by
  obtain ⟨od, vs, ns, mx, n, t, hd1, hd2, hl1, hi, lo, hns, hlen, hmx⟩ := D
  exact ⟨od, _, hd1, hl1, fun h' e1 e2 => ⟨od, vs, ns, mx, n, t, e1, hd2, e2, hi, lo, hns, hlen, hmx⟩, dict_ne_list hd1 hd2 hl1, rowObj_dict hd2, rowObj_list (ints_noBytes hi)⟩
noncomputable def menuO : List Bts := [#[120], #[], #[97, 98, 1, 99], #[127, 233, 10], #[121, 121, 32, 121], #[120]]
theorem octets_spec {d l : Addr} (M : Amb p loose mean mg mb w dp gs un base fs s.heap 10) (D : DeckAt prog w s.heap d l) (O : Off base fs [d, l])
    (post : ∀ oc t h' tk, oc ∈ menuO → DeckAt prog w h' d l → Chg [d, l] s.heap h' → R (.ok (.ret (.bytes oc t))) { s with heap := h', toks := tk }) :
    codeAny (model prog w) (AA dp fs gs un) (.call (.ref 177) ⟨[.ref d], []⟩) R s := by
  w_on
  obtain ⟨od, li, e1, e2, ek', hne, _, _⟩ := D.apart
  refine enterH M [(d, od), (l, li)] (by first | kopn_word | simp [e1, e2]) O ?_
  intro g L' h₁ F N B X T hg hg' hL'
  dsimp only
  k_fold
  w_strict k_steps
  rename Fr _ _ _ _ => F
  rename News _ _ _ _ => N
  rename _ ∧ _ => l1
  rename Addr => A'
  have C₀ : Chg [d, l] s.heap _ := chg_sub hg (by first | kopn_word | simp [e1, e2]) F N (by first | kopn_word | simp)
  refine wpAny_call (draw_spec (k := 0) ((M.deeper B F rfl rfl).less (by decide)) (ek' _ (N (d, _) (by k_mem)).1 (N (l, _) (by k_mem)).1) (.cons (off1 B N rfl (by k_mem : (d, _) ∈ _)) (.cons (off1 B N rfl (by k_mem : (l, _) ∈ _)) off_nil)) (by decide) (by decide) fun v t h₂ tk₂ hv0 hv6 D₂ C₂ => ?_)
  have hA := C₂ _ _ (N (A', _) (.head _)).1 (by
    simp only [List.mem_cons, List.not_mem_nil, or_false, not_or]
    exact ⟨fun q => absurd l1.1 (q ▸ Nat.lt_irrefl _), fun q => absurd l1.2 (q ▸ Nat.lt_irrefl _)⟩)
  try dsimp only
  obtain ⟨i, rfl⟩ := Int.eq_ofNat_of_zero_le hv0
  have hi : i = 0 ∨ i = 1 ∨ i = 2 ∨ i = 3 ∨ i = 4 ∨ i = 5 := by omega
  have C₃ := C₀.trans C₂
  rcases hi with rfl | rfl | rfl | rfl | rfl | rfl <;>
    (refine item_at (isl_at hA) rfl (by first | kopn_word | simp) ?_
     show R _ _
     exact post _ _ _ _ (by decide) D₂ C₃)

noncomputable def titles (rows : List Row) : List Bts := rows.map (·.1) ++ [#[97], #[98, 117, 102, 102, 101, 114, 48], #[98, 117, 102, 102, 101, 114, 50], #[98]]
theorem add_at {A : Around} {E : Value → Shared → Prop} {g : Heap} {L : Addr} {m : Str → Option Value} {news : List (Addr × Obj)} {a b : Addr} {us ws : List Value} {Q : Value → Shared → Prop} (F : Fr g L s.heap m) (N : News g L s.heap news) (ha : s.heap.IsList a us.toArray) (hb : s.heap.IsList b ws.toArray) (hz : us.length + ws.length ≤ 1000)
    (h : ∀ D h', Fr g L h' m → News g L h' ((D, W.listOf (us ++ ws).toArray 0) :: news) → (∀ q ∈ news, q.1 < D) → Q (.ref D) { s with heap := h' }) : wpAny (model prog w) A (binaryOp .Add (.ref a) (.ref b)) Q E s :=
  add_lists (vs := us) (ws := ws) (hsz := by rw [sizeLine_eq]; omega) F N ha hb fun h' F' N' => h _ h' F' N' fun q hq => Heap.lt_size (N q hq).1
theorem pr_at {α β : Type} {F : α → β → Prop} {l₁ : List α} {l₂ : List β} (x : Paired F l₁ l₂) : ∀ i, i < l₁.length → ∃ a b, l₁[i]? = some a ∧ b ∈ l₂ ∧ F a b := by
  induction x with
  | nil => exact fun i h => absurd h (Nat.not_lt_zero _)
  | cons h t ih =>
    intro i hi
    cases i with
    | zero => exact ⟨_, _, rfl, .head _, h⟩
    | succ i =>
      obtain ⟨a, b, h1, h2, h3⟩ := ih i (Nat.lt_of_succ_lt_succ hi)
      exact ⟨a, b, by simpa using h1, .tail _ h2, h3⟩
theorem pr_names {g : Heap} {vs ys : List Value} {rows : List Row} (x : Paired (fun v y => ∃ r t t', LRow g v r ∧ y = .bytes r.1 t ∧ t = t') vs ys) : Paired (LRow g) vs rows → Paired (fun v r => ∃ t, v = .bytes r t) ys (rows.map (·.1)) := by
  induction x generalizing rows with
  | nil => intro q; cases q; exact .nil
  | cons h p ih =>
    intro q
    cases q with
    | cons h' q =>
      obtain ⟨r, t, _, ⟨a, y1, y2, n, e, ha⟩, e', _⟩ := h
      obtain ⟨a', y1', y2', n', e2, ha'⟩ := h'
      subst e e'
      cases e2
      rw [ha] at ha'
      injection ha' with h0
      injection h0 with _ _ h3 _
      injection h3 with h4 _
      have h5 := congrArg Array.toList h4
      simp at h5
      rw [List.map_cons, ← h5.1.1]
      exact .cons ⟨_, rfl⟩ (ih q)
theorem title_spec {d l dv lv : Addr} {vs : List Value} {rows : List Row} {most next : Int} (M : Amb p loose mean mg mb w dp gs un base fs s.heap 10) (D : DeckAt prog w s.heap d l) (V : VAt prog w s.heap dv lv vs rows most next) (O : Off base fs [d, l, dv, lv]) (hlt : rows.length ≤ 900)
    (post : ∀ nm t h' tk, nm ∈ titles rows → DeckAt prog w h' d l → Chg [d, l] s.heap h' → R (.ok (.ret (.bytes nm t))) { s with heap := h', toks := tk }) :
    codeAny (model prog w) (AA dp fs gs un) (.call (.ref 182) ⟨[.ref d, .ref dv], []⟩) R s := by
  obtain ⟨⟨od, tm, tn, hd1, hd2⟩, ⟨n, hl1⟩, hrows, lo, hsm⟩ := V
  have hne := dict_ne_list hd1 hd2 hl1
  w_on
  obtain ⟨odk, lik, e1, e2, edk, hned, hr1, hr2⟩ := D.apart
  refine enterH M [(d, odk), (l, lik), (dv, od), (lv, W.listOf vs.toArray n)] (by first | kopn_word | simp [hd1, hl1, e1, e2]) O ?_
  intro g L' h₁ F N B X T hg hg' hL'
  dsimp only
  k_fold
  have hrg : Paired (LRow g) vs rows := lrows_at hg (fun a ha o ho => by
    simp only [List.map_cons, List.map_nil, List.mem_cons, List.not_mem_nil, or_false] at ha
    rcases ha with rfl | rfl | rfl | rfl
    · rw [e1] at ho; cases ho; exact hr1
    · rw [e2] at ho; cases ho; exact hr2
    · rw [hd1] at ho; cases ho; exact rowObj_dict hd2
    · rw [hl1] at ho; cases ho; exact rowObj_list (lrows_noBytes hrows)) hrows
  w_strict k_steps
  rename Fr _ _ _ _ => F
  rename News _ _ _ _ => N
  refine ⟨fun _ => true, fun v y => ∃ r t t', LRow g v r ∧ y = .bytes r.1 t ∧ t = t', lv, vs, rfl, isl N (by k_mem), by have := hrows.length; omega, ?_, ?_, ?_⟩
  · intro C v s₃ m₃ E' _ _ _ _
    exact tests0 ⟨rfl, _, _, rfl, fun _ _ e => e⟩
  · intro C v s₃ m₃ E' hvm _ hn hm hk
    obtain ⟨q, hq, hTq⟩ := pr_mem hrg v hvm
    obtain ⟨a', y1, y2, n', rfl, ha'⟩ := hTq
    have ha₃ := hk _ _ (F.keep _ _ ha')
    refine ev_row rfl rfl hn hm (.inr (LRow.isList ha₃)) (by decide) (by decide) rfl fun tk => ?_
    exact ⟨⟨q, _, _, ⟨a', y1, y2, n', rfl, ha'⟩, rfl, rfl⟩, _, _, rfl, fun _ _ e => e⟩
  · intro D' h' tk' ys n' hD hDn hF hk
    rw [List.filter_eq_self.mpr (fun _ _ => rfl)] at hF
    have hPn : Paired (fun v r => ∃ t, v = .bytes r t) ys (rows.map (·.1)) := pr_names hF hrg
    clear hF
    have F' := F.keeps hk
    have N' := news_more N hk hDn hD F
    clear F N
    w_strict k_steps
    rename Fr _ _ _ _ => F
    rename News _ _ _ _ => N
    refine add_at F N (isl N (.tail _ (.head _))) (isl N (.head _)) (by have := hPn.length; simp at this ⊢; omega) fun T' h₅ F₅ N₅ lT => ?_
    clear F N
    try dsimp only
    w_strict k_steps
    rename Fr _ _ _ _ => F
    rename News _ _ _ _ => N
    have hly : ys.length ≤ 900 := by have := hPn.length; simp at this; omega
    refine len_list (isl N (by k_mem)) (by simp; omega) ?_
    try dsimp only
    w_strict k_steps
    have lT' : @Ne Nat T' d ∧ @Ne Nat T' l := ⟨Nat.ne_of_gt (lT _ (by k_mem : (d, odk) ∈ _)), Nat.ne_of_gt (lT _ (by k_mem : (l, lik) ∈ _))⟩
    have C₀ : Chg [d, l] s.heap _ := chg_sub hg (by first | kopn_word | simp [hd1, hl1, e1, e2]) F N (by first | kopn_word | simp)
    refine wpAny_call (draw_spec (k := 0) ((M.deeper B F rfl rfl).less (by decide)) (edk _ (N (d, _) (by k_mem)).1 (N (l, _) (by k_mem)).1) (.cons (off1 B N rfl (by k_mem : (d, _) ∈ _)) (.cons (off1 B N rfl (by k_mem : (l, _) ∈ _)) off_nil)) (by simp; omega) (by simp; omega) fun v t h₂ tk₂ hv0 hv6 D₂ C₂ => ?_)
    have hA := C₂ _ _ (N (T', _) (.head _)).1 (by
      simp only [List.mem_cons, List.not_mem_nil, or_false, not_or]
      exact lT')
    try dsimp only
    obtain ⟨i, rfl⟩ := Int.eq_ofNat_of_zero_le hv0
    have C₃ := C₀.trans C₂
    obtain ⟨x, nm, hx, hnm, tx, rfl⟩ := pr_at (i := i) (pr_app hPn (b' := [#[97], #[98, 117, 102, 102, 101, 114, 48], #[98, 117, 102, 102, 101, 114, 50], #[98]]) (.cons ⟨_, rfl⟩ (.cons ⟨_, rfl⟩ (.cons ⟨_, rfl⟩ (.cons ⟨_, rfl⟩ .nil))))) (by simp at hv6 ⊢; omega)
    refine item_at (isl_at hA) hx (by simp; omega) ?_
    show R _ _
    exact post _ _ _ _ hnm D₂ C₃
end
section
variable {p : Program} {loose : List Str} {mean : ExcName → Option Value} {mg mb : Str → Option Value} {prog : Program} {w : World} {dp un : Nat} {gs : Option (List Code)} {R : Result → Shared → Prop} {s : Shared} {base : Heap} {fs : List Env} {k : Nat}

theorem set_empty {b dx rl : Addr} {vs : List Value} {rows : List Row} {most next : Int} {nv : Value} {to : Tok} (M : Amb p loose mean mg mb w dp gs un base fs s.heap 15) (Bu : BufAt w s.heap b dx rl vs rows most next) (O : Off base fs [b, dx, rl])
    (post : ∀ h' tk, Chg [] s.heap h' → R (.ok (.ret .none)) { s with heap := h', toks := tk }) :
    codeAny (model prog w) (AA dp fs gs un) (.call (.ref 103) ⟨[.ref b, .bytes #[] to, nv], []⟩) R s := by
  obtain ⟨hb, x5, ⟨nr, hrl⟩, hrows, hsm⟩ := Bu
  refine exE5 x5 fun t1 t2 t3 tm tn hdx => ?_
  clear x5
  w_on
  have XH : (Mine.hd.heap_1 w.params).In s.heap := fun a o e => M.below.stays a o (M.KI a o e)
  refine enterH M [] (by first | kopn_word | simp) off_nil ?_ (hbind := binds_K XH rfl (by k_dflt k_is) rfl rfl rfl)
  intro g L' h₁ F N B X T hg hg' hL'
  dsimp only
  k_fold
  w_strict k_steps
  show R _ _
  exact post _ _ (chg_sub hg (by first | kopn_word | simp) (by assumption) (by assumption) (by first | kopn_word | simp))

theorem news_buf {w : World} {g h h' : Heap} {L b dx rl : Addr} {vs : List Value} {most next most' next' : Int} {t1 t2 t3 tm tn t1' t2' t3' tm' tn' : Tok} {nr nr' : Nat} {news : List (Addr × Obj)} (N : News g L h news)
    (m1 : (b, instObj 154 dx) ∈ news) (m2 : (dx, dictOf (bufEs w t1 t2 t3 (.int most tm) (.ref rl) (.int next tn)) 3) ∈ news) (m3 : (rl, W.listOf vs.toArray nr) ∈ news)
    (e1 : h'.get? b = some (instObj 154 dx)) (e2 : h'.get? dx = some (dictOf (bufEs w t1' t2' t3' (.int most' tm') (.ref rl) (.int next' tn')) 3)) (e3 : h'.get? rl = some (W.listOf vs.toArray nr')) :
    News g L h' [(b, instObj 154 dx), (dx, dictOf (bufEs w t1' t2' t3' (.int most' tm') (.ref rl) (.int next' tn')) 3), (rl, W.listOf vs.toArray nr')] := fun q hq => by
  simp only [List.mem_cons, List.not_mem_nil, or_false] at hq
  rcases hq with rfl | rfl | rfl
  · exact ⟨e1, (N _ m1).2⟩
  · exact ⟨e2, (N _ m2).2⟩
  · exact ⟨e3, (N _ m3).2⟩

theorem set_none {b dx rl : Addr} {vs : List Value} {rows : List Row} {most next : Int} {oc : Bts} {to : Tok} {j : Nat} (M : Amb p loose mean mg mb w dp gs un base fs s.heap 15) (Bu : BufAt w s.heap b dx rl vs rows most next) (O : Off base fs [b, dx, rl])
    (hoc : oc ≠ #[]) (hf : Fresh rows next j) (hlt : rows.length ≤ 900)
    (post : ∀ t h' tk rl' vs', BufAt w h' b dx rl' vs' (setOut rows most next oc none j).1 most (next + j + 1) → s.heap.get? rl' = none → Chg [dx, rl] s.heap h' → R (.ok (.ret (.bytes (bufName (next + j)) t))) { s with heap := h', toks := tk }) :
    codeAny (model prog w) (AA dp fs gs un) (.call (.ref 103) ⟨[.ref b, .bytes oc to, .none], []⟩) R s := by
  obtain ⟨hb, x5, ⟨nr, hrl⟩, hrows, hsm⟩ := Bu
  refine exE5 x5 fun t1 t2 t3 tm tn hdx => ?_
  clear x5
  have q1 := ne_get hdx hb nofun
  have q2 := ne_get hdx hrl (by first | kopn_word | simp)
  have q3 := ne_get hrl hb nofun
  have hocl : (oc.toList == []) = false := by
    rw [beq_eq_false_iff_ne]
    exact fun e => hoc (Array.toList_inj.mp e)
  w_on
  have XH : (Mine.hd.heap_1 w.params).In s.heap := fun a o e => M.below.stays a o (M.KI a o e)
  refine enterH M [(b, instObj 154 dx), (dx, dictOf (bufEs w t1 t2 t3 (.int most tm) (.ref rl) (.int next tn)) 3), (rl, W.listOf vs.toArray nr)] (by first | kopn_word | simp [hb, hdx, hrl]) O ?_ (hbind := binds_K XH rfl (by k_dflt k_is) rfl rfl rfl)
  intro g L' h₁ F N B X T hg hg' hL'
  dsimp only
  k_fold
  have hrg := rows_g hg (by first | kopn_word | simp [hb, hdx, hrl]) (by first | kopn_word | simp) hrows
  w_strict k_steps
  dsimp only [List.nil_append, List.append_nil]
  rename Fr _ _ _ _ => F
  rename News _ _ _ _ => N
  have Ck : Chg [dx, rl] s.heap _ := chg_sub hg (by first | kopn_word | simp [hb, hdx, hrl]) F N (by first | kopn_word | simp)
  refine wpAny_call (fresh_spec ((M.deeper B F rfl rfl).less (by decide)) (buf_news F N (.head _) (.tail _ (.head _)) (.tail _ (.tail _ (.head _))) hrg hsm) (.cons (off1 B N rfl (.head _)) (.cons (off1 B N rfl (.tail _ (.head _))) (.cons (off1 B N rfl (.tail _ (.tail _ (.head _)))) off_nil))) hf.hin hf.hout hf.h0 hf.h9 fun t₂ h₂ tk₂ Bu₂ C₂ => ?_)
  obtain ⟨hb₂, ⟨t1₂, t2₂, t3₂, tm₂, tn₂, hdx₂⟩, ⟨nr₂, hrl₂⟩, hrows₂, _⟩ := Bu₂
  have F₂ := fr_chg F C₂ (off_fr1 N (.tail _ (.head _)))
  have N₂ := news_buf N (.head _) (.tail _ (.head _)) (.tail _ (.tail _ (.head _))) hb₂ hdx₂ hrl₂
  have hh := hf.hout
  have C₀ := Ck.trans (C₂.mono (by first | kopn_word | simp))
  clear F N
  dsimp only
  w_strict k_steps
  dsimp only [List.nil_append, List.append_nil]
  rename Fr _ _ _ _ => F
  rename News _ _ _ _ => N
  refine wpAny_call (names_spec ((M.deeper B F rfl rfl).less (by decide)) (buf_news F N (.head _) (.tail _ (.head _)) (.tail _ (.tail _ (.head _))) hrg hsm) (.cons (off1 B N rfl (.head _)) (.cons (off1 B N rfl (.tail _ (.head _))) (.cons (off1 B N rfl (.tail _ (.tail _ (.head _)))) off_nil))) fun D us nD h₃ tk₃ hD hDn P C₃ => ?_)
  have F₃ := fr_chg0 F C₃
  have N₃ := news_chg0 N C₃
  clear F N
  dsimp only
  refine in_names P (isl_at hDn) ?_
  w_strict k_steps
  have er := filter_none hh
  refine call_bytes_bytes ?_
  w_strict k_steps
  dsimp only [List.cons_append, List.nil_append]
  rename Fr _ _ _ _ => F
  rename News _ _ _ _ => N
  have hvl := hrows.length
  refine insert_0 F N (by k_upd) (by omega) fun h₆ F₆ N₆ => ?_
  clear F N
  w_strict k_steps
  dsimp only [List.nil_append, List.append_nil]
  refine wpAny_call (trim_spec ((M.deeper B F₆ rfl rfl).less (by decide)) (rows := (bufName (next + j), oc, true) :: rows.filter (fun r => r.1 != bufName (next + j))) (buf_at N₆ (.tail _ (.head _)) (.tail _ (.tail _ (.head _))) (.tail _ (.tail _ (.tail _ (.head _)))) (.cons (tup_news N₆ (.head _)) (by rw [er]; exact hrg.mono fun _ _ x => x.keep F₆.keep)) (by have := List.length_filter_le (fun r : Row => r.1 != bufName (next + j)) rows; simp only [List.length_cons]; omega))
    (.cons (off1 B N₆ rfl (.tail _ (.head _))) (.cons (off1 B N₆ rfl (.tail _ (.tail _ (.head _)))) (.cons (off1 B N₆ rfl (.tail _ (.tail _ (.tail _ (.head _))))) off_nil))) fun h₇ tk₇ rl' vs' Bu' hrl' C₇ => ?_)
  have F₇ := fr_chg F₆ C₇ (off_fr1 N₆ (.tail _ (.tail _ (.head _))))
  have N₇ : News g L' h₇ [] := fun _ h => nomatch h
  have C₆ : Chg [dx, rl] s.heap h₆ := chg_sub hg (by first | kopn_word | simp [hb, hdx, hrl]) F₆ N₆ (by first | kopn_word | simp)
  have fr : s.heap.get? rl' = none := fresh_back C₆ (by intro a ha; simp only [List.mem_cons, List.not_mem_nil, or_false] at ha; rcases ha with rfl | rfl; exact ⟨_, (N₆ _ (.tail _ (.tail _ (.head _)))).1⟩; exact ⟨_, (N₆ _ (.tail _ (.tail _ (.tail _ (.head _))))).1⟩) hrl'
  clear F₆ N₆
  dsimp only
  w_strict k_steps
  show R _ _
  refine post _ _ _ rl' vs' ?_ fr (C₆.trans (C₇.mono (by first | kopn_word | simp)))
  unfold setOut
  rw [if_neg hoc]
  exact Bu'
end
section
theorem newest_find {rows : List Row} {o : Option Bts} (h : newestOf rows = o) (hnd : (rows.map (·.1)).Nodup) : match o with
    | none => rows.find? (·.2.2) = none
    | some nm => ∃ i r, rows.find? (·.2.2) = some r ∧ r.1 = nm ∧ rows.findIdx? (fun x => x.1 == nm) = some i ∧ rows[i]? = some r := by
  unfold newestOf at h
  cases o with
  | none => simpa using h
  | some nm =>
    obtain ⟨r, hr, rfl⟩ := Option.map_eq_some_iff.mp h
    obtain ⟨i, hi, hr'⟩ := find_mem hnd (List.mem_of_find?_eq_some hr)
    exact ⟨i, r, hr, rfl, hi, hr'⟩
section
variable {p : Program} {loose : List Str} {mean : ExcName → Option Value} {mg mb : Str → Option Value} {prog : Program} {w : World} {dp un : Nat} {gs : Option (List Code)} {R : Result → Shared → Prop} {s : Shared} {base : Heap} {fs : List Env} {k : Nat}

theorem paste_none {b dx rl : Addr} {vs : List Value} {rows : List Row} {most next : Int} (M : Amb p loose mean mg mb w dp gs un base fs s.heap 10) (Bu : BufAt w s.heap b dx rl vs rows most next) (O : Off base fs [b, dx, rl])
    (hnd : (rows.map (·.1)).Nodup)
    (post : ∀ v h' tk, optV ((rows.find? (·.2.2)).map (·.2.1)) v → Chg [] s.heap h' → R (.ok (.ret v)) { s with heap := h', toks := tk }) :
    codeAny (model prog w) (AA dp fs gs un) (.call (.ref 125) ⟨[.ref b, .none], []⟩) R s := by
  obtain ⟨hb, x5, ⟨nr, hrl⟩, hrows, hsm⟩ := Bu
  refine exE5 x5 fun t1 t2 t3 tm tn hdx => ?_
  clear x5
  w_on
  have XH : (Mine.hd.heap_1 w.params).In s.heap := fun a o e => M.below.stays a o (M.KI a o e)
  refine enterH M [(b, instObj 154 dx), (dx, dictOf (bufEs w t1 t2 t3 (.int most tm) (.ref rl) (.int next tn)) 3), (rl, W.listOf vs.toArray nr)] (by first | kopn_word | simp [hb, hdx, hrl]) O ?_ (hbind := binds_K XH rfl (by k_dflt k_is) rfl rfl rfl)
  intro g L' h₁ F N B X T hg hg' hL'
  dsimp only
  k_fold
  have hrg := rows_g hg (by first | kopn_word | simp [hb, hdx, hrl]) (by first | kopn_word | simp) hrows
  have hvl := hrows.length
  w_strict k_steps
  try dsimp only [List.nil_append, List.append_nil, List.cons_append]
  refine wpAny_call (newest_spec ((M.deeper B F rfl rfl).less (by decide)) (buf_news F N (.head _) (.tail _ (.head _)) (.tail _ (.tail _ (.head _))) hrg hsm) (.cons (off1 B N rfl (.head _)) (.cons (off1 B N rfl (.tail _ (.head _))) (.cons (off1 B N rfl (.tail _ (.tail _ (.head _)))) off_nil))) fun v h₂ tk₂ hv C₂ => ?_)
  have F₂ := fr_chg0 F C₂
  have N₂ := news_chg0 N C₂
  clear F N
  generalize ho : newestOf rows = o at hv
  have hfi := newest_find ho hnd
  cases o with
  | none =>
    obtain rfl : v = .none := hv
    dsimp only
    w_strict k_steps
    rename Fr _ _ _ _ => F
    rename News _ _ _ _ => N
    show R _ _
    refine post _ _ _ ?_ (chg_sub hg (by first | kopn_word | simp [hb, hdx, hrl]) F N (by first | kopn_word | simp))
    rw [show rows.find? (·.2.2) = none from hfi]
    rfl
  | some nm =>
    obtain ⟨tv, rfl⟩ : ∃ t, v = .bytes nm t := hv
    obtain ⟨i, r, hr0, hrn, hi, hr⟩ := hfi
    obtain ⟨v, hv, a, x1, x2, n1, rfl, ha⟩ := pr_get hrg i r hr
    dsimp only
    w_strict k_steps
    try dsimp only [List.nil_append, List.append_nil, List.cons_append]
    rename Fr _ _ _ _ => F
    rename News _ _ _ _ => N
    refine wpAny_call (place_spec ((M.deeper B F rfl rfl).less (by decide)) (buf_news F N (.head _) (.tail _ (.head _)) (.tail _ (.tail _ (.head _))) hrg hsm) (.cons (off1 B N rfl (.head _)) (.cons (off1 B N rfl (.tail _ (.head _))) (.cons (off1 B N rfl (.tail _ (.tail _ (.head _)))) off_nil))) hi fun t₄ h₄ tk₄ C₄ => ?_)
    have F₄ := fr_chg0 F C₄
    have N₄ := news_chg0 N C₄
    have hT := TupAt.isTup (F₄.keep _ _ ha)
    clear F N
    dsimp only
    refine item_at (isl N₄ (.tail _ (.tail _ (.head _)))) hv (by omega) ?_
    w_strict k_steps
    show R _ _
    refine post _ _ _ ?_ (chg_sub hg (by first | kopn_word | simp [hb, hdx, hrl]) F₄ N₄ (by first | kopn_word | simp))
    rw [hr0]
    exact ⟨_, rfl⟩

/-- drop of a name that is there -/
theorem drop_some {b dx rl : Addr} {vs : List Value} {rows : List Row} {most next : Int} {nm : Bts} {tk₀ : Tok} {i : Nat} (M : Amb p loose mean mg mb w dp gs un base fs s.heap 10) (Bu : BufAt w s.heap b dx rl vs rows most next) (O : Off base fs [b, dx, rl])
    (hnd : (rows.map (·.1)).Nodup) (hi : rows.findIdx? (fun r => r.1 == nm) = some i)
    (post : ∀ h' tk vs', BufAt w h' b dx rl vs' (rows.eraseIdx i) most next → Chg [rl] s.heap h' → R (.ok (.ret .none)) { s with heap := h', toks := tk }) :
    codeAny (model prog w) (AA dp fs gs un) (.call (.ref 146) ⟨[.ref b, .bytes nm tk₀], []⟩) R s := by
  obtain ⟨hb, x5, ⟨nr, hrl⟩, hrows, hsm⟩ := Bu
  refine exE5 x5 fun t1 t2 t3 tm tn hdx => ?_
  clear x5
  have q1 := ne_get hdx hb nofun
  have q2 := ne_get hdx hrl (by first | kopn_word | simp)
  have q3 := ne_get hrl hb nofun
  w_on
  have XH : (Mine.hd.heap_1 w.params).In s.heap := fun a o e => M.below.stays a o (M.KI a o e)
  refine enterH M [(b, instObj 154 dx), (dx, dictOf (bufEs w t1 t2 t3 (.int most tm) (.ref rl) (.int next tn)) 3), (rl, W.listOf vs.toArray nr)] (by first | kopn_word | simp [hb, hdx, hrl]) O ?_ (hbind := binds_K XH rfl (by k_dflt k_is) rfl rfl rfl)
  intro g L' h₁ F N B X T hg hg' hL'
  dsimp only
  k_fold
  have hrg := rows_g hg (by first | kopn_word | simp [hb, hdx, hrl]) (by first | kopn_word | simp) hrows
  have hvl := hrows.length
  have hir : i < rows.length := by obtain ⟨h1, _⟩ := List.findIdx?_eq_some_iff_getElem.mp hi; exact h1
  obtain ⟨v, hv, hTv⟩ := pr_get hrg i _ (List.getElem?_eq_getElem hir)
  w_strict k_steps
  try dsimp only [List.nil_append, List.append_nil, List.cons_append]
  rename Fr _ _ _ _ => F
  rename News _ _ _ _ => N
  refine wpAny_call (place_spec ((M.deeper B F rfl rfl).less (by decide)) (buf_news F N (.head _) (.tail _ (.head _)) (.tail _ (.tail _ (.head _))) hrg hsm) (.cons (off1 B N rfl (.head _)) (.cons (off1 B N rfl (.tail _ (.head _))) (.cons (off1 B N rfl (.tail _ (.tail _ (.head _)))) off_nil))) hi fun t₄ h₄ tk₄ C₄ => ?_)
  have F₄ := fr_chg0 F C₄
  have N₄ := news_chg0 N C₄
  clear F N
  dsimp only
  w_strict k_steps
  refine pop_at F₄ N₄ hv (by omega) (by k_upd) fun h₅ F₅ N₅ => ?_
  clear F₄ N₄
  w_strict k_steps
  show R _ _
  exact post _ _ _ (buf_news F₅ N₅ (.head _) (.tail _ (.head _)) (.tail _ (.tail _ (.head _))) (pr_erase i hrg) (by have := List.length_eraseIdx_le rows i; omega)) (chg_sub hg (by first | kopn_word | simp [hb, hdx, hrl]) F₅ N₅ (by first | kopn_word | simp))

/-- drop without a name, where one stands without a name of its own -/
theorem drop_newest {b dx rl : Addr} {vs : List Value} {rows : List Row} {most next : Int} {nm : Bts} {i : Nat} (M : Amb p loose mean mg mb w dp gs un base fs s.heap 10) (Bu : BufAt w s.heap b dx rl vs rows most next) (O : Off base fs [b, dx, rl])
    (hnd : (rows.map (·.1)).Nodup) (ho : newestOf rows = some nm) (hi : rows.findIdx? (fun r => r.1 == nm) = some i)
    (post : ∀ h' tk vs', BufAt w h' b dx rl vs' (rows.eraseIdx i) most next → Chg [rl] s.heap h' → R (.ok (.ret .none)) { s with heap := h', toks := tk }) :
    codeAny (model prog w) (AA dp fs gs un) (.call (.ref 146) ⟨[.ref b, .none], []⟩) R s := by
  obtain ⟨hb, x5, ⟨nr, hrl⟩, hrows, hsm⟩ := Bu
  refine exE5 x5 fun t1 t2 t3 tm tn hdx => ?_
  clear x5
  have q1 := ne_get hdx hb nofun
  have q2 := ne_get hdx hrl (by first | kopn_word | simp)
  have q3 := ne_get hrl hb nofun
  w_on
  have XH : (Mine.hd.heap_1 w.params).In s.heap := fun a o e => M.below.stays a o (M.KI a o e)
  refine enterH M [(b, instObj 154 dx), (dx, dictOf (bufEs w t1 t2 t3 (.int most tm) (.ref rl) (.int next tn)) 3), (rl, W.listOf vs.toArray nr)] (by first | kopn_word | simp [hb, hdx, hrl]) O ?_ (hbind := binds_K XH rfl (by k_dflt k_is) rfl rfl rfl)
  intro g L' h₁ F N B X T hg hg' hL'
  dsimp only
  k_fold
  have hrg := rows_g hg (by first | kopn_word | simp [hb, hdx, hrl]) (by first | kopn_word | simp) hrows
  have hvl := hrows.length
  have hir : i < rows.length := by obtain ⟨h1, _⟩ := List.findIdx?_eq_some_iff_getElem.mp hi; exact h1
  obtain ⟨v, hv, hTv⟩ := pr_get hrg i _ (List.getElem?_eq_getElem hir)
  w_strict k_steps
  try dsimp only [List.nil_append, List.append_nil, List.cons_append]
  refine wpAny_call (newest_spec ((M.deeper B F rfl rfl).less (by decide)) (buf_news F N (.head _) (.tail _ (.head _)) (.tail _ (.tail _ (.head _))) hrg hsm) (.cons (off1 B N rfl (.head _)) (.cons (off1 B N rfl (.tail _ (.head _))) (.cons (off1 B N rfl (.tail _ (.tail _ (.head _)))) off_nil))) fun v h₂ tk₂ hv₂ C₂ => ?_)
  have F₂ := fr_chg0 F C₂
  have N₂ := news_chg0 N C₂
  clear F N
  rw [ho] at hv₂
  obtain ⟨tv, rfl⟩ : ∃ t, v = .bytes nm t := hv₂
  dsimp only
  w_strict k_steps
  try dsimp only [List.nil_append, List.append_nil, List.cons_append]
  rename Fr _ _ _ _ => F
  rename News _ _ _ _ => N
  refine wpAny_call (place_spec ((M.deeper B F rfl rfl).less (by decide)) (buf_news F N (.head _) (.tail _ (.head _)) (.tail _ (.tail _ (.head _))) hrg hsm) (.cons (off1 B N rfl (.head _)) (.cons (off1 B N rfl (.tail _ (.head _))) (.cons (off1 B N rfl (.tail _ (.tail _ (.head _)))) off_nil))) hi fun t₄ h₄ tk₄ C₄ => ?_)
  have F₄ := fr_chg0 F C₄
  have N₄ := news_chg0 N C₄
  clear F N
  dsimp only
  w_strict k_steps
  refine pop_at F₄ N₄ hv (by omega) (by k_upd) fun h₅ F₅ N₅ => ?_
  clear F₄ N₄
  w_strict k_steps
  show R _ _
  exact post _ _ _ (buf_news F₅ N₅ (.head _) (.tail _ (.head _)) (.tail _ (.tail _ (.head _))) (pr_erase i hrg) (by have := List.length_eraseIdx_le rows i; omega)) (chg_sub hg (by first | kopn_word | simp [hb, hdx, hrl]) F₅ N₅ (by first | kopn_word | simp))

theorem drop_raise {b dx rl : Addr} {vs : List Value} {rows : List Row} {most next : Int} {nm : Bts} {tk₀ : Tok} (M : Amb p loose mean mg mb w dp gs un base fs s.heap 10) (Bu : BufAt w s.heap b dx rl vs rows most next) (O : Off base fs [b, dx, rl])
    (hi : rows.findIdx? (fun r => r.1 == nm) = none)
    (post : ∀ e h' tk, Raised fs s.heap nm e h' → R (.error (.ref e)) { s with heap := h', toks := tk }) :
    codeAny (model prog w) (AA dp fs gs un) (.call (.ref 146) ⟨[.ref b, .bytes nm tk₀], []⟩) R s := by
  obtain ⟨hb, x5, ⟨nr, hrl⟩, hrows, hsm⟩ := Bu
  refine exE5 x5 fun t1 t2 t3 tm tn hdx => ?_
  clear x5
  w_on
  have XH : (Mine.hd.heap_1 w.params).In s.heap := fun a o e => M.below.stays a o (M.KI a o e)
  refine enterH M [(b, instObj 154 dx), (dx, dictOf (bufEs w t1 t2 t3 (.int most tm) (.ref rl) (.int next tn)) 3), (rl, W.listOf vs.toArray nr)] (by first | kopn_word | simp [hb, hdx, hrl]) O ?_ (hbind := binds_K XH rfl (by k_dflt k_is) rfl rfl rfl)
  intro g L' h₁ F N B X T hg hg' hL'
  dsimp only
  k_fold
  have hrg := rows_g hg (by first | kopn_word | simp [hb, hdx, hrl]) (by first | kopn_word | simp) hrows
  w_strict k_steps
  try dsimp only [List.nil_append, List.append_nil, List.cons_append]
  rename Fr _ _ _ _ => F
  rename News _ _ _ _ => N
  have hL : s.heap.get? L' = none := Heap.get?_none_of_le (by rw [hL']; exact Nat.le_refl _)
  have back := chg_sub (Δ := []) hg (by first | kopn_word | simp [hb, hdx, hrl]) F N (by first | kopn_word | simp)
  refine wpAny_call (place_raise ((M.deeper B F rfl rfl).less (by decide)) (buf_news F N (.head _) (.tail _ (.head _)) (.tail _ (.tail _ (.head _))) hrg hsm) (.cons (off1 B N rfl (.head _)) (.cons (off1 B N rfl (.tail _ (.head _))) (.cons (off1 B N rfl (.tail _ (.tail _ (.head _)))) off_nil))) hi fun e h₄ tk₄ Rz => ?_)
  dsimp only
  k_unfold
  exact leave_passed (s := { s with heap := h₄, toks := tk₄ }) B F rfl rfl Rz (fun a o q => back a o q (by first | kopn_word | simp)) hL fun h' Rz => post e h' _ Rz

theorem Raise_bad {A : Around} {e : Expr} {env : Env} {pos : Pos} {E : Value → Shared → Prop} {Q : Flow → Shared → Prop} (hh : A.handled = none)
    (h : wpAny (model prog w) A (eval e env) (fun v s₁ => ∃ e t dx, v = .ref e ∧ (Mine.hd.heap_1 w.params).In s₁.heap ∧ s₁.heap.get? e = some (excFull t dx) ∧ E (.ref e) s₁) E s) :
    wpAny (model prog w) A (exec (.Raise (some e) none pos) env) Q E s := by
  rw [arm_exec_Raise]
  refine wpAny_bind (wpAny_standAt ?_)
  refine raise_own hh ?_
  exact wpAny_bind (wpAny_mono h (fun v s₁ h₁ => wpAny_bind (wpAny_standAt (wpAny_pure h₁))) fun _ _ x => x)
local macro_rules | `(tactic| walk_at "exec Raise some none") => `(tactic| refine Raise_bad rfl ?_)
/-- drop without a name, where none stands without a name of its own -/
theorem drop_bare {b dx rl : Addr} {vs : List Value} {rows : List Row} {most next : Int} (M : Amb p loose mean mg mb w dp gs un base fs s.heap 10) (Bu : BufAt w s.heap b dx rl vs rows most next) (O : Off base fs [b, dx, rl])
    (ho : newestOf rows = none)
    (post : ∀ e h' tk, Raised fs s.heap #[] e h' → R (.error (.ref e)) { s with heap := h', toks := tk }) :
    codeAny (model prog w) (AA dp fs gs un) (.call (.ref 146) ⟨[.ref b, .none], []⟩) R s := by
  obtain ⟨hb, x5, ⟨nr, hrl⟩, hrows, hsm⟩ := Bu
  refine exE5 x5 fun t1 t2 t3 tm tn hdx => ?_
  clear x5
  w_on
  have XH : (Mine.hd.heap_1 w.params).In s.heap := fun a o e => M.below.stays a o (M.KI a o e)
  refine enterH M [(b, instObj 154 dx), (dx, dictOf (bufEs w t1 t2 t3 (.int most tm) (.ref rl) (.int next tn)) 3), (rl, W.listOf vs.toArray nr)] (by first | kopn_word | simp [hb, hdx, hrl]) O ?_ (hbind := binds_K XH rfl (by k_dflt k_is) rfl rfl rfl)
  intro g L' h₁ F N B X T hg hg' hL'
  dsimp only
  k_fold
  have hrg := rows_g hg (by first | kopn_word | simp [hb, hdx, hrl]) (by first | kopn_word | simp) hrows
  w_strict k_steps
  try dsimp only [List.nil_append, List.append_nil, List.cons_append]
  refine wpAny_call (newest_spec ((M.deeper B F rfl rfl).less (by decide)) (buf_news F N (.head _) (.tail _ (.head _)) (.tail _ (.tail _ (.head _))) hrg hsm) (.cons (off1 B N rfl (.head _)) (.cons (off1 B N rfl (.tail _ (.head _))) (.cons (off1 B N rfl (.tail _ (.tail _ (.head _)))) off_nil))) fun v h₂ tk₂ hv₂ C₂ => ?_)
  have F₂ := fr_chg0 F C₂
  have N₂ := news_chg0 N C₂
  clear F N
  rw [ho] at hv₂
  obtain rfl : v = .none := hv₂
  dsimp only
  w_strict k_steps
  rename Fr _ _ _ _ => F
  rename News _ _ _ _ => N
  have hL : s.heap.get? L' = none := Heap.get?_none_of_le (by rw [hL']; exact Nat.le_refl _)
  have back := chg_sub (Δ := []) hg (by first | kopn_word | simp [hb, hdx, hrl]) F N (by first | kopn_word | simp)
  refine bad_made (k := 4) ((M.deeper B F rfl rfl).less (by decide)) fun e t dx₂ h₄ tk₄ he hen ns kp hdn hne => ?_
  refine ⟨e, t, dx₂, rfl, fun a o q => kp a o (F.keep a o (X a o q)), he, ?_⟩
  k_unfold
  exact leave_made B F rfl rfl kp he hen hdn hne ns (fun a o q => back a o q (by first | kopn_word | simp)) hL fun h' Rz => post e h' _ Rz
end
end
theorem TupAt.keepC {h h' : Heap} {v : Value} {r : Row} (x : TupAt h v r) (C : Chg [] h h') : TupAt h' v r := x.keep fun b o e => C b o e (by first | kopn_word | simp)
theorem BufAt.keepC {w : World} {h h' : Heap} {b dx rl : Addr} {vs : List Value} {rows : List Row} {most next : Int} (x : BufAt w h b dx rl vs rows most next) (C : Chg [] h h') : BufAt w h' b dx rl vs rows most next := by
  obtain ⟨hb, x5, ⟨nr, hrl⟩, hrows, hsm⟩ := x
  refine exE5 x5 fun t1 t2 t3 tm tn hdx => ?_
  clear x5
  exact ⟨C _ _ hb (by first | kopn_word | simp), ⟨t1, t2, t3, tm, tn, C _ _ hdx (by first | kopn_word | simp)⟩, ⟨nr, C _ _ hrl (by first | kopn_word | simp)⟩, hrows.mono fun _ _ y => y.keepC C, hsm⟩

section
variable {prog : Program} {w : World} {A : Around} {E : Value → Shared → Prop} {s : Shared} {g : Heap} {L : Addr} {m : Str → Option Value} {news news' : List (Addr × Obj)}
theorem set_at {rl : Addr} {vs : List Value} {nr i : Nat} {v : Value} {u : Tok} {Q : Unit → Shared → Prop} (F : Fr g L s.heap m) (N : News g L s.heap news)
    (U : Upd rl (W.listOf vs.toArray nr) (W.listOf (vs.set i v).toArray nr) news news') (hi : i < vs.length) (hz : vs.length ≤ 1000) (h : ∀ h', Fr g L h' m → News g L h' news' → Q () { s with heap := h' }) :
    wpAny (model prog w) A (setItem (.ref rl) (.int i u) v) Q E s := by
  obtain ⟨pre, post, rfl, rfl, a, b⟩ := U.split
  have z := N (rl, W.listOf vs.toArray nr) (List.mem_append.mpr (.inr (.head _)))
  have hs : vs.toArray.size = vs.length := by simp
  refine ki_setAt z.1 (by omega) (by omega) (by omega) (h _ (F.change (Heap.SameBut.update ..) z.2.1 z.2.2) (ki_turn _ N a b ?_ ?_))
  · show vs.toArray.setIfInBounds (Int.toNat i) v = (vs.set i v).toArray
    apply Array.toList_inj.mp
    simp
  · simp
end

section
variable {p : Program} {loose : List Str} {mean : ExcName → Option Value} {mg mb : Str → Option Value} {prog : Program} {w : World} {dp un : Nat} {gs : Option (List Code)} {R : Result → Shared → Prop} {s : Shared} {base : Heap} {fs : List Env} {k : Nat}

theorem set_any {b dx rl : Addr} {vs : List Value} {rows : List Row} {most next : Int} {oc : Bts} {nm : Option Bts} {nv : Value} {to : Tok} {j : Nat} (M : Amb p loose mean mg mb w dp gs un base fs s.heap 15) (Bu : BufAt w s.heap b dx rl vs rows most next) (O : Off base fs [b, dx, rl])
    (hnv : optV nm nv) (hf : nm = none → oc ≠ #[] → Fresh rows next j) (hnd : (rows.map (·.1)).Nodup) (hlt : rows.length ≤ 900)
    (post : ∀ v h' tk rl' vs', optV (setOut rows most next oc nm j).2.2 v → BufAt w h' b dx rl' vs' (setOut rows most next oc nm j).1 most (setOut rows most next oc nm j).2.1 → (rl' = rl ∨ s.heap.get? rl' = none) → Chg [dx, rl] s.heap h' → R (.ok (.ret v)) { s with heap := h', toks := tk }) :
    codeAny (model prog w) (AA dp fs gs un) (.call (.ref 103) ⟨[.ref b, .bytes oc to, nv], []⟩) R s := by
  by_cases hoc : oc = #[]
  · subst hoc
    refine set_empty M Bu O fun h' tk C => post .none h' tk rl vs rfl ?_ (.inl rfl) (C.mono (by first | kopn_word | simp))
    exact Bu.keepC C
  · cases nm with
    | none =>
      obtain rfl : nv = .none := hnv
      refine set_none M Bu O hoc (hf rfl hoc) hlt fun t h' tk rl' vs' Bu' hrl C => post _ h' tk rl' vs' ?_ ?_ (.inr hrl) C
      · unfold setOut; rw [if_neg hoc]; exact ⟨t, rfl⟩
      · have : (setOut rows most next oc none j).2.1 = next + j + 1 := by unfold setOut; rw [if_neg hoc]
        rw [this]; exact Bu'
    | some nm =>
      obtain ⟨tn, rfl⟩ : ∃ t, nv = .bytes nm t := hnv
      refine set_some M Bu O hoc hnd hlt fun t h' tk rl' vs' Bu' hrl C => post _ h' tk rl' vs' ?_ ?_ (.inr hrl) C
      · unfold setOut; rw [if_neg hoc]; exact ⟨t, rfl⟩
      · have : (setOut rows most next oc (some nm) j).2.1 = next := by unfold setOut; rw [if_neg hoc]
        rw [this]
        have : (setOut rows most next oc (some nm) j).1 = (setOut rows most next oc (some nm) 0).1 := by unfold setOut; rw [if_neg hoc]
        rw [this]; exact Bu'

theorem kst3 {m : Str → Option Value} {a b c : Str × Value} (h1 : m a.1 = some a.2) (h2 : m b.1 = some b.2) (h3 : m c.1 = some c.2) : ∀ q ∈ [a, b, c], m q.1 = some q.2 := fun q hq => by
  simp only [List.mem_cons, List.not_mem_nil, or_false] at hq
  rcases hq with rfl | rfl | rfl <;> assumption
theorem fr_kst3 {g h : Heap} {L : Addr} {m : Str → Option Value} {a b c : Str × Value} (F : Fr g L h m) (h1 : m a.1 = some a.2) (h2 : m b.1 = some b.2) (h3 : m c.1 = some c.2) : Fr g L h (kstB m [a, b, c]) := fr_kst _ F (kst3 h1 h2 h3)
theorem pr_set {α β : Type} {F : α → β → Prop} {x : α} {y : β} {l₁ : List α} {l₂ : List β} (i : Nat) (h : Paired F l₁ l₂) (e : F x y) : Paired F (l₁.set i x) (l₂.set i y) := by
  induction h generalizing i with
  | nil => exact .nil
  | cons h t ih =>
    cases i with
    | zero => exact .cons e t
    | succ i => exact .cons h (ih i)
inductive Hold (P : Prop) : Prop
  | mk : P → Hold P
theorem cut_next {M : Model} {A : Around} {c : Stmt} {rest : List Stmt} {env : Env} {E : Value → Shared → Prop} {Q : Flow → Shared → Prop} (I : Shared → Prop)
    (h1 : wpAny M A (exec c env) (fun f s' => f = .next ∧ Hold (I s')) E s) (h2 : ∀ s', I s' → wpAny M A (execs rest env) Q E s') : wpAny M A (execs (c :: rest) env) Q E s := by
  refine wpAny_execs_cons (wpAny_mono h1 (fun f s' ⟨e, ⟨i⟩⟩ => ?_) fun _ _ x => x)
  subst e
  exact h2 s' i

/-- append to a name that is there, or to the newest without a name of its own -/
theorem append_there {b dx rl : Addr} {vs : List Value} {rows : List Row} {most next : Int} {oc nm : Bts} {nv : Value} {nm? : Option Bts} {to : Tok} {i : Nat} {r : Row} (M : Amb p loose mean mg mb w dp gs un base fs s.heap 20) (Bu : BufAt w s.heap b dx rl vs rows most next) (O : Off base fs [b, dx, rl])
    (hnv : optV nm? nv) (hres : (nm? = some nm) ∨ (nm? = none ∧ newestOf rows = some nm)) (hi : rows.findIdx? (fun r => r.1 == nm) = some i) (hr : rows[i]? = some r) (hszb : r.2.1.size + oc.size ≤ 1000)
    (post : ∀ t h' tk vs', BufAt w h' b dx rl vs' (rows.set i (nm, r.2.1 ++ oc, r.2.2)) most next → Chg [rl] s.heap h' → R (.ok (.ret (.bytes nm t))) { s with heap := h', toks := tk }) :
    codeAny (model prog w) (AA dp fs gs un) (.call (.ref 133) ⟨[.ref b, .bytes oc to, nv], []⟩) R s := by
  obtain ⟨hb, x5, ⟨nr, hrl⟩, hrows, hsm⟩ := Bu
  refine exE5 x5 fun t1 t2 t3 tm tn hdx => ?_
  clear x5
  have q2 := ne_get hdx hrl (by first | kopn_word | simp)
  have q3 := ne_get hrl hb nofun
  w_on
  have XH : (Mine.hd.heap_1 w.params).In s.heap := fun a o e => M.below.stays a o (M.KI a o e)
  refine enterH M [(b, instObj 154 dx), (dx, dictOf (bufEs w t1 t2 t3 (.int most tm) (.ref rl) (.int next tn)) 3), (rl, W.listOf vs.toArray nr)] (by first | kopn_word | simp [hb, hdx, hrl]) O ?_ (hbind := binds_K XH rfl (by k_dflt k_is) rfl rfl rfl)
  intro g L' h₁ F N B X T hg hg' hL'
  dsimp only
  k_fold
  have hrg := rows_g hg (by first | kopn_word | simp [hb, hdx, hrl]) (by first | kopn_word | simp) hrows
  have hvl := hrows.length
  have hh : has rows nm = true := by
    obtain ⟨h1, h2, _⟩ := List.findIdx?_eq_some_iff_getElem.mp hi
    exact List.any_eq_true.mpr ⟨rows[i], List.getElem_mem h1, h2⟩
  obtain ⟨v, hv, a, x1, x2, n1, rfl, ha⟩ := pr_get hrg i r hr
  refine cut_next (fun s' => ∃ h tk m t, s' = { s with heap := h, toks := tk } ∧ Fr g L' h (kstB m [(Str.ofString "self", .ref b), (Str.ofString "octets", .bytes oc to), (Str.ofString "name", .bytes nm t)]) ∧
    News g L' h [(b, instObj 154 dx), (dx, dictOf (bufEs w t1 t2 t3 (.int most tm) (.ref rl) (.int next tn)) 3), (rl, W.listOf vs.toArray nr)]) ?_ ?_
  · rcases hres with rfl | ⟨rfl, ho⟩
    · obtain ⟨tn, rfl⟩ : ∃ t, nv = .bytes nm t := hnv
      w_strict k_steps
      rename Fr _ _ _ _ => F
      rename News _ _ _ _ => N
      exact ⟨_, _, _, _, rfl, fr_kst3 F rfl rfl rfl, N⟩
    · obtain rfl : nv = .none := hnv
      w_strict k_steps
      try dsimp only [List.nil_append, List.append_nil, List.cons_append]
      refine wpAny_call (newest_spec ((M.deeper B F rfl rfl).less (by decide)) (buf_news F N (.head _) (.tail _ (.head _)) (.tail _ (.tail _ (.head _))) hrg hsm) (.cons (off1 B N rfl (.head _)) (.cons (off1 B N rfl (.tail _ (.head _))) (.cons (off1 B N rfl (.tail _ (.tail _ (.head _)))) off_nil))) fun v h₂ tk₂ hv₂ C₂ => ?_)
      have F₂ := fr_chg0 F C₂
      have N₂ := news_chg0 N C₂
      clear F N
      rw [ho] at hv₂
      obtain ⟨tv, rfl⟩ : ∃ t, v = .bytes nm t := hv₂
      dsimp only
      w_strict k_steps
      rename Fr _ _ _ _ => F
      rename News _ _ _ _ => N
      exact ⟨_, _, _, _, rfl, fr_kst3 F rfl rfl rfl, N⟩
  clear F N
  refine fun s' hz => exE4 hz fun h₁ tk₁ m tn hx => ?_
  clear hz
  obtain ⟨rfl, F, N⟩ := hx
  w_strict k_steps
  try dsimp only [List.nil_append, List.append_nil, List.cons_append]
  refine wpAny_call (names_spec ((M.deeper B F rfl rfl).less (by decide)) (buf_news F N (.head _) (.tail _ (.head _)) (.tail _ (.tail _ (.head _))) hrg hsm) (.cons (off1 B N rfl (.head _)) (.cons (off1 B N rfl (.tail _ (.head _))) (.cons (off1 B N rfl (.tail _ (.tail _ (.head _)))) off_nil))) fun D us nD h₃ tk₃ hD hDn P C₃ => ?_)
  have F₃ := fr_chg0 F C₃
  have N₃ := news_chg0 N C₃
  clear F N
  dsimp only
  refine notIn_names P (isl_at hDn) ?_
  w_strict k_steps
  try dsimp only [List.nil_append, List.append_nil, List.cons_append]
  have F := F₃
  have N := N₃
  clear F₃ N₃
  refine wpAny_call (place_spec ((M.deeper B F rfl rfl).less (by decide)) (buf_news F N (.head _) (.tail _ (.head _)) (.tail _ (.tail _ (.head _))) hrg hsm) (.cons (off1 B N rfl (.head _)) (.cons (off1 B N rfl (.tail _ (.head _))) (.cons (off1 B N rfl (.tail _ (.tail _ (.head _)))) off_nil))) hi fun t₄ h₄ tk₄ C₄ => ?_)
  have F₄ := fr_chg0 F C₄
  have N₄ := news_chg0 N C₄
  clear F N
  dsimp only
  w_strict k_steps
  rename Fr _ _ _ _ => F
  rename News _ _ _ _ => N
  refine item_at (isl N (.tail _ (.tail _ (.head _)))) hv (by omega) ?_
  have hT := TupAt.isTup (F.keep _ _ ha)
  w_strict k_steps
  refine KBy.add_bytes (by omega) (fun _ _ => ?_)
  w_strict k_steps
  try dsimp only
  rename Fr _ _ _ _ => F
  rename News _ _ _ _ => N
  refine item_at (isl N (.tail _ (.tail _ (.head _)))) hv (by omega) ?_
  have hT := TupAt.isTup (F.keep _ _ ha)
  w_strict k_steps
  try dsimp only
  rename Fr _ _ _ _ => F
  rename News _ _ _ _ => N
  refine set_at F N (by k_upd) (by rw [hvl]; exact (List.getElem?_eq_some_iff.mp hr).1) (by omega) fun h₆ F₆ N₆ => ?_
  clear F N
  w_strict k_steps
  show R _ _
  refine post _ _ _ _ (buf_at N₆ (.tail _ (.head _)) (.tail _ (.tail _ (.head _))) (.tail _ (.tail _ (.tail _ (.head _)))) (pr_set i (hrg.mono fun _ _ x => x.keep F₆.keep) (tup_news N₆ (.head _))) (by simpa using hsm)) (chg_sub hg (by first | kopn_word | simp [hb, hdx, hrl]) F₆ N₆ (by first | kopn_word | simp))
end
section
variable {p : Program} {loose : List Str} {mean : ExcName → Option Value} {mg mb : Str → Option Value} {prog : Program} {w : World} {dp un : Nat} {gs : Option (List Code)} {R : Result → Shared → Prop} {s : Shared} {base : Heap} {fs : List Env} {k : Nat}

theorem rename_raise {b dx rl : Addr} {vs : List Value} {rows : List Row} {most next : Int} {nm : Bts} {nw : Value} {tk₀ : Tok} (M : Amb p loose mean mg mb w dp gs un base fs s.heap 10) (Bu : BufAt w s.heap b dx rl vs rows most next) (O : Off base fs [b, dx, rl])
    (hi : rows.findIdx? (fun r => r.1 == nm) = none)
    (post : ∀ e h' tk, Raised fs s.heap nm e h' → R (.error (.ref e)) { s with heap := h', toks := tk }) :
    codeAny (model prog w) (AA dp fs gs un) (.call (.ref 138) ⟨[.ref b, .bytes nm tk₀, nw], []⟩) R s := by
  obtain ⟨hb, x5, ⟨nr, hrl⟩, hrows, hsm⟩ := Bu
  refine exE5 x5 fun t1 t2 t3 tm tn hdx => ?_
  clear x5
  w_on
  refine enterC M [(b, instObj 154 dx), (dx, dictOf (bufEs w t1 t2 t3 (.int most tm) (.ref rl) (.int next tn)) 3), (rl, W.listOf vs.toArray nr)] (by first | kopn_word | simp [hb, hdx, hrl]) O ?_
  intro g L' h₁ tk₁ own F N Y B X T hlt' hg hg' hL'
  k_lt hlt'
  k_cells Y
  simp only [List.cons_append, List.nil_append] at N
  show wpAny _ _ _ _ _ _
  k_fold
  have hrg := rows_g hg (by first | kopn_word | simp [hb, hdx, hrl]) (by first | kopn_word | simp) hrows
  w_strict k_steps
  try dsimp only [List.nil_append, List.append_nil, List.cons_append]
  have hL : s.heap.get? L' = none := Heap.get?_none_of_le (by rw [hL']; exact Nat.le_refl _)
  have back := chg_sub (Δ := []) hg (by first | kopn_word | simp [hb, hdx, hrl]) F N (by first | kopn_word | simp)
  refine wpAny_call (place_raise ((M.deeper B F rfl rfl).less (by decide)) (buf_news F N (by k_mem) (by k_mem) (by k_mem) hrg hsm) (.cons (off1 B N rfl (by k_mem)) (.cons (off1 B N rfl (by k_mem)) (.cons (off1 B N rfl (by k_mem)) off_nil))) hi fun e h₄ tk₄ Rz => ?_)
  try dsimp only
  k_unfold
  exact leave_passed (s := { s with heap := h₄, toks := tk₄ }) B F rfl rfl Rz (fun a o q => back a o q (by first | kopn_word | simp)) hL fun h' Rz => post e h' _ Rz

/-- the rows behind a rename -/
noncomputable def renOut (rows : List Row) (nm nw : Bts) : List Row :=
  let rows' := if nm = nw then rows else rows.filter (fun r => r.1 != nw)
  match rows'.findIdx? (fun r => r.1 == nm) with
  | some i => match rows'[i]? with
    | some r => rows'.set i (nw, r.2.1, false)
    | none => rows'
  | none => rows'
theorem renOut_same {rows : List Row} {nm : Bts} {i : Nat} {r : Row} (hi : rows.findIdx? (fun r => r.1 == nm) = some i) (hr : rows[i]? = some r) : renOut rows nm nm = rows.set i (nm, r.2.1, false) := by
  unfold renOut
  simp only [if_true, hi, hr]
theorem renOut_other {rows : List Row} {nm nw : Bts} {i : Nat} {r : Row} (hne : nm ≠ nw) (hi : (rows.filter (fun r => r.1 != nw)).findIdx? (fun r => r.1 == nm) = some i) (hr : (rows.filter (fun r => r.1 != nw))[i]? = some r) :
    renOut rows nm nw = (rows.filter (fun r => r.1 != nw)).set i (nw, r.2.1, false) := by
  unfold renOut
  simp only [if_neg hne, hi, hr]
/-- the name that stands in a row's object -/
noncomputable def nameOf (h : Heap) (v : Value) : Option Bts := match v with
  | .ref a => match h.get? a with
    | some o => match o.data with
      | .seq its _ => match (its[0]? : Option Value) with
        | some (.bytes b _) => some b
        | _ => none
      | _ => none
    | none => none
  | _ => none
theorem nameOf_tup {h : Heap} {v : Value} {r : Row} (x : TupAt h v r) : nameOf h v = some r.1 := by
  obtain ⟨a, t1, t2, n, rfl, ha⟩ := x
  unfold nameOf
  simp only [ha]
  rfl
theorem some_bne (x y : Bts) : (some x != some y) = (x != y) := by
  by_cases h : x = y
  · subst h; simp
  · have h2 : (some x) ≠ (some y) := fun e => h (Option.some.inj e)
    rw [bne_iff_ne.mpr h2, bne_iff_ne.mpr h]
theorem ne_new {h : Heap} {a b : Addr} {o : Obj} (x : h.get? a = none) (y : h.get? b = some o) : @Ne Nat a b := by
  intro e
  have e' : a = b := e
  rw [e', y] at x
  cases x
theorem pr_same {l₁ l₂ : List Value} (P : Paired (fun v y => y = v) l₁ l₂) : l₂ = l₁ := by
  induction P with
  | nil => rfl
  | cons h _ ih => rw [h, ih]
theorem nodup_filter {rows : List Row} {p : Row → Bool} (hnd : (rows.map (·.1)).Nodup) : ((rows.filter p).map (·.1)).Nodup := hnd.sublist (List.filter_sublist.map _)
theorem bne_toList (x y : Bts) : (x.toList != y.toList) = (x != y) := by
  unfold bne
  rw [beq_toList]
theorem rename_there {b dx rl : Addr} {vs : List Value} {rows : List Row} {most next : Int} {nm nw : Bts} {tk₀ tk₁ : Tok} {i : Nat} {r : Row} (M : Amb p loose mean mg mb w dp gs un base fs s.heap 20) (Bu : BufAt w s.heap b dx rl vs rows most next) (O : Off base fs [b, dx, rl])
    (hnd : (rows.map (·.1)).Nodup) (hi : rows.findIdx? (fun r => r.1 == nm) = some i) (hr : rows[i]? = some r)
    (post : ∀ h' tk rl' vs', BufAt w h' b dx rl' vs' (renOut rows nm nw) most next → (rl' = rl ∨ s.heap.get? rl' = none) → Chg [dx, rl] s.heap h' → R (.ok (.ret .none)) { s with heap := h', toks := tk }) :
    codeAny (model prog w) (AA dp fs gs un) (.call (.ref 138) ⟨[.ref b, .bytes nm tk₀, .bytes nw tk₁], []⟩) R s := by
  obtain ⟨hb, x5, ⟨nr, hrl⟩, hrows, hsm⟩ := Bu
  refine exE5 x5 fun t1 t2 t3 tm tn hdx => ?_
  clear x5
  have q1 := ne_get hdx hb nofun
  have q2 := ne_get hdx hrl (by first | kopn_word | simp)
  have q3 := ne_get hrl hb nofun
  w_on
  refine enterC M [(b, instObj 154 dx), (dx, dictOf (bufEs w t1 t2 t3 (.int most tm) (.ref rl) (.int next tn)) 3), (rl, W.listOf vs.toArray nr)] (by first | kopn_word | simp [hb, hdx, hrl]) O ?_
  intro g L' h₁ tk₂ own F N Y B X T hlt' hg hg' hL'
  k_lt hlt'
  obtain ⟨oC, rfl, dC⟩ := CellsAre.one Y
  have dC : oC.data = .cell (some (.bytes nw tk₁)) := dC
  simp only [List.cons_append, List.nil_append] at N
  show wpAny _ _ _ _ _ _
  k_fold
  have hrg := rows_g hg (by first | kopn_word | simp [hb, hdx, hrl]) (by first | kopn_word | simp) hrows
  have hvl := hrows.length
  obtain ⟨v, hv, a, x1, x2, n1, rfl, ha⟩ := pr_get hrg i r hr
  w_strict k_steps
  try dsimp only [List.nil_append, List.append_nil, List.cons_append]
  refine wpAny_call (place_spec ((M.deeper B F rfl rfl).less (by decide)) (buf_news F N (by k_mem) (by k_mem) (by k_mem) hrg hsm) (.cons (off1 B N rfl (by k_mem)) (.cons (off1 B N rfl (by k_mem)) (.cons (off1 B N rfl (by k_mem)) off_nil))) hi fun t₄ h₄ tk₄ C₄ => ?_)
  have F₄ := fr_chg0 F C₄
  have N₄ := news_chg0 N C₄
  clear F N
  try dsimp only
  refine item_at (isl N₄ (by k_mem)) hv (by omega) ?_
  w_strict k_steps
  · rename (_ != _) = true => hne
    rw [bne_toList] at hne
    have hne' : nm ≠ nw := by simpa using hne
    rename Fr _ _ _ _ => F
    rename News _ _ _ _ => N
    refine ⟨fun v => nameOf g v != some nw, fun v y => y = v, rl, vs, rfl, isl N (by k_mem), by omega, ?_, ?_, ?_⟩
    · intro C v s₃ m₃ E' hvm hn hm hk
      obtain ⟨q, hq, hTq⟩ := pr_mem hrg v hvm
      obtain ⟨a', y1, y2, n', rfl, ha'⟩ := hTq
      have ha₃ := hk _ _ (F.keep _ _ ha')
      refine tests1 (wpAny_isTrue_Compare1 ?_ rfl)
      refine ev_row rfl rfl hn hm (.inl (TupAt.isTup ha₃)) (by decide) (by decide) rfl fun tk => ?_
      refine wpAny_Name (wpAny_loadName_cell rfl rfl rfl ⟨oC, hk _ _ (N _ (by k_mem)).1, dC⟩ ?_) (by decide)
      refine ne_bytes (wpAny_truthy_bool ⟨?_, _, _, rfl, fun _ _ e => e⟩)
      show (q.1.toList != nw.toList) = (nameOf g (.ref a') != some nw)
      rw [nameOf_tup ⟨a', y1, y2, n', rfl, ha'⟩, bne_toList, some_bne]
    · intro C v s₃ m₃ E' hvm hp hn hm hk
      exact wpAny_Name (wpAny_loadName_local rfl rfl hn hm ⟨rfl, _, _, rfl, fun _ _ e => e⟩) (by decide)
    · intro D h' tk' ys n' hD hDn hF hk
      obtain rfl := pr_same hF
      have hPf : Paired (TupAt g) (vs.filter fun v => nameOf g v != some nw) (rows.filter fun r => r.1 != nw) := pr_filter (fun v r _ hT => by
        show (nameOf g v != some nw) = (r.1 != nw)
        rw [nameOf_tup hT, some_bne]) hrg
      have hmr : r ∈ rows.filter fun r => r.1 != nw := by
        obtain ⟨h1, h2, _⟩ := List.findIdx?_eq_some_iff_getElem.mp hi
        have hr1 : r.1 = nm := by rw [List.getElem?_eq_getElem h1] at hr; cases hr; simpa using h2
        exact List.mem_filter.mpr ⟨List.mem_of_getElem? hr, by rw [hr1]; exact hne⟩
      have hr1 : r.1 = nm := by
        obtain ⟨h1, h2, _⟩ := List.findIdx?_eq_some_iff_getElem.mp hi
        rw [List.getElem?_eq_getElem h1] at hr; cases hr; simpa using h2
      obtain ⟨i', hi', hr'⟩ := find_mem (nodup_filter hnd) hmr
      rw [hr1] at hi'
      have F' := F.keeps hk
      have N' := news_more N hk hDn hD F
      have e1 := ne_new hD (N _ (by k_mem : (b, _) ∈ _)).1
      have e2 := ne_new hD (N _ (by k_mem : (dx, _) ∈ _)).1
      have e3 := ne_new hD (N _ (by k_mem : (rl, _) ∈ _)).1
      have e4 := ne_new hD (N _ (by k_mem : (L' + 1, _) ∈ _)).1
      have hF0 := F
      have hN0 := N
      generalize (vs.filter fun v => nameOf g v != some nw) = us at *
      clear F N
      have fr0 : s.heap.get? D = none := fresh_back (Δ := []) (chg_sub hg (by first | kopn_word | simp [hb, hdx, hrl]) hF0 hN0 (by first | kopn_word | simp)) (fun _ h => nomatch h) hD
      clear hF0 hN0
      w_strict k_steps
      have hsm' : (rows.filter fun r => r.1 != nw).length ≤ 1000 := Nat.le_trans (List.length_filter_le _ _) hsm
      rename Fr _ _ _ _ => F
      rename News _ _ _ _ => N
      refine wpAny_call (place_spec ((M.deeper B F rfl rfl).less (by decide)) (buf_news F N (by k_mem) (by k_mem) (by k_mem) hPf hsm') (.cons (off1 B N rfl (by k_mem)) (.cons (off1 B N rfl (by k_mem)) (.cons (off1 B N rfl (by k_mem)) off_nil))) hi' fun t₅ h₅ tk₅ C₅ => ?_)
      have F₅ := fr_chg0 F C₅
      have N₅ := news_chg0 N C₅
      clear F N
      try dsimp only
      w_strict k_steps
      try dsimp only
      rename Fr _ _ _ _ => F
      have hT := TupAt.isTup (F.keep _ _ ha)
      w_strict k_steps
      try dsimp only
      rename Fr _ _ _ _ => F
      rename News _ _ _ _ => N
      refine set_at F N (by k_upd) (by rw [hPf.length]; exact (List.getElem?_eq_some_iff.mp hr').1) (by rw [hPf.length]; exact hsm') fun h₆ F₆ N₆ => ?_
      clear F N
      w_strict k_steps
      show R _ _
      refine post _ _ D _ (buf_at N₆ (by k_mem) (by k_mem) (by k_mem) (by rw [renOut_other hne' hi' hr']; exact pr_set i' (hPf.mono fun _ _ x => x.keep F₆.keep) (tup_news N₆ (by k_mem))) (by rw [renOut_other hne' hi' hr', List.length_set]; exact hsm')) (.inr fr0) (chg_sub hg (by first | kopn_word | simp [hb, hdx, hrl]) F₆ N₆ (by first | kopn_word | simp))
  · rename (_ != _) = false => hne
    rw [bne_toList] at hne
    obtain rfl : nm = nw := by simpa using hne
    have hsm' := hsm
    rename Fr _ _ _ _ => F
    rename News _ _ _ _ => N
    refine wpAny_call (place_spec ((M.deeper B F rfl rfl).less (by decide)) (buf_news F N (by k_mem) (by k_mem) (by k_mem) hrg hsm') (.cons (off1 B N rfl (by k_mem)) (.cons (off1 B N rfl (by k_mem)) (.cons (off1 B N rfl (by k_mem)) off_nil))) hi fun t₅ h₅ tk₅ C₅ => ?_)
    have F₅ := fr_chg0 F C₅
    have N₅ := news_chg0 N C₅
    clear F N
    try dsimp only
    w_strict k_steps
    try dsimp only
    rename Fr _ _ _ _ => F
    have hT := TupAt.isTup (F.keep _ _ ha)
    w_strict k_steps
    try dsimp only
    rename Fr _ _ _ _ => F
    rename News _ _ _ _ => N
    refine set_at F N (by k_upd) (by rw [hrg.length]; exact (List.getElem?_eq_some_iff.mp hr).1) (by rw [hrg.length]; exact hsm') fun h₆ F₆ N₆ => ?_
    clear F N
    w_strict k_steps
    show R _ _
    refine post _ _ rl _ (buf_at N₆ (by k_mem) (by k_mem) (by k_mem) (by rw [renOut_same hi hr]; exact pr_set i (hrg.mono fun _ _ x => x.keep F₆.keep) (tup_news N₆ (by k_mem))) (by rw [renOut_same hi hr, List.length_set]; exact hsm')) (.inl rfl) (chg_sub hg (by first | kopn_word | simp [hb, hdx, hrl]) F₆ N₆ (by first | kopn_word | simp))
end
open PySem.SeqAt
theorem LRow.inj {h : Heap} {v : Value} {r r' : Row} (x : LRow h v r) (y : LRow h v r') : r = r' := by
  obtain ⟨a, x1, x2, n, rfl, ha⟩ := x
  obtain ⟨a', y1, y2, n', e2, ha'⟩ := y
  cases e2
  rw [ha] at ha'
  injection ha' with h0
  injection h0 with _ _ h3 _
  injection h3 with h4 _
  have h5 := congrArg Array.toList h4
  simp at h5
  obtain ⟨r1, r2, r3⟩ := r
  obtain ⟨s1, s2, s3⟩ := r'
  obtain ⟨⟨q1, _⟩, ⟨q2, _⟩, q3⟩ := h5
  simp_all
theorem eqGives_bool (a b : Bool) : MeetsSeq.EqGives (.bool a) (.bool b) (a == b) := by
  intro prog w A E s Q h
  unfold eqBool
  refine wpAny_holding ?_
  refine wpAny_ite_split (fun hab => ?_) (fun hab => ?_)
  · have e : a = b := by have := eq_of_beq hab; injection this
    subst e
    exact wpAny_bind (wpAny_rule (wpAny_pure (by simpa using h)))
  · exact wpAny_bind (show wpAny _ A (compareOp .Eq (.bool a) (.bool b)) _ E s from eq_bool (wpAny_truthy_bool h))
theorem row_eqAt {A : Around} {s : Shared} {y x : Value} {r' r : Row} (hy : LRow s.heap y r') (hx : LRow s.heap x r) (hu : A.units < cLine) : EqAt A s y x (decide (r' = r)) := by
  by_cases hab : y = x
  · subst hab
    have := hy.inj hx
    subst this
    rw [decide_eq_true rfl]
    exact EqAt.same _
  · obtain ⟨a, x1, x2, n, rfl, ha⟩ := hy
    obtain ⟨b, y1, y2, m, rfl, hb⟩ := hx
    have hne : a ≠ b := fun e => hab (by rw [e])
    have := RcAt.lists (A := A) (s := s) (l := a) (b := b) (e := fun j => match j with | 0 => r'.1 == r.1 | 1 => r'.2.1 == r.2.1 | _ => (!r'.2.2) == (!r.2.2)) (LRow.isList ha) (LRow.isList hb) rfl hu (fun j h1 h2 => by
      match j, h1, h2 with
      | 0, _, _ => exact (eqGives_bytes _ _ _ _).at _ _
      | 1, _, _ => exact (eqGives_bytes _ _ _ _).at _ _
      | 2, _, _ => exact (eqGives_bool _ _).at _ _)
    refine EqAt.of_refs hne ?_
    have e : decide (r' = r) = (List.range ([Value.bytes r'.1 x1, .bytes r'.2.1 x2, .bool (!r'.2.2)].toArray.size)).all (fun j => match j with | 0 => r'.1 == r.1 | 1 => r'.2.1 == r.2.1 | _ => (!r'.2.2) == (!r.2.2)) := by
      obtain ⟨r1, r2, r3⟩ := r
      obtain ⟨s1, s2, s3⟩ := r'
      show decide ((s1, s2, s3) = (r1, r2, r3)) = (List.range 3).all _
      rw [Bool.eq_iff_iff]
      simp [List.range, List.range.loop]
    rw [e]
    exact this
/-- the row that stands behind a value -/
noncomputable def rowOf (h : Heap) (v : Value) : Option Row := match v with
  | .ref a => match h.get? a with
    | some o => match o.data with
      | .seq its _ => match (its.toList : List Value) with
        | [.bytes x _, .bytes y _, .bool z] => some (x, y, !z)
        | _ => none
      | _ => none
    | none => none
  | _ => none
theorem rowOf_l {h : Heap} {v : Value} {r : Row} (x : LRow h v r) : rowOf h v = some r := by
  obtain ⟨a, t1, t2, n, rfl, ha⟩ := x
  unfold rowOf
  simp only [ha]
  show some (r.1, r.2.1, !!r.2.2) = some r
  rw [Bool.not_not]
noncomputable def pOf (h : Heap) (q : Row → Bool) (v : Value) : Bool := match rowOf h v with | some r => q r | none => false
theorem pOf_l {h : Heap} {q : Row → Bool} {v : Value} {r : Row} (x : LRow h v r) : pOf h q v = q r := by
  unfold pOf
  rw [rowOf_l x]
theorem pr_pOf {h : Heap} {q : Row → Bool} {vs : List Value} {rows : List Row} (P : Paired (LRow h) vs rows) : Paired (LRow h) (vs.filter (pOf h q)) (rows.filter q) := pr_filter (fun _ _ _ x => pOf_l x) P
theorem lrow_new {g h : Heap} {L a : Addr} {news : List (Addr × Obj)} {x y : Bts} {o o' : Bool} {t1 t2 : Tok} {n : Nat} (N : News g L h news) (m : (a, W.listOf #[.bytes x t1, .bytes y t2, .bool o'] n) ∈ news) (e : o' = !o) : LRow h (.ref a) (x, y, o) := by
  subst e
  exact ⟨a, t1, t2, n, rfl, (N _ m).1⟩
theorem filter_cong {rows : List Row} {p q : Row → Bool} (h : ∀ r ∈ rows, p r = q r) : rows.filter p = rows.filter q := List.filter_congr h
theorem trim_filter {most : Int} : ∀ {rows : List Row} {c : Int}, (rows.map (·.1)).Nodup → trimOf most c rows = rows.filter (fun r => !decide (r ∈ (rows.filter (fun r => r.2.2)).drop (most - c).toNat))
  | [], _, _ => rfl
  | r :: rs, c, hnd => by
    simp only [List.map_cons, List.nodup_cons] at hnd
    have hr : r ∉ rs := fun h => hnd.1 (List.mem_map_of_mem h)
    have hsub : ∀ k, r ∉ (rs.filter (fun r => r.2.2)).drop k := fun k h => hr (List.mem_filter.mp (List.mem_of_mem_drop h)).1
    cases ho : r.2.2 with
    | false =>
      have hrest : trimOf most c (r :: rs) = r :: trimOf most c rs := by
        rw [trim_yes (.inl ho), ho]
        simp
      have hf : (r :: rs).filter (fun r => r.2.2) = rs.filter (fun r => r.2.2) := List.filter_cons_of_neg (by first | kopn_word | simp [ho])
      rw [hrest, trim_filter hnd.2, hf, List.filter_cons_of_pos (by simp only [decide_eq_false (hsub _)]; rfl)]
    | true =>
      have hf : (r :: rs).filter (fun r => r.2.2) = r :: rs.filter (fun r => r.2.2) := List.filter_cons_of_pos ho
      by_cases hc : c + 1 ≤ most
      · have hk : (most - c).toNat = (most - (c + 1)).toNat + 1 := by omega
        have hrest : trimOf most c (r :: rs) = r :: trimOf most (c + 1) rs := by
          rw [trim_yes (.inr (by rw [ho]; simpa using hc)), ho]
          rfl
        rw [hrest, trim_filter hnd.2, hf, hk, List.drop_succ_cons, List.filter_cons_of_pos (by simp only [decide_eq_false (hsub _)]; rfl)]
      · have hk : (most - c).toNat = 0 := by omega
        have hk1 : (most - (c + 1)).toNat = 0 := by omega
        have hrest : trimOf most c (r :: rs) = trimOf most (c + 1) rs := by
          rw [trim_no ho (by rw [ho]; simpa using hc), ho]
          rfl
        rw [hrest, trim_filter hnd.2, hf, hk, hk1, List.drop_zero, List.drop_zero, List.filter_cons_of_neg (by first | kopn_word | simp)]
        refine filter_cong fun x hx => ?_
        have hne : x ≠ r := fun e => hr (e ▸ hx)
        simp [hne]
theorem pr_drop {α β : Type} {F : α → β → Prop} {l₁ : List α} {l₂ : List β} (k : Nat) (x : Paired F l₁ l₂) : Paired F (l₁.drop k) (l₂.drop k) := by
  induction x generalizing k with
  | nil => cases k <;> exact .nil
  | cons h t ih =>
    cases k with
    | zero => exact .cons h t
    | succ k => exact ih k
theorem any_rows {h : Heap} {r : Row} : ∀ {vs : List Value} {rows : List Row}, Paired (LRow h) vs rows → vs.any (fun y => decide (rowOf h y = some r)) = decide (r ∈ rows)
  | _, _, .nil => by simp
  | _, _, .cons (b := b) x t => by
    rw [List.any_cons, any_rows t, rowOf_l x]
    by_cases e : r = b
    · subst e; simp
    · have e2 : b ≠ r := fun q => e q.symm
      simp [e, e2]
section
section
variable {p : Program} {loose : List Str} {mean : ExcName → Option Value} {mg mb : Str → Option Value} {prog : Program} {w : World} {dp un : Nat} {gs : Option (List Code)} {R : Result → Shared → Prop} {s : Shared} {base : Heap} {fs : List Env} {k : Nat}


theorem fr_kst2 {g h : Heap} {L : Addr} {m : Str → Option Value} {a b : Str × Value} (F : Fr g L h m) (h1 : m a.1 = some a.2) (h2 : m b.1 = some b.2) : Fr g L h (kstB m [a, b]) := fr_kst _ F fun q hq => by
  simp only [List.mem_cons, List.not_mem_nil, or_false] at hq
  rcases hq with rfl | rfl <;> assumption
theorem news4 {g h : Heap} {L : Addr} {news : List (Addr × Obj)} {a b c e : Addr × Obj} (N : News g L h news) (m1 : a ∈ news) (m2 : b ∈ news) (m3 : c ∈ news) (m4 : e ∈ news) : News g L h [a, b, c, e] := fun q hq => by
  simp only [List.mem_cons, List.not_mem_nil, or_false] at hq
  rcases hq with rfl | rfl | rfl | rfl
  · exact N _ m1
  · exact N _ m2
  · exact N _ m3
  · exact N _ m4
theorem has_idx {rows : List Row} {nm : Bts} : (atOf rows (some nm) = none ↔ has rows nm = false) := by
  unfold atOf has
  simp only [List.findIdx?_eq_none_iff]
  constructor
  · intro h
    rw [Bool.eq_false_iff]
    intro h2
    obtain ⟨r, hr, e⟩ := List.any_eq_true.mp h2
    exact absurd ((h r hr).symm.trans e) nofun
  · intro h r hr
    cases q : (r.1 == nm) with
    | false => rfl
    | true => exact absurd (h.symm.trans (List.any_eq_true.mpr ⟨r, hr, q⟩)) nofun
theorem setOut_form {rows : List Row} {most next : Int} {oc : Bts} {nm : Option Bts} {j : Nat} (hoc : oc ≠ #[]) : ∃ nmT nx, setOut rows most next oc nm j = (trimOf most 0 ((nmT, oc, nm.isNone) :: rows.filter (fun r => r.1 != nmT)), nx, some nmT) := by
  unfold setOut
  rw [if_neg hoc]
  cases nm with
  | none => exact ⟨_, _, rfl⟩
  | some nm => exact ⟨_, _, rfl⟩
theorem pick_from (l : List Value) {x : Int} (h : 0 ≤ x) : kms_pick l (some x) none = l.drop x.toNat := by
  unfold kms_pick kms_lo kms_hi
  simp only [if_neg (show ¬ x < 0 by omega)]
  rw [kmk_drop_min, List.take_of_length_le (by rw [List.length_drop]; omega)]
theorem hold_elim {P : Prop} (h : Hold P) : P := by
  obtain ⟨h⟩ := h
  exact h
local macro_rules | `(tactic| walk_at "exec While Compare") => `(tactic| refine hold_elim ?_)
theorem lset_empty {d l : Addr} {nv : Value} {to : Tok} (M : Amb p loose mean mg mb w dp gs un base fs s.heap 15) 
    (post : ∀ h' tk, Chg [] s.heap h' → R (.ok (.ret .none)) { s with heap := h', toks := tk }) :
    codeAny (model prog w) (AA dp fs gs un) (.call (.ref 194) ⟨[.ref d, .bytes #[] to, nv], []⟩) R s := by
  w_on
  refine enterC M [] (by first | kopn_word | simp) off_nil ?_
  intro g L' h₁ tk₂ own F N Y B X T hlt' hg hg' hL'
  k_lt hlt'
  obtain ⟨oB, oT, rfl, dB, dT⟩ := CellsAre.two Y
  simp only [List.cons_append, List.nil_append] at N
  show wpAny _ _ _ _ _ _
  k_fold
  w_strict k_steps
  show R _ _
  exact post _ _ (chg_sub hg (by first | kopn_word | simp) (by assumption) (by assumption) (by first | kopn_word | simp))

theorem lset_any {d l : Addr} {vs : List Value} {rows : List Row} {most next : Int} {oc : Bts} {nm : Option Bts} {nv : Value} {to : Tok} {j : Nat} (M : Amb p loose mean mg mb w dp gs un base fs s.heap 15) (V : VAt prog w s.heap d l vs rows most next) (O : Off base fs [d, l])
    (hoc : oc ≠ #[]) (hnv : optV nm nv) (hf : nm = none → Fresh rows next j) (hlt : rows.length ≤ 900) (hm0 : 0 ≤ most) (hnd : (rows.map (·.1)).Nodup)
    (post : ∀ v h' tk lv' vs', optV (setOut rows most next oc nm j).2.2 v → VAt prog w h' d lv' vs' (setOut rows most next oc nm j).1 most (setOut rows most next oc nm j).2.1 → (∀ v ∈ vs', v ∈ vs ∨ ∃ a, v = .ref a ∧ s.heap.get? a = none) → s.heap.get? lv' = none →
      Chg [d] s.heap h' → R (.ok (.ret v)) { s with heap := h', toks := tk }) :
    codeAny (model prog w) (AA dp fs gs un) (.call (.ref 194) ⟨[.ref d, .bytes oc to, nv], []⟩) R s := by
  obtain ⟨⟨od, tkm, tkn, hd1, hd2⟩, ⟨n, hl1⟩, hrows, lo, hsm⟩ := V
  have hne := dict_ne_list hd1 hd2 hl1
  have hocl : (oc.toList == []) = false := by
    rw [beq_eq_false_iff_ne]
    exact fun e => hoc (Array.toList_inj.mp e)
  w_on
  refine enterC M [(d, od), (l, W.listOf vs.toArray n)] (by first | kopn_word | simp [hd1, hl1]) O ?_
  intro g L' h₁ tk₂ own F N Y B X T hlt' hg hg' hL'
  k_lt hlt'
  obtain ⟨oB, oT, rfl, dB, dT⟩ := CellsAre.two Y
  have dT : oT.data = .cell (some nv) := dT
  simp only [List.cons_append, List.nil_append] at N
  show wpAny _ _ _ _ _ _
  k_fold
  have hrg := lrows_g hg hd1 hd2 hl1 hrows
  replace F := fr_kst2 (a := (Str.ofString "v", .ref d)) (b := (Str.ofString "octets", .bytes oc to)) F rfl rfl
  refine cut_next (fun s' => ∃ h tk m, s' = { s with heap := h, toks := tk } ∧ Fr g L' h (kstB m [(Str.ofString "v", .ref d), (Str.ofString "octets", .bytes oc to)]) ∧ News g L' h [(L' + 1 + 1, oB), (L' + 1, oT), (d, od), (l, W.listOf vs.toArray n)]) ?_ ?_
  · w_strict k_steps
    exact ⟨_, _, _, rfl, by assumption, by assumption⟩
  clear F N
  refine fun s' hz => exE3 hz fun h₁ tk₃ m hx => ?_
  clear hz
  obtain ⟨rfl, F, N⟩ := hx
  refine cut_next (fun s' => ∃ h tk m, s' = { s with heap := h, toks := tk } ∧ Fr g L' h (kstB m [(Str.ofString "v", .ref d), (Str.ofString "octets", .bytes oc to), (Str.ofString "own", .bool nm.isSome)]) ∧ News g L' h [(L' + 1 + 1, oB), (L' + 1, oT), (d, od), (l, W.listOf vs.toArray n)]) ?_ ?_
  · cases nm with
    | none =>
      obtain rfl : nv = .none := hnv
      w_strict k_steps
      rename Fr _ _ _ _ => F
      rename News _ _ _ _ => N
      exact ⟨_, _, _, rfl, fr_kst3 F rfl rfl rfl, N⟩
    | some nm =>
      obtain ⟨tn, rfl⟩ : ∃ t, nv = .bytes nm t := hnv
      w_strict k_steps
      rename Fr _ _ _ _ => F
      rename News _ _ _ _ => N
      exact ⟨_, _, _, rfl, fr_kst3 F rfl rfl rfl, N⟩
  clear F N
  refine fun s' hz => exE3 hz fun h₁ tk₄ m hx => ?_
  clear hz
  obtain ⟨rfl, F, N⟩ := hx
  refine cut_next (fun s' => ∃ h tk m oT od tkm tkn tt, s' = { s with heap := h, toks := tk } ∧ Fr g L' h (kstB m [(Str.ofString "v", .ref d), (Str.ofString "octets", .bytes oc to), (Str.ofString "own", .bool nm.isSome)]) ∧ News g L' h [(L' + 1 + 1, oB), (L' + 1, oT), (d, od), (l, W.listOf vs.toArray n)] ∧
     oT.data = .cell (some (.bytes ((setOut rows most next oc nm j).2.2.getD #[]) tt)) ∧ od.IsDictOf (strKind prog w) [(Str.ofString "rows", .ref l), (Str.ofString "most", .int most tkm), (Str.ofString "next", .int (setOut rows most next oc nm j).2.1 tkn)]) ?_ ?_
  · cases nm with
    | none =>
      obtain rfl : nv = .none := hnv
      obtain ⟨hin, hout, h0, h9⟩ := hf rfl
      simp only [Option.isSome_none] at F
      w_strict k_steps
      have e1 : (setOut rows most next oc none j).2.2 = some (bufName (next + j)) := by unfold setOut; rw [if_neg hoc]
      have e2 : (setOut rows most next oc none j).2.1 = next + j + 1 := by unfold setOut; rw [if_neg hoc]
      generalize setOut rows most next oc none j = so at *
      rw [e1, e2]
      clear e1 e2 hd1 hf post
      obtain ⟨N0, hN0⟩ : ∃ N0, N0 = next + (j : Int) := ⟨_, rfl⟩
      rw [← hN0]
      refine .mk ?_
      refine whl_start 0 ?_
      rename Fr _ _ _ _ => F
      rename News _ _ _ _ => N
      induction j using Nat.strongRecOn generalizing next h₁ tk₄ od tkn with
      | ind j ih =>
        refine whl_turn (k := 0) (by passes_own) ?_
        generalize hP : WhlPost prog w _ ek _ _ _ _ _ 0 = P
        w_strict k_steps
        rename Fr _ _ _ _ => F
        rename News _ _ _ _ => N
        refine wpAny_call (at_some (nm := bufName next) ((M.deeper B F rfl rfl).less (by decide)) ⟨⟨od, tkm, tkn, (N (d, od) (by k_mem)).1, hd2⟩, ⟨n, (N (l, _) (by k_mem)).1⟩, hrg.mono fun _ _ x => x.keep F.keep, lo, hsm⟩ (.cons (off1 B N rfl (by k_mem : (d, _) ∈ _)) (.cons (off1 B N rfl (by k_mem : (l, _) ∈ _)) off_nil)) fun v h₂ tk₂ hv C₂ => ?_)
        have F₂ := fr_chg0 F C₂
        have N₂ := news_chg0 N C₂
        clear F N
        try dsimp only
        cases hx : atOf rows (some (bufName next)) with
        | none =>
          rw [hx] at hv
          obtain rfl : v = .none := hv
          w_strict k_steps
          have hno := has_idx.mp hx
          have hj : j = 0 := by
            rcases Nat.eq_zero_or_pos j with e | e
            · exact e
            · have := hin 0 e
              rw [show next + ((0 : Nat) : Int) = next by simp] at this
              exact absurd (this.symm.trans hno) nofun
          subst hj
          obtain rfl : N0 = next := by rw [hN0]; simp
          rename Fr _ _ _ _ => F
          rename News _ _ _ _ => N
          rename Obj.IsDictOf _ _ _ => D
          rename _ = Data.cell _ => dTT
          exact .mk (exI8 _ _ m _ _ tkm _ _ ⟨rfl, F, news4 N (by k_mem) (by k_mem) (by k_mem) (by k_mem), dTT, D⟩)
        | some i =>
          rw [hx] at hv
          obtain ⟨ti, rfl⟩ : ∃ t, v = .int i t := hv
          w_strict k_steps
          have hj : 0 < j := by
            rcases Nat.eq_zero_or_pos j with e | e
            · subst e
              rw [show next + ((0 : Nat) : Int) = next by simp] at hout
              rw [has_idx.mpr hout] at hx
              cases hx
            · exact e
          rename Fr _ _ _ _ => F
          rename News _ _ _ _ => N
          rename Obj.IsDictOf _ _ _ => D
          subst hP
          show WhlRest _ _ _ _ _ _ _ _ _ 0 _
          refine ih (j - 1) (by omega) (next := next + 1) (hd2 := D) (hg := hg) (tk₄ := _) (hin := fun i hi => ?_) (hout := ?_) (h0 := by omega) (h9 := by omega) (hN0 := by omega) (F := F) (N := news4 N (by k_mem) (by k_mem) (by k_mem) (by k_mem))
          · have := hin (i + 1) (by omega)
            rw [show next + 1 + (i : Int) = next + ((i + 1 : Nat) : Int) by push_cast; omega]
            exact this
          · rw [show next + 1 + ((j - 1 : Nat) : Int) = next + (j : Int) by omega]
            exact hout
    | some nm =>
      obtain ⟨tn, rfl⟩ : ∃ t, nv = .bytes nm t := hnv
      simp only [Option.isSome_some] at F ⊢
      w_strict k_steps
      rename Fr _ _ _ _ => F
      rename News _ _ _ _ => N
      refine ⟨_, _, m, oT, od, tkm, tkn, tn, rfl, F, N, ?_, ?_⟩
      · rw [dT]; unfold setOut; rw [if_neg hoc]; rfl
      · unfold setOut; rw [if_neg hoc]; exact hd2
  have hd0 := hd1
  clear F N hd2 hd1
  refine fun s' hz => exE8 hz fun h₁ tk₄ m oT od tkm tkn tt hx => ?_
  clear hz
  obtain ⟨rfl, F, N, dT, hd2⟩ := hx
  obtain ⟨nmT, nx, hso⟩ := setOut_form (rows := rows) (most := most) (next := next) (nm := nm) (j := j) hoc
  rw [hso] at post dT hd2
  dsimp only [Option.getD_some] at post dT hd2
  clear hso hnv hf
  w_strict k_steps
  rename Fr _ _ _ _ => F
  rename News _ _ _ _ => N
  rename_i X' _ lX Y' _ lY
  refine ⟨pOf g (fun r => r.1 != nmT), fun v y => y = v, l, vs, rfl, isl N (by k_mem), by have := hrows.length; omega, ?_, ?_, ?_⟩
  · intro C v s₃ m₃ E' hvm hn hm hk
    obtain ⟨q, hq, hTq⟩ := pr_mem hrg v hvm
    obtain ⟨a', y1, y2, n', rfl, ha'⟩ := hTq
    have ha₃ := hk _ _ (F.keep _ _ ha')
    refine tests1 (wpAny_isTrue_Compare1 ?_ rfl)
    refine ev_row rfl rfl hn hm (.inr (LRow.isList ha₃)) (by decide) (by decide) rfl fun tk => ?_
    refine wpAny_Name (wpAny_loadName_cell rfl rfl rfl ⟨oT, hk _ _ (N (L' + 1, oT) (by k_mem)).1, dT⟩ ?_) (by decide)
    refine ne_bytes (wpAny_truthy_bool ⟨?_, _, _, rfl, fun _ _ e => e⟩)
    rw [pOf_l ⟨a', y1, y2, n', rfl, ha'⟩, bne_toList]
  · intro C v s₃ m₃ E' hvm hp hn hm hk
    exact wpAny_Name (wpAny_loadName_local rfl rfl hn hm ⟨rfl, _, _, rfl, fun _ _ e => e⟩) (by decide)
  intro D₁ h' tk' ys n' hD hDn hF hk
  obtain rfl := pr_same hF
  have P1 : Paired (LRow g) (vs.filter (pOf g fun r => r.1 != nmT)) (rows.filter fun r => r.1 != nmT) := pr_pOf hrg
  have F' := F.keeps hk
  have N' := news_more N hk hDn hD F
  have e1 := ne_new hD (N (d, od) (by k_mem)).1
  have e4 := ne_new hD (N (L' + 1 + 1, oB) (by k_mem)).1
  have e5 := ne_new hD (N (X', _) (by k_mem)).1
  have hus : ∀ v ∈ vs.filter (pOf g fun r => r.1 != nmT), v ∈ vs := fun v hv => (List.mem_filter.mp hv).1
  generalize vs.filter (pOf g fun r => r.1 != nmT) = us at *
  clear F N
  have hly : us.length ≤ 900 := by have := P1.length; have := List.length_filter_le (fun r : Row => r.1 != nmT) rows; omega
  refine add_at F' N' (isl N' (.tail _ (.head _))) (isl N' (.head _)) (by simp; omega) fun T' h₅ F₅ N₅ lT => ?_
  clear F' N'
  k_lt lT
  try dsimp only [List.cons_append, List.nil_append] at N₅
  w_strict k_steps
  rename Fr _ _ _ _ => F
  rename News _ _ _ _ => N
  rename Obj.IsDictOf _ _ _ => hd3
  rename_i h₆ od₃
  have F6 := F
  have hnd2 : (((nmT, oc, nm.isNone) :: rows.filter fun r => r.1 != nmT).map (·.1)).Nodup := by
    rw [List.map_cons, List.nodup_cons]
    refine ⟨fun hm => ?_, nodup_filter hnd⟩
    obtain ⟨r, hr, e⟩ := List.mem_map.mp hm
    have := (List.mem_filter.mp hr).2
    rw [e] at this
    simp at this
  have hXg : g.get? X' = none := (N (X', _) (by k_mem)).2.2
  have P2 : Paired (LRow h₆) (.ref X' :: us) ((nmT, oc, nm.isNone) :: rows.filter fun r => r.1 != nmT) := .cons (lrow_new N (by k_mem : (X', _) ∈ _) (by cases nm <;> rfl)) (P1.mono fun _ _ x => x.keep F.keep)
  generalize hr2 : ((nmT, oc, nm.isNone) :: rows.filter fun r => r.1 != nmT) = rows2 at P2 post hnd2
  have hl2 : (Value.ref X' :: us).length = rows2.length := P2.length
  have hl3 : rows2.length ≤ 901 := by rw [← hl2, List.length_cons]; omega
  refine ⟨pOf h₆ (fun r => r.2.2), fun v y => y = v, T', .ref X' :: us, rfl, isl N (.head _), by omega, ?_, ?_, ?_⟩
  · intro C v s₃ m₃ E' hvm hn hm hk
    obtain ⟨q, hq, hTq⟩ := pr_mem P2 v hvm
    obtain ⟨a', y1, y2, n', rfl, ha'⟩ := hTq
    have ha₃ := hk _ _ ha'
    have hT := LRow.isList ha₃
    refine tests1 ?_
    rw [pOf_l ⟨a', y1, y2, n', rfl, ha'⟩]
    w_strict k_steps
    all_goals first | exact Bool.not_not _ | exact ⟨_, _, rfl, fun _ _ e => e⟩
  · intro C v s₃ m₃ E' hvm hp hn hm hk
    exact wpAny_Name (wpAny_loadName_local rfl rfl hn hm ⟨rfl, _, _, rfl, fun _ _ e => e⟩) (by decide)
  intro D₂ h₇ tk₇ ys n₇ hD₂ hDn₂ hF₂ hk₂
  obtain rfl := pr_same hF₂
  have P3 : Paired (LRow h₆) ((Value.ref X' :: us).filter (pOf h₆ fun r => r.2.2)) (rows2.filter fun r => r.2.2) := pr_pOf P2
  have F₇ := F.keeps hk₂
  have N₇ := news_more N hk₂ hDn₂ hD₂ F
  have e1 := ne_new hD₂ (N (d, od₃) (by k_mem)).1
  have e4 := ne_new hD₂ (N (L' + 1 + 1, oB) (by k_mem)).1
  have e5 := ne_new hD₂ (N (X', _) (by k_mem)).1
  generalize hos : (Value.ref X' :: us).filter (pOf h₆ fun r => r.2.2) = os at *
  have k6 := F6.keep
  clear F N F6
  w_strict k_steps
  have hol : os.length ≤ 901 := by have := P3.length; have := List.length_filter_le (fun r : Row => r.2.2) rows2; omega
  refine kms_slice_lit (s := ⟨_, _, _, _, _⟩) F₇ N₇ (isl N₇ (.head _)) (by constructor) (by constructor) (pick_from os hm0) (fun B' h₈ F₈ N₈ lB => ?_) (by with_unfolding_all rfl) (by intro _; with_unfolding_all rfl) (by rw [sizeLine_eq]; simp; omega)
  clear F₇ N₇
  k_lt lB
  w_strict k_steps
  rename Fr _ _ _ _ => F
  rename News _ _ _ _ => N
  rename _ = Data.cell (some (.ref B')) => dB'
  rename_i h₉ oB'
  have P4 : Paired (fun v r => LRow h₆ v r ∧ LRow h₉ v r) (.ref X' :: us) rows2 := by
    subst hr2
    cases P2 with
    | cons x _ => exact .cons ⟨x, lrow_new N (by k_mem : (X', _) ∈ _) (by cases nm <;> rfl)⟩ (P1.mono fun _ _ y => ⟨y.keep k6, y.keep F.keep⟩)
  have Pb : Paired (LRow h₉) (os.drop most.toNat) ((rows2.filter fun r => r.2.2).drop most.toNat) := by
    subst hos
    exact pr_drop _ ((pr_filter (fun a b _ x => pOf_l x.1) P4).mono fun _ _ x => x.2)
  have P5 : Paired (LRow h₉) (.ref X' :: us) rows2 := P4.mono fun _ _ x => x.2
  generalize hbare : (rows2.filter fun r => r.2.2).drop most.toNat = bare at Pb
  refine ⟨pOf h₉ (fun r => !decide (r ∈ bare)), fun v y => y = v, T', .ref X' :: us, rfl, isl N (by k_mem : (T', W.listOf (Value.ref X' :: us).toArray 0) ∈ _), by omega, ?_, ?_, ?_⟩
  · intro C v s₃ m₃ E' hvm hn hm hk
    obtain ⟨q, hq, hTq⟩ := pr_mem P5 v hvm
    refine tests1 (wpAny_isTrue_Compare1 ?_ rfl)
    refine wpAny_Name (wpAny_loadName_local rfl rfl hn hm ?_) (by decide)
    refine wpAny_Name (wpAny_loadName_cell rfl rfl rfl ⟨oB', hk _ _ (N (L' + 1 + 1, oB') (by k_mem)).1, dB'⟩ ?_) (by decide)
    obtain ⟨a', y1, y2, n', rfl, ha'⟩ := id hTq
    refine PySem.SeqAt.notIn_listAt (fun y => decide (rowOf h₉ y = some q)) ⟨_, hk _ _ (N (B', _) (by k_mem)).1, rfl, _, rfl⟩ (fun y hy => ?_) ?_
    · obtain ⟨r', _, hy'⟩ := pr_mem Pb y (by simpa using hy)
      rw [rowOf_l hy']
      rw [show decide (some r' = some q) = decide (r' = q) by simp]
      exact row_eqAt (hy'.keep hk) (hTq.keep hk) (by have := M.uni; show un + 3 + 1 < 9900; omega)
    · refine wpAny_truthy_bool ⟨?_, _, _, rfl, fun _ _ e => e⟩
      rw [pOf_l hTq, List.any_toArray, any_rows Pb]
  · intro C v s₃ m₃ E' hvm hp hn hm hk
    exact wpAny_Name (wpAny_loadName_local rfl rfl hn hm ⟨rfl, _, _, rfl, fun _ _ e => e⟩) (by decide)
  intro D₃ h₁₀ tk₁₀ ys n₁₀ hD₃ hDn₃ hF₃ hk₃
  obtain rfl := pr_same hF₃
  have P6 : Paired (LRow h₉) ((Value.ref X' :: us).filter (pOf h₉ fun r => !decide (r ∈ bare))) (rows2.filter fun r => !decide (r ∈ bare)) := pr_pOf P5
  have htrim : trimOf most 0 rows2 = rows2.filter fun r => !decide (r ∈ bare) := by
    rw [trim_filter hnd2, show most - 0 = most by omega, hbare]
  have F9 := F.keep
  have F₁₀ := F.keeps hk₃
  have N₁₀ := news_more N hk₃ hDn₃ hD₃ F
  have C₉ : Chg [d] s.heap h₉ := chg_sub hg (by first | kopn_word | simp [hd0, hl1]) F N (by first | kopn_word | simp)
  have hfr : s.heap.get? D₃ = none := fresh_back C₉ (by intro a ha; rw [List.mem_singleton.mp ha]; exact ⟨_, (N (d, od₃) (by k_mem)).1⟩) hD₃
  have e1 := ne_new hD₃ (N (d, od₃) (by k_mem)).1
  have e5 := ne_new hD₃ (N (X', _) (by k_mem)).1
  have hXs : s.heap.get? X' = none := by
    cases q : s.heap.get? X' with
    | none => rfl
    | some o =>
      have e := hg _ o q (fun hm => by simp only [List.map_cons, List.map_nil, List.mem_cons, List.not_mem_nil, or_false] at hm; rcases hm with e | e; exact absurd lX.2.2.1 (e ▸ Nat.lt_irrefl _); exact absurd lX.2.2.2 (e ▸ Nat.lt_irrefl _))
      rw [hXg] at e
      cases e
  have hin : ∀ v ∈ (Value.ref X' :: us).filter (pOf h₉ fun r => !decide (r ∈ bare)), v ∈ vs ∨ ∃ a, v = .ref a ∧ s.heap.get? a = none := fun v hv => by
    rcases List.mem_cons.mp (List.mem_filter.mp hv).1 with rfl | hv
    · exact .inr ⟨X', rfl, hXs⟩
    · exact .inl (hus v hv)
  generalize hvs3 : (Value.ref X' :: us).filter (pOf h₉ fun r => !decide (r ∈ bare)) = vs3 at *
  rw [htrim] at post
  clear F N
  w_strict k_steps
  rename Fr _ _ _ _ => F
  rename News _ _ _ _ => N
  rename Obj.IsDictOf _ _ _ => hd4
  rename_i h₁₁ od₁₁
  show R _ _
  have P7 : Paired (fun v r => LRow h₉ v r ∧ LRow h₁₁ v r) (.ref X' :: us) rows2 := by
    subst hr2
    cases P5 with
    | cons x _ => exact .cons ⟨x, lrow_new N (by k_mem : (X', _) ∈ _) (by cases nm <;> rfl)⟩ (P1.mono fun _ _ y => ⟨y.keep F9, y.keep F.keep⟩)
  refine post _ _ _ D₃ vs3 ⟨tt, rfl⟩ ⟨⟨_, _, _, (N (d, _) (by k_mem)).1, hd4⟩, ⟨_, (N (D₃, _) (by k_mem)).1⟩, ?_, lo, ?_⟩ hin hfr (chg_sub hg (by first | kopn_word | simp [hd0, hl1]) F N (by first | kopn_word | simp))
  · subst hvs3
    exact (pr_filter (fun a b _ x => pOf_l x.1) P7).mono fun _ _ x => x.2
  · exact Nat.le_trans (List.length_filter_le _ _) (by omega)
end
end
noncomputable def refOf : Value → Option Addr
  | .ref a => some a
  | _ => none
noncomputable def refs (vs : List Value) : List Addr := vs.filterMap refOf
theorem mem_refs {vs : List Value} {a : Addr} (h : Value.ref a ∈ vs) : a ∈ refs vs := List.mem_filterMap.mpr ⟨_, h, rfl⟩
theorem of_refs {vs : List Value} {a : Addr} (h : a ∈ refs vs) : Value.ref a ∈ vs := by
  obtain ⟨v, hv, e⟩ := List.mem_filterMap.mp h
  cases v <;> first | (cases e; done) | (injection e with e; subst e; exact hv)

theorem row_upd {h h' : Heap} {ra : Addr} {r0 r2 : Row} {v : Value} (hk : ∀ a o, h.get? a = some o → a ≠ ra → h'.get? a = some o) (ha : LRow h (.ref ra) r0) (hv : LRow h v r2) (hne : r2.1 ≠ r0.1) : LRow h' v r2 := by
  obtain ⟨a, x1, x2, n, rfl, e⟩ := id hv
  refine ⟨a, x1, x2, n, rfl, hk _ _ e fun q => ?_⟩
  subst q
  exact hne (by rw [hv.inj ha])
theorem pr_memP {α β : Type} {F F' : α → β → Prop} {l₁ : List α} {l₂ : List β} (hm : ∀ a b, b ∈ l₂ → F a b → F' a b) (x : Paired F l₁ l₂) : Paired F' l₁ l₂ := by
  revert hm
  induction x with
  | nil => exact fun _ => .nil
  | cons h t ih => exact fun hm => .cons (hm _ _ (.head _) h) (ih fun a b hb => hm a b (.tail _ hb))
theorem pr_at2 {α β : Type} {F : α → β → Prop} {a : α} {b : β} {l₁ : List α} {l₂ : List β} (i : Nat) (x : Paired F l₁ l₂) : l₁[i]? = some a → l₂[i]? = some b → F a b := by
  induction x generalizing i with
  | nil => intro h _; simp at h
  | cons h t ih =>
    intro e e'
    cases i with
    | zero => simp at e e'; subst e e'; exact h
    | succ i => exact ih i (by simpa using e) (by simpa using e')
theorem rows_update {h h' : Heap} {ra : Addr} {r0 r' : Row} (hk : ∀ a o, h.get? a = some o → a ≠ ra → h'.get? a = some o) (hn : LRow h' (.ref ra) r') :
    ∀ {vs : List Value} {rows : List Row} (i : Nat), Paired (LRow h) vs rows → (rows.map (·.1)).Nodup → rows[i]? = some r0 → vs[i]? = some (.ref ra) → Paired (LRow h') vs (rows.set i r')
  | _, _, i, .nil, _, h1, _ => by simp at h1
  | _, _, 0, .cons (b := b) (l₂ := l₂) x t, hnd, h1, h2 => by
    simp at h1 h2
    subst h1 h2
    simp only [List.map_cons, List.nodup_cons] at hnd
    rw [List.set_cons_zero]
    exact .cons hn (pr_memP (fun a c hc y => row_upd hk x y fun e => hnd.1 (e ▸ List.mem_map_of_mem hc)) t)
  | _, _, i + 1, .cons (b := b) (l₂ := l₂) x t, hnd, h1, h2 => by
    simp only [List.map_cons, List.nodup_cons] at hnd
    have h1 : l₂[i]? = some r0 := by simpa using h1
    have h2 := (List.getElem?_cons_succ).symm.trans h2
    have y := pr_at2 i t h2 h1
    rw [List.set_cons_succ]
    exact .cons (row_upd hk y x fun e => hnd.1 (e ▸ List.mem_map_of_mem (List.mem_of_getElem? h1))) (rows_update hk hn i t hnd.2 h1 h2)

theorem VAt.keepC {prog : Program} {w : World} {h h' : Heap} {d l : Addr} {vs : List Value} {rows : List Row} {most next : Int} (x : VAt prog w h d l vs rows most next) (C : Chg [] h h') : VAt prog w h' d l vs rows most next := by
  obtain ⟨⟨od, tm, tn, hd1, hd2⟩, ⟨n, hl1⟩, hrows, lo, hsm⟩ := x
  exact ⟨⟨od, tm, tn, C _ _ hd1 (by first | kopn_word | simp), hd2⟩, ⟨n, C _ _ hl1 (by first | kopn_word | simp)⟩, hrows.mono fun _ _ y => y.keep fun b o e => C b o e (by first | kopn_word | simp), lo, hsm⟩
section
variable {p : Program} {loose : List Str} {mean : ExcName → Option Value} {mg mb : Str → Option Value} {prog : Program} {w : World} {dp un : Nat} {gs : Option (List Code)} {R : Result → Shared → Prop} {s : Shared} {base : Heap} {fs : List Env} {k : Nat}

theorem lset_all {d l : Addr} {vs : List Value} {rows : List Row} {most next : Int} {oc : Bts} {nm : Option Bts} {nv : Value} {to : Tok} {j : Nat} (M : Amb p loose mean mg mb w dp gs un base fs s.heap 15) (V : VAt prog w s.heap d l vs rows most next) (O : Off base fs [d, l])
    (hnv : optV nm nv) (hf : nm = none → oc ≠ #[] → Fresh rows next j) (hlt : rows.length ≤ 900) (hm0 : 0 ≤ most) (hnd : (rows.map (·.1)).Nodup)
    (post : ∀ v h' tk lv' vs', optV (setOut rows most next oc nm j).2.2 v → VAt prog w h' d lv' vs' (setOut rows most next oc nm j).1 most (setOut rows most next oc nm j).2.1 → (∀ v ∈ vs', v ∈ vs ∨ ∃ a, v = .ref a ∧ s.heap.get? a = none) → (lv' = l ∨ s.heap.get? lv' = none) →
      Chg [d] s.heap h' → R (.ok (.ret v)) { s with heap := h', toks := tk }) :
    codeAny (model prog w) (AA dp fs gs un) (.call (.ref 194) ⟨[.ref d, .bytes oc to, nv], []⟩) R s := by
  by_cases hoc : oc = #[]
  · subst hoc
    exact lset_empty (l := l) M fun h' tk C => post .none h' tk l vs rfl (V.keepC C) (fun v hv => .inl hv) (.inl rfl) (C.mono (by first | kopn_word | simp))
  · exact lset_any M V O hoc hnv (fun e => hf e hoc) hlt hm0 hnd fun v h' tk lv' vs' a b c e f => post v h' tk lv' vs' a b c (.inr e) f

theorem lappend_there {d l : Addr} {vs : List Value} {rows : List Row} {most next : Int} {oc : Bts} {nm : Option Bts} {nv : Value} {to : Tok} {i : Nat} {r : Row} (M : Amb p loose mean mg mb w dp gs un base fs s.heap 20) (V : VAt prog w s.heap d l vs rows most next) (O : Off base fs (d :: l :: refs vs))
    (hnv : optV nm nv) (hi : atOf rows nm = some i) (hr : rows[i]? = some r) (hnd : (rows.map (·.1)).Nodup) (hszb : r.2.1.size + oc.size ≤ 1000)
    (post : ∀ t h' tk, VAt prog w h' d l vs (rows.set i (r.1, r.2.1 ++ oc, r.2.2)) most next → Chg (refs vs) s.heap h' → R (.ok (.ret (.bytes r.1 t))) { s with heap := h', toks := tk }) :
    codeAny (model prog w) (AA dp fs gs un) (.call (.ref 201) ⟨[.ref d, .bytes oc to, nv], []⟩) R s := by
  obtain ⟨⟨od, tkm, tkn, hd1, hd2⟩, ⟨n, hl1⟩, hrows, lo, hsm⟩ := V
  have hne := dict_ne_list hd1 hd2 hl1
  obtain ⟨v, hv, hlr⟩ := pr_get hrows i r hr
  obtain ⟨ra, x1, x2, n1, rfl, ha⟩ := id hlr
  have hmr : ra ∈ refs vs := mem_refs (List.mem_of_getElem? hv)
  have q1 : @Ne Nat d ra := dict_ne_list hd1 hd2 ha
  have q2 : @Ne Nat ra l := row_ne_list ha (fun _ => nofun) hl1 hrows
  w_on
  refine enterH M [(d, od), (l, W.listOf vs.toArray n), (ra, W.listOf #[.bytes r.1 x1, .bytes r.2.1 x2, .bool (!r.2.2)] n1)] (by first | kopn_word | simp [hd1, hl1, ha]) (O.sub (by first | kopn_word | simp [hmr])) ?_
  intro g L' h₁ F N B X T hg hg' hL'
  have q1' := q1.symm
  have q2' := q2.symm
  have hrows1 : ∀ {h : Heap} {m : Str → Option Value}, Fr g L' h m → h.get? ra = some (W.listOf #[.bytes r.1 x1, .bytes r.2.1 x2, .bool (!r.2.2)] n1) → Paired (LRow h) vs rows := fun {h m} F e =>
    hrows.mono fun v r' ⟨a, t1, t2, m, e', ha'⟩ => by
      by_cases q : a = ra
      · subst q
        exact ⟨_, t1, t2, m, e', e.trans (ha.symm.trans ha')⟩
      · refine ⟨_, t1, t2, m, e', F.keep _ _ (hg _ _ ha' fun hm => ?_)⟩
        simp only [List.map_cons, List.map_nil, List.mem_cons, List.not_mem_nil, or_false] at hm
        rcases hm with e | e | e
        · exact dict_ne_list hd1 hd2 ha' e.symm
        · exact row_ne_list ha' (fun _ => nofun) hl1 hrows e
        · exact q e
  w_strict k_steps
  try dsimp only
  rename Fr _ _ _ _ => F
  rename News _ _ _ _ => N
  refine wpAny_call (at_any (nm := nm) ((M.deeper B F rfl rfl).less (by decide)) ⟨⟨od, tkm, tkn, (N (d, od) (by k_mem)).1, hd2⟩, ⟨n, (N (l, _) (by k_mem)).1⟩, hrows1 F (N (ra, _) (by k_mem)).1, lo, hsm⟩ (.cons (off1 B N rfl (by k_mem : (d, _) ∈ _)) (.cons (off1 B N rfl (by k_mem : (l, _) ∈ _)) off_nil)) hnv fun v h₂ tk₂ hv2 C₂ => ?_)
  have F₂ := fr_chg0 F C₂
  have N₂ := news_chg0 N C₂
  clear F N
  try dsimp only
  rw [hi] at hv2
  obtain ⟨ti, rfl⟩ : ∃ t, v = .int i t := hv2
  w_strict k_steps
  have hil : i < vs.length := (List.getElem?_eq_some_iff.mp hv).1
  have hvl := hrows.length
  rename Fr _ _ _ _ => F
  rename News _ _ _ _ => N
  refine item_at (isl N (by k_mem : (l, _) ∈ _)) hv (by omega) ?_
  have hT := LRow.isList (N (ra, _) (by k_mem)).1
  w_strict k_steps
  refine KBy.add_bytes (by omega) (fun _ _ => ?_)
  w_strict k_steps
  try dsimp only
  rename Fr _ _ _ _ => F
  rename News _ _ _ _ => N
  refine item_at (isl N (by k_mem : (l, _) ∈ _)) hv (by omega) ?_
  have hT := LRow.isList (N (ra, _) (by k_mem)).1
  w_strict k_steps
  try dsimp only
  rename Fr _ _ _ _ => F
  rename News _ _ _ _ => N
  refine item_at (isl N (by k_mem : (l, _) ∈ _)) hv (by omega) ?_
  have hT2 := LRow.isList (N (ra, _) (by k_mem)).1
  w_strict k_steps
  show R _ _
  have C1 : Chg [ra] s.heap _ := chg_sub hg (by first | kopn_word | simp [hd1, hl1, ha]) F N (fun q hq => by
    simp only [List.mem_cons, List.not_mem_nil, or_false] at hq
    rcases hq with rfl | rfl | rfl
    · exact .inr (by k_mem)
    · exact .inr (by k_mem)
    · exact .inl (.head _))
  refine post _ _ _ ⟨⟨od, tkm, tkn, (N (d, _) (by k_mem)).1, hd2⟩, ⟨n, (N (l, _) (by k_mem)).1⟩, ?_, lo, by simpa using hsm⟩ (C1.mono fun a ha => by rw [List.mem_singleton.mp ha]; exact hmr)
  exact rows_update (fun a o e q => C1 a o e (fun z => q (List.mem_singleton.mp z))) ⟨ra, _, _, _, rfl, (N (ra, _) (by k_mem)).1⟩ i hrows hnd hr hv
end
section
variable {p : Program} {loose : List Str} {mean : ExcName → Option Value} {mg mb : Str → Option Value} {prog : Program} {w : World} {dp un : Nat} {gs : Option (List Code)} {R : Result → Shared → Prop} {s : Shared} {base : Heap} {fs : List Env} {k : Nat}

/-- append to nothing that is there: as set -/
theorem append_new {b dx rl : Addr} {vs : List Value} {rows : List Row} {most next : Int} {oc : Bts} {nv : Value} {nm : Option Bts} {to : Tok} {j : Nat} (M : Amb p loose mean mg mb w dp gs un base fs s.heap 20) (Bu : BufAt w s.heap b dx rl vs rows most next) (O : Off base fs [b, dx, rl])
    (hnv : optV nm nv) (habs : match nm with | none => newestOf rows = none | some nm => has rows nm = false) (hf : nm = none → oc ≠ #[] → Fresh rows next j) (hnd : (rows.map (·.1)).Nodup) (hlt : rows.length ≤ 900)
    (post : ∀ v h' tk rl' vs', optV (setOut rows most next oc nm j).2.2 v → BufAt w h' b dx rl' vs' (setOut rows most next oc nm j).1 most (setOut rows most next oc nm j).2.1 → (rl' = rl ∨ s.heap.get? rl' = none) → Chg [dx, rl] s.heap h' → R (.ok (.ret v)) { s with heap := h', toks := tk }) :
    codeAny (model prog w) (AA dp fs gs un) (.call (.ref 133) ⟨[.ref b, .bytes oc to, nv], []⟩) R s := by
  obtain ⟨hb, x5, ⟨nr, hrl⟩, hrows, hsm⟩ := Bu
  refine exE5 x5 fun t1 t2 t3 tm tn hdx => ?_
  clear x5
  w_on
  have XH : (Mine.hd.heap_1 w.params).In s.heap := fun a o e => M.below.stays a o (M.KI a o e)
  refine enterH M [(b, instObj 154 dx), (dx, dictOf (bufEs w t1 t2 t3 (.int most tm) (.ref rl) (.int next tn)) 3), (rl, W.listOf vs.toArray nr)] (by first | kopn_word | simp [hb, hdx, hrl]) O ?_ (hbind := binds_K XH rfl (by k_dflt k_is) rfl rfl rfl)
  intro g L' h₁ F N B X T hg hg' hL'
  dsimp only
  k_fold
  have hrg := rows_g hg (by first | kopn_word | simp [hb, hdx, hrl]) (by first | kopn_word | simp) hrows
  cases nm with
  | none =>
    obtain rfl : nv = .none := hnv
    w_strict k_steps
    try dsimp only [List.nil_append, List.append_nil, List.cons_append]
    refine wpAny_call (newest_spec ((M.deeper B F rfl rfl).less (by decide)) (buf_news F N (.head _) (.tail _ (.head _)) (.tail _ (.tail _ (.head _))) hrg hsm) (.cons (off1 B N rfl (.head _)) (.cons (off1 B N rfl (.tail _ (.head _))) (.cons (off1 B N rfl (.tail _ (.tail _ (.head _)))) off_nil))) fun v h₂ tk₂ hv₂ C₂ => ?_)
    have F₂ := fr_chg0 F C₂
    have N₂ := news_chg0 N C₂
    clear F N
    rw [show newestOf rows = none from habs] at hv₂
    obtain rfl : v = .none := hv₂
    dsimp only
    w_strict k_steps
    try dsimp only [List.nil_append, List.append_nil, List.cons_append]
    rename Fr _ _ _ _ => F
    rename News _ _ _ _ => N
    have Ck : Chg [dx, rl] s.heap _ := chg_sub hg (by first | kopn_word | simp [hb, hdx, hrl]) F N (by first | kopn_word | simp)
    have Ck0 : Chg [] s.heap _ := chg_sub hg (by first | kopn_word | simp [hb, hdx, hrl]) F N (by first | kopn_word | simp)
    refine wpAny_call (set_any (nm := none) ((M.deeper B F rfl rfl).less (by decide)) (buf_news F N (.head _) (.tail _ (.head _)) (.tail _ (.tail _ (.head _))) hrg hsm) (.cons (off1 B N rfl (.head _)) (.cons (off1 B N rfl (.tail _ (.head _))) (.cons (off1 B N rfl (.tail _ (.tail _ (.head _)))) off_nil))) rfl hf hnd hlt fun v h₃ tk₃ rl' vs' ho Bu' hrl' C₃ => ?_)
    have fr : rl' = rl ∨ s.heap.get? rl' = none := hrl'.imp id fun e => fresh_back Ck0 (fun _ h => nomatch h) e
    clear F N
    dsimp only
    w_strict k_steps
    try show R _ _
    exact post v h₃ _ rl' vs' ho Bu' fr (Ck.trans C₃)
  | some nm =>
    obtain ⟨tn, rfl⟩ : ∃ t, nv = .bytes nm t := hnv
    have hh : has rows nm = false := habs
    w_strict k_steps
    try dsimp only [List.nil_append, List.append_nil, List.cons_append]
    rename Fr _ _ _ _ => F
    rename News _ _ _ _ => N
    refine wpAny_call (names_spec ((M.deeper B F rfl rfl).less (by decide)) (buf_news F N (.head _) (.tail _ (.head _)) (.tail _ (.tail _ (.head _))) hrg hsm) (.cons (off1 B N rfl (.head _)) (.cons (off1 B N rfl (.tail _ (.head _))) (.cons (off1 B N rfl (.tail _ (.tail _ (.head _)))) off_nil))) fun D us nD h₃ tk₃ hD hDn P C₃ => ?_)
    have F₃ := fr_chg0 F C₃
    have N₃ := news_chg0 N C₃
    clear F N
    dsimp only
    refine notIn_names P (isl_at hDn) ?_
    w_strict k_steps
    try dsimp only [List.nil_append, List.append_nil, List.cons_append]
    have F := F₃
    have N := N₃
    clear F₃ N₃
    have Ck : Chg [dx, rl] s.heap _ := chg_sub hg (by first | kopn_word | simp [hb, hdx, hrl]) F N (by first | kopn_word | simp)
    have Ck0 : Chg [] s.heap _ := chg_sub hg (by first | kopn_word | simp [hb, hdx, hrl]) F N (by first | kopn_word | simp)
    refine wpAny_call (set_any (nm := some nm) ((M.deeper B F rfl rfl).less (by decide)) (buf_news F N (.head _) (.tail _ (.head _)) (.tail _ (.tail _ (.head _))) hrg hsm) (.cons (off1 B N rfl (.head _)) (.cons (off1 B N rfl (.tail _ (.head _))) (.cons (off1 B N rfl (.tail _ (.tail _ (.head _)))) off_nil))) ⟨_, rfl⟩ hf hnd hlt fun v h₃ tk₃ rl' vs' ho Bu' hrl' C₃ => ?_)
    have fr : rl' = rl ∨ s.heap.get? rl' = none := hrl'.imp id fun e => fresh_back Ck0 (fun _ h => nomatch h) e
    clear F N
    dsimp only
    w_strict k_steps
    try show R _ _
    exact post v h₃ _ rl' vs' ho Bu' fr (Ck.trans C₃)

end
theorem idx_of {rows : List Row} (hnd : (rows.map (·.1)).Nodup) : ∀ {i : Nat} {r : Row}, rows[i]? = some r → rows.findIdx? (fun x => x.1 == r.1) = some i := by
  intro i r hr
  obtain ⟨h1, h2⟩ := List.getElem?_eq_some_iff.mp hr
  refine List.findIdx?_eq_some_iff_getElem.mpr ⟨h1, by rw [h2]; simp, fun j hj => ?_⟩
  have hj' : j < rows.length := Nat.lt_trans hj h1
  simp only [beq_iff_eq]
  intro e
  have e2 : (rows.map (·.1))[j]'(by simpa using hj') = (rows.map (·.1))[i]'(by simpa using h1) := by
    simp only [List.getElem_map]
    rw [e, h2]
  exact Nat.ne_of_lt hj ((List.getElem_inj hnd).mp e2)
theorem find_at {rows : List Row} {q : Row → Bool} : ∀ {i : Nat}, rows.findIdx? q = some i → ∃ r, rows[i]? = some r ∧ rows.find? q = some r ∧ q r = true := by
  intro i h
  obtain ⟨h1, h2, h3⟩ := List.findIdx?_eq_some_iff_getElem.mp h
  refine ⟨rows[i], List.getElem?_eq_getElem h1, ?_, h2⟩
  rw [List.find?_eq_some_iff_getElem]
  exact ⟨h2, i, h1, rfl, fun j hj => by simpa using h3 j hj⟩
theorem at_newest {rows : List Row} {i : Nat} (hnd : (rows.map (·.1)).Nodup) (hi : atOf rows none = some i) : ∃ r, rows[i]? = some r ∧ rows.find? (·.2.2) = some r ∧ newestOf rows = some r.1 ∧ rows.findIdx? (fun x => x.1 == r.1) = some i := by
  obtain ⟨r, h1, h2, _⟩ := find_at (show rows.findIdx? (fun r => r.2.2) = some i from hi)
  refine ⟨r, h1, h2, ?_, idx_of hnd h1⟩
  unfold newestOf
  rw [h2]
  rfl
theorem at_no {rows : List Row} (hi : atOf rows none = none) : rows.find? (·.2.2) = none ∧ newestOf rows = none := by
  have h : rows.findIdx? (fun r => r.2.2) = none := hi
  have h2 : rows.find? (·.2.2) = none := by
    rw [List.find?_eq_none]
    intro x hx
    rw [(List.findIdx?_eq_none_iff.mp h) x hx]
    nofun
  exact ⟨h2, by unfold newestOf; rw [h2]; rfl⟩
section
variable {p : Program} {loose : List Str} {mean : ExcName → Option Value} {mg mb : Str → Option Value} {prog : Program} {w : World} {dp un : Nat} {gs : Option (List Code)} {R : Result → Shared → Prop} {s : Shared} {base : Heap} {fs : List Env} {k : Nat}
  {b dx rl : Addr} {vs : List Value} {rows : List Row} {most next : Int} {nm : Option Bts} {nv : Value} {i j : Nat} {r : Row}
theorem drop_ok (M : Amb p loose mean mg mb w dp gs un base fs s.heap 10) (Bu : BufAt w s.heap b dx rl vs rows most next) (O : Off base fs [b, dx, rl]) (hnd : (rows.map (·.1)).Nodup) (hnv : optV nm nv) (hi : atOf rows nm = some i)
    (post : ∀ h' tk vs', BufAt w h' b dx rl vs' (rows.eraseIdx i) most next → Chg [rl] s.heap h' → R (.ok (.ret .none)) { s with heap := h', toks := tk }) :
    codeAny (model prog w) (AA dp fs gs un) (.call (.ref 146) ⟨[.ref b, nv], []⟩) R s := by
  cases nm with
  | none =>
    obtain rfl : nv = .none := hnv
    obtain ⟨r, h1, h2, h3, h4⟩ := at_newest hnd hi
    exact drop_newest M Bu O hnd h3 h4 post
  | some nm =>
    obtain ⟨t, rfl⟩ : ∃ t, nv = .bytes nm t := hnv
    exact drop_some M Bu O hnd hi post
theorem drop_no (M : Amb p loose mean mg mb w dp gs un base fs s.heap 10) (Bu : BufAt w s.heap b dx rl vs rows most next) (O : Off base fs [b, dx, rl]) (hnv : optV nm nv) (hi : atOf rows nm = none)
    (post : ∀ e h' tk, Raised fs s.heap (nm.getD #[]) e h' → R (.error (.ref e)) { s with heap := h', toks := tk }) :
    codeAny (model prog w) (AA dp fs gs un) (.call (.ref 146) ⟨[.ref b, nv], []⟩) R s := by
  cases nm with
  | none =>
    obtain rfl : nv = .none := hnv
    exact drop_bare M Bu O (at_no hi).2 post
  | some nm =>
    obtain ⟨t, rfl⟩ : ∃ t, nv = .bytes nm t := hnv
    exact drop_raise M Bu O hi post
theorem paste_ok (M : Amb p loose mean mg mb w dp gs un base fs s.heap 10) (Bu : BufAt w s.heap b dx rl vs rows most next) (O : Off base fs [b, dx, rl]) (hnd : (rows.map (·.1)).Nodup) (hnv : optV nm nv) (hi : atOf rows nm = some i) (hr : rows[i]? = some r)
    (post : ∀ t h' tk, Chg [] s.heap h' → R (.ok (.ret (.bytes r.2.1 t))) { s with heap := h', toks := tk }) :
    codeAny (model prog w) (AA dp fs gs un) (.call (.ref 125) ⟨[.ref b, nv], []⟩) R s := by
  cases nm with
  | none =>
    obtain rfl : nv = .none := hnv
    obtain ⟨r', h1, h2, h3, h4⟩ := at_newest hnd hi
    rw [hr] at h1
    cases h1
    refine paste_none M Bu O hnd fun v h' tk hv C => ?_
    rw [h2] at hv
    obtain ⟨t, rfl⟩ : ∃ t, v = .bytes r.2.1 t := hv
    exact post t h' tk C
  | some nm =>
    obtain ⟨t, rfl⟩ : ∃ t, nv = .bytes nm t := hnv
    exact paste_some M Bu O hi hr post
theorem paste_bare (M : Amb p loose mean mg mb w dp gs un base fs s.heap 10) (Bu : BufAt w s.heap b dx rl vs rows most next) (O : Off base fs [b, dx, rl]) (hnd : (rows.map (·.1)).Nodup) (hi : atOf rows none = none)
    (post : ∀ h' tk, Chg [] s.heap h' → R (.ok (.ret .none)) { s with heap := h', toks := tk }) :
    codeAny (model prog w) (AA dp fs gs un) (.call (.ref 125) ⟨[.ref b, .none], []⟩) R s := by
  refine paste_none M Bu O hnd fun v h' tk hv C => ?_
  rw [(at_no hi).1] at hv
  obtain rfl : v = .none := hv
  exact post h' tk C

/-- what appending makes of the rows -/
noncomputable def appOut (rows : List Row) (most next : Int) (oc : Bts) (nm : Option Bts) (j : Nat) : List Row × Int × Option Bts := match atOf rows nm with
  | some i => match rows[i]? with
    | some r => (rows.set i (r.1, r.2.1 ++ oc, r.2.2), next, some r.1)
    | none => (rows, next, none)
  | none => setOut rows most next oc nm j
theorem app_some {oc : Bts} (hi : atOf rows nm = some i) (hr : rows[i]? = some r) : appOut rows most next oc nm j = (rows.set i (r.1, r.2.1 ++ oc, r.2.2), next, some r.1) := by
  unfold appOut
  rw [hi]
  simp only [hr]
theorem app_none {oc : Bts} (hi : atOf rows nm = none) : appOut rows most next oc nm j = setOut rows most next oc nm j := by
  unfold appOut
  rw [hi]
theorem append_any {oc : Bts} {to : Tok} (M : Amb p loose mean mg mb w dp gs un base fs s.heap 20) (Bu : BufAt w s.heap b dx rl vs rows most next) (O : Off base fs [b, dx, rl]) (hnd : (rows.map (·.1)).Nodup) (hnv : optV nm nv)
    (hf : nm = none → oc ≠ #[] → Fresh rows next j) (hlt : rows.length ≤ 900) (hsz : ∀ r ∈ rows, r.2.1.size + oc.size ≤ 1000)
    (post : ∀ v h' tk rl' vs', optV (appOut rows most next oc nm j).2.2 v → BufAt w h' b dx rl' vs' (appOut rows most next oc nm j).1 most (appOut rows most next oc nm j).2.1 → (rl' = rl ∨ s.heap.get? rl' = none) → Chg [dx, rl] s.heap h' → R (.ok (.ret v)) { s with heap := h', toks := tk }) :
    codeAny (model prog w) (AA dp fs gs un) (.call (.ref 133) ⟨[.ref b, .bytes oc to, nv], []⟩) R s := by
  cases hi : atOf rows nm with
  | none =>
    rw [app_none hi] at post
    refine append_new M Bu O hnv ?_ hf hnd hlt post
    cases nm with
    | none => exact (at_no hi).2
    | some nm =>
      show has rows nm = false
      unfold has
      rw [Bool.eq_false_iff]
      intro h2
      obtain ⟨r, hr, e⟩ := List.any_eq_true.mp h2
      have h : rows.findIdx? (fun r => r.1 == nm) = none := hi
      exact absurd (((List.findIdx?_eq_none_iff.mp h) r hr).symm.trans e) nofun
  | some i =>
    cases nm with
    | none =>
      obtain ⟨r, h1, h2, h3, h4⟩ := at_newest hnd hi
      rw [app_some hi h1] at post
      exact append_there M Bu O hnv (.inr ⟨rfl, h3⟩) h4 h1 (hsz r (List.mem_of_getElem? h1)) fun t h' tk vs' Bu' C => post _ h' tk rl vs' ⟨t, rfl⟩ Bu' (.inl rfl) (C.mono (by first | kopn_word | simp))
    | some nm =>
      obtain ⟨r, h1, h2, h3⟩ := find_at (show rows.findIdx? (fun r => r.1 == nm) = some i from hi)
      have e : r.1 = nm := by simpa using h3
      subst e
      rw [app_some hi h1] at post
      exact append_there M Bu O hnv (.inl rfl) hi h1 (hsz r (List.mem_of_getElem? h1)) fun t h' tk vs' Bu' C => post _ h' tk rl vs' ⟨t, rfl⟩ Bu' (.inl rfl) (C.mono (by first | kopn_word | simp))
end
section
variable {p : Program} {loose : List Str} {mean : ExcName → Option Value} {mg mb : Str → Option Value} {prog : Program} {w : World} {dp un : Nat} {gs : Option (List Code)} {R : Result → Shared → Prop} {s : Shared} {base : Heap} {fs : List Env} {k : Nat}

theorem lappend_new {d l : Addr} {vs : List Value} {rows : List Row} {most next : Int} {oc : Bts} {nm : Option Bts} {nv : Value} {to : Tok} {j : Nat} (M : Amb p loose mean mg mb w dp gs un base fs s.heap 20) (V : VAt prog w s.heap d l vs rows most next) (O : Off base fs [d, l])
    (hnv : optV nm nv) (hi : atOf rows nm = none) (hf : nm = none → oc ≠ #[] → Fresh rows next j) (hlt : rows.length ≤ 900) (hm0 : 0 ≤ most) (hnd : (rows.map (·.1)).Nodup)
    (post : ∀ v h' tk lv' vs', optV (setOut rows most next oc nm j).2.2 v → VAt prog w h' d lv' vs' (setOut rows most next oc nm j).1 most (setOut rows most next oc nm j).2.1 → (∀ v ∈ vs', v ∈ vs ∨ ∃ a, v = .ref a ∧ s.heap.get? a = none) → (lv' = l ∨ s.heap.get? lv' = none) →
      Chg [d] s.heap h' → R (.ok (.ret v)) { s with heap := h', toks := tk }) :
    codeAny (model prog w) (AA dp fs gs un) (.call (.ref 201) ⟨[.ref d, .bytes oc to, nv], []⟩) R s := by
  obtain ⟨⟨od, tkm, tkn, hd1, hd2⟩, ⟨n, hl1⟩, hrows, lo, hsm⟩ := V
  have hne := dict_ne_list hd1 hd2 hl1
  w_on
  refine enterH M [(d, od), (l, W.listOf vs.toArray n)] (by first | kopn_word | simp [hd1, hl1]) O ?_
  intro g L' h₁ F N B X T hg hg' hL'
  have hrg := lrows_g hg hd1 hd2 hl1 hrows
  dsimp only
  w_strict k_steps
  try dsimp only
  rename Fr _ _ _ _ => F
  rename News _ _ _ _ => N
  refine wpAny_call (at_any (nm := nm) ((M.deeper B F rfl rfl).less (by decide)) ⟨⟨od, tkm, tkn, (N (d, od) (by k_mem)).1, hd2⟩, ⟨n, (N (l, _) (by k_mem)).1⟩, hrg.mono fun _ _ x => x.keep F.keep, lo, hsm⟩ (.cons (off1 B N rfl (by k_mem : (d, _) ∈ _)) (.cons (off1 B N rfl (by k_mem : (l, _) ∈ _)) off_nil)) hnv fun v h₂ tk₂ hv2 C₂ => ?_)
  have F₂ := fr_chg0 F C₂
  have N₂ := news_chg0 N C₂
  clear F N
  try dsimp only
  rw [hi] at hv2
  obtain rfl : v = .none := hv2
  w_strict k_steps
  try dsimp only
  rename Fr _ _ _ _ => F
  rename News _ _ _ _ => N
  have C₀ : Chg [] s.heap _ := chg_sub hg (by first | kopn_word | simp [hd1, hl1]) F N (by first | kopn_word | simp)
  refine wpAny_call (lset_all (nm := nm) (j := j) ((M.deeper B F rfl rfl).less (by decide)) ⟨⟨od, tkm, tkn, (N (d, od) (by k_mem)).1, hd2⟩, ⟨n, (N (l, _) (by k_mem)).1⟩, hrg.mono fun _ _ x => x.keep F.keep, lo, hsm⟩ (.cons (off1 B N rfl (by k_mem : (d, _) ∈ _)) (.cons (off1 B N rfl (by k_mem : (l, _) ∈ _)) off_nil)) hnv hf hlt hm0 hnd fun v h₃ tk₃ lv' vs' hv3 V₃ hvs hlv C₃ => ?_)
  show R _ _
  have back : ∀ a, Heap.get? _ a = none → s.heap.get? a = none := fun a e => fresh_back C₀ (fun _ h => nomatch h) e
  refine post _ _ _ lv' vs' hv3 V₃ (fun v hv => (hvs v hv).imp id fun ⟨a, e, h⟩ => ⟨a, e, back a h⟩) (hlv.imp id (back _)) ((C₀.mono (by first | kopn_word | simp)).trans C₃)
theorem lappend_any {d l : Addr} {vs : List Value} {rows : List Row} {most next : Int} {oc : Bts} {nm : Option Bts} {nv : Value} {to : Tok} {j : Nat} (M : Amb p loose mean mg mb w dp gs un base fs s.heap 20) (V : VAt prog w s.heap d l vs rows most next) (O : Off base fs (d :: l :: refs vs))
    (hnv : optV nm nv) (hf : nm = none → oc ≠ #[] → Fresh rows next j) (hlt : rows.length ≤ 900) (hm0 : 0 ≤ most) (hnd : (rows.map (·.1)).Nodup) (hsz : ∀ r ∈ rows, r.2.1.size + oc.size ≤ 1000)
    (post : ∀ v h' tk lv' vs', optV (appOut rows most next oc nm j).2.2 v → VAt prog w h' d lv' vs' (appOut rows most next oc nm j).1 most (appOut rows most next oc nm j).2.1 → (∀ v ∈ vs', v ∈ vs ∨ ∃ a, v = .ref a ∧ s.heap.get? a = none) → (lv' = l ∨ s.heap.get? lv' = none) →
      Chg (d :: refs vs) s.heap h' → R (.ok (.ret v)) { s with heap := h', toks := tk }) :
    codeAny (model prog w) (AA dp fs gs un) (.call (.ref 201) ⟨[.ref d, .bytes oc to, nv], []⟩) R s := by
  cases hi : atOf rows nm with
  | none =>
    rw [app_none hi] at post
    exact lappend_new M V (O.sub (by simp +contextual)) hnv hi hf hlt hm0 hnd fun v h' tk lv' vs' a b c e C => post v h' tk lv' vs' a b c e (C.mono (by first | kopn_word | simp))
  | some i =>
    have h1 : ∃ r, rows[i]? = some r := by
      cases nm with
      | none => obtain ⟨r, h, _⟩ := at_newest hnd hi; exact ⟨r, h⟩
      | some nm => obtain ⟨r, h, _⟩ := find_at (show rows.findIdx? (fun r => r.1 == nm) = some i from hi); exact ⟨r, h⟩
    obtain ⟨r, hr⟩ := h1
    rw [app_some hi hr] at post
    exact lappend_there M V O hnv hi hr hnd (hsz r (List.mem_of_getElem? hr)) fun t h' tk V' C => post _ h' tk l vs ⟨t, rfl⟩ V' (fun v hv => .inl hv) (.inl rfl) (C.mono fun a ha => .tail _ ha)
end
section
variable {p : Program} {loose : List Str} {mean : ExcName → Option Value} {mg mb : Str → Option Value} {prog : Program} {w : World} {dp un : Nat} {gs : Option (List Code)} {R : Result → Shared → Prop} {s : Shared} {base : Heap} {fs : List Env} {k : Nat}

noncomputable abbrev frs (fs : List Env) : List Addr := fs.filterMap (·.frame)
/-- all stands but Δ, and the slots of the frames -/
noncomputable def Slt (fs : List Env) (Δ : List Addr) (h h' : Heap) : Prop :=
  (∀ a o, h.get? a = some o → a ∉ Δ → a ∉ frs fs → h'.get? a = some o) ∧ (∀ a o, h.get? a = some o → a ∈ frs fs → ∃ sl, h'.get? a = some { o with slots := sl })
theorem Slt.of {Δ : List Addr} {h h' : Heap} (C : Chg Δ h h') (hd : ∀ a ∈ Δ, a ∉ frs fs) : Slt fs Δ h h' :=
  ⟨fun a o e n _ => C a o e n, fun a o e m => ⟨o.slots, C a o e fun q => hd a q m⟩⟩
theorem Slt.trans {Δ : List Addr} {h₁ h₂ h₃ : Heap} (x : Slt fs Δ h₁ h₂) (y : Slt fs Δ h₂ h₃) : Slt fs Δ h₁ h₃ :=
  ⟨fun a o e n m => y.1 a o (x.1 a o e n m) n m, fun a o e m => by
    obtain ⟨sl, hs⟩ := x.2 a o e m
    obtain ⟨sl', hs'⟩ := y.2 a _ hs m
    exact ⟨sl', hs'⟩⟩
theorem Slt.mono {Δ Δ' : List Addr} {h h' : Heap} (x : Slt fs Δ h h') (hs : ∀ a ∈ Δ, a ∈ Δ') : Slt fs Δ' h h' := ⟨fun a o e n m => x.1 a o e (fun q => n (hs a q)) m, x.2⟩

theorem frs_cons {env : Env} {L : Addr} (hf : env.frame = some L) : frs (env :: fs) = L :: frs fs := by
  show (env :: fs).filterMap (·.frame) = _
  rw [List.filterMap_cons, hf]

theorem turn {g h h' : Heap} {L : Addr} {m : Str → Option Value} {env : Env} {Δ : List Addr} (B : Below (AA dp fs gs un) base fs g) (F : Fr g L h m) (hf : env.frame = some L) (S : Slt (env :: fs) Δ h h') (hΔ : ∀ a ∈ Δ, g.get? a = none ∧ a ≠ L) :
    ∃ g', KtsTurn (frs fs) g g' ∧ Fr g' L h' m ∧ Below (AA dp fs gs un) base fs g' := by
  have hfl := frs_cons (fs := fs) hf
  have hnL : L ∉ Δ := fun q => (hΔ L q).2 rfl
  obtain ⟨T, S'⟩ := kts_turn_at (h := h') (fs := frs fs) (g := g)
    (fun b hb => by
      obtain ⟨_, o, ho, _⟩ := B.frames.mem hb
      exact ⟨o, ho⟩)
    (fun b o e nm => S.1 b o (F.keep b o e) (fun q => by rw [(hΔ b q).1] at e; cases e) (fun q => by
      rw [hfl] at q
      rcases List.mem_cons.mp q with rfl | q
      · rw [kts_self F] at e; cases e
      · exact nm q))
    (fun b o e hm => S.2 b o (F.keep b o e) (by rw [hfl]; exact .tail _ hm))
  refine ⟨_, T, ⟨?_, S', by rw [T.size]; exact F.above⟩, ⟨B.stack, fun b o e => T.other b o (B.stays b o e) (fun hm => by
    rw [(B.frames.mem hm).1] at e
    cases e), B.frames.of_keeps fun b o e _ => ?_⟩⟩
  · obtain ⟨oL, es, ep, hL, r⟩ := F.ns
    obtain ⟨sl, hs⟩ := S.2 L oL hL (by rw [hfl]; exact .head _)
    exact ⟨_, es, ep, hs, r⟩
  · obtain ⟨sl, hs⟩ := T.up e
    exact ⟨_, hs, rfl⟩
theorem turn_news {g g' h h' : Heap} {L : Addr} {env : Env} {Δ : List Addr} {news : List (Addr × Obj)} (B : Below (AA dp fs gs un) base fs g) (N : News g L h news) (hf : env.frame = some L) (S : Slt (env :: fs) Δ h h') (T : KtsTurn (frs fs) g g')
    (hn : ∀ q ∈ news, q.1 ∉ Δ) : News g' L h' news := fun q hq => by
  have hfl := frs_cons (fs := fs) hf
  refine ⟨S.1 _ _ (N q hq).1 (hn q hq) fun z => ?_, (N q hq).2.1, T.none_ _ (N q hq).2.2⟩
  rw [hfl] at z
  rcases List.mem_cons.mp z with e | z
  · exact (N q hq).2.1 e
  · obtain ⟨_, o, ho, _⟩ := B.frames.mem z
    rw [(N q hq).2.2] at ho
    cases ho
/-- into a lambda without parameters -/
theorem enterL {f c' : Addr} {name qual : Str} {params : Arguments} {body : PySem.Expr} {scope : Scope} {cl : List (Str × Addr)} {pm ctv : Value}
    (M : Amb p loose mean mg mb w dp gs un base fs s.heap (k + 1)) (cells : List (Addr × Obj))
    (hc : ∀ q ∈ cells, s.heap.get? q.1 = some q.2) (ho' : Off base fs (cells.map (·.1)))
    (hf : s.heap.get? f = some (kla_obj name qual params body scope cl pm c' ctv)) (hcd : s.heap.CodeRec (.ref c') qual)
    (h : ∀ g L' h₁, Fr g L' h₁ (fun _ => none) → News g L' h₁ cells → Below (AA dp fs gs un) base fs g → (Mine.hd.heap_1 w.params).In g → Top p loose mean mg mb g →
      (∀ a o, s.heap.get? a = some o → a ∉ cells.map (·.1) → g.get? a = some o) → (∀ a o, s.heap.get? a = some o → h₁.get? a = some o) → L' = s.heap.objs.size →
      wpAny (model prog w) ((AA dp fs gs un).deeper (envX qual scope L' f (.ref c') cl)) (eval body (envX qual scope L' f (.ref c') cl))
        (fun v s' => R (.ok (.ret v)) s')
        (fun e s' => wpAny (model prog w) ((AA dp fs gs un).deeper (envX qual scope L' f (.ref c') cl)) (leaving (envX qual scope L' f (.ref c') cl) e) (fun _ s'' => R (.error e) s'') (fun e' s'' => R (.error e') s'') s')
        { s with heap := h₁, toks := s.toks + 0 })
    (hbind : bindArgs (kla_fn name qual params body scope cl pm (.ref c') ctv) ⟨[], []⟩ = pure [] := by rfl)
    (hco : scope.isCoroutine = false := by rfl) (hgen : scope.isGenerator = false := by rfl) (hk : scope.kind = .function := by rfl)
    (hcell : ∀ x ∈ scope.names, x.2 ≠ .cell := by decide) : codeAny (model prog w) (AA dp fs gs un) (.call (.ref f) ⟨[], []⟩) R s := by
  have hroom : (AA dp fs gs un).depth < recursionLimit := by have := M.dep; unfold recursionLimit; show dp < 1000; omega
  have B := M.below
  have nm : ∀ b o, base.get? b = some o → b ∉ cells.map (·.1) := fun b o e q => by rw [(ho' b q).1] at e; cases e
  have st : base.StaysIn (hideAll s.heap (cells.map (·.1))) := fun b o e => hideAll_get _ (B.stays b o e) (nm b o e)
  refine kla_callFunE hroom hf rfl hco hgen rfl hcd ?_
  rw [hbind]
  refine wpAny_pure (wpAny_newFunctionEnv (binds := []) hcell (fun _ h => nomatch h) (fun h₁ hns hsb => ⟨((M.top.nolimit).keeps B.stays).fresh _ hsb, ?_⟩) hk)
  show codeAny _ _ (.expr body (envX qual scope s.heap.objs.size f (.ref c') cl)) _ _
  have hk₁ : ∀ b o, s.heap.get? b = some o → h₁.get? b = some o := fun b o e => hsb.extBut b o (Nat.ne_of_lt (Heap.lt_size e)) (Heap.get?_push_of_some _ e)
  refine kla_codeExpr (h (hideAll s.heap (cells.map (·.1))) s.heap.objs.size h₁ ⟨hns, fun b o e => hk₁ b o (of_hideAll _ e), Nat.le_of_eq (hideAll_size _ _)⟩
    (fun q hq => ⟨hk₁ _ _ (hc q hq), Nat.ne_of_lt (Heap.lt_size (hc q hq)), hideAll_none _ (List.mem_map_of_mem hq)⟩)
    ⟨B.stack, st, funFrames_hideAll B.frames fun env he a ha hf => (ho' a ha).2 (List.mem_filterMap.mpr ⟨env, he, hf⟩)⟩
    (M.KI.keeps fun b o e => st b o e) (M.top.keeps fun b o e => st b o e) (fun a o e n => hideAll_get _ e n) hk₁ rfl)

noncomputable def TabOk (q : Str) (h : Heap) (P : Addr) (ps : Array Value) : Prop := h.get? P = some (tabObj ps) ∧ TriplesOk ps.toList ∧ ∀ pos v, codeAmong pos ps.toList = some v → ∃ c', v = .ref c' ∧ c' ≠ P ∧ h.CodeRec (.ref c') q
theorem TabOk.keep {q : Str} {h h' : Heap} {P : Addr} {ps : Array Value} (x : TabOk q h P ps) (k : ∀ a o, h.get? a = some o → (∀ vs, o.data ≠ .fields vs) ∨ h'.get? a = some o) : TabOk q h' P ps := by
  obtain ⟨h1, h2, h3⟩ := x
  refine ⟨(k _ _ h1).resolve_left fun z => z ps rfl, h2, fun pos v e => ?_⟩
  obtain ⟨c', rfl, hne, c, oc, vs, t, e1, hoc, hd, hv⟩ := h3 pos v e
  exact ⟨c', rfl, hne, c, oc, vs, t, e1, (k _ _ hoc).resolve_left fun z => z vs hd, hd, hv⟩
theorem codeAmong_app {pos pos' : Pos} {c : Value} : ∀ (l : List Value), TriplesOk l → ∀ v, codeAmong pos (l ++ [rawInt pos'.line, rawInt pos'.col, c]) = some v → codeAmong pos l = some v ∨ v = c := by
  intro l h
  fun_induction TriplesOk l with
  | case1 =>
    intro v e
    simp only [List.nil_append, codeAmong, rawInt] at e
    split at e
    · cases e; exact .inr rfl
    · cases e
  | case2 a t b u x rest ih =>
    intro v e
    simp only [List.cons_append, codeAmong] at e ⊢
    split at e
    · rename_i hh; rw [if_pos hh]; exact .inl e
    · rename_i hh; rw [if_neg hh]; exact ih h v e
  | case3 => cases h
theorem triples_app {pos' : Pos} {c : Value} : ∀ (l : List Value), TriplesOk l → TriplesOk (l ++ [rawInt pos'.line, rawInt pos'.col, c]) := by
  intro l h
  fun_induction TriplesOk l with
  | case1 => simp [TriplesOk, rawInt]
  | case2 a t b u x rest ih =>
    simp only [List.cons_append, TriplesOk]
    exact ih h
  | case3 => cases h
end

theorem codeRec_keeps {h h' : Heap} {v : Value} {q : Str} (k : ∀ b o, h.get? b = some o → h'.get? b = some o) (x : h.CodeRec v q) : h'.CodeRec v q :=
  by obtain ⟨c, oc, vs, t, e1, hoc, hd, hv⟩ := x; exact ⟨c, oc, vs, t, e1, k _ _ hoc, hd, hv⟩
section
variable {M : Model} {A : Around} {E : Value → Shared → Prop} {s : Shared} {h₀ : Heap} {L a c P : Addr} {m mg mb : Str → Option Value} {cn : Str} {cs : Scope} {ccd : Value} {cl : List (Str × Addr)} {news : List (Addr × Obj)} {g : Obj → List (Addr × Obj)}
  {p : Program} {loose : List Str} {mean : ExcName → Option Value} {name qual : Str} {params : Arguments} {body : PySem.Expr} {scope : Scope} {ps : Array Value} {pos : Pos} {firstLine : Nat} {clos : List (Str × Addr)}
end
section
variable {p : Program} {loose : List Str} {mean : ExcName → Option Value} {mg mb : Str → Option Value} {prog : Program} {w : World} {dp un : Nat} {gs : Option (List Code)} {R : Result → Shared → Prop} {s : Shared} {base : Heap} {fs : List Env} {k : Nat}
noncomputable abbrev tup2 (x y : Value) (n : Nat) : Obj := { cls := .type "tuple", data := .seq #[x, y] n }
theorem off_push {l : List Addr} {h : Heap} {env : Env} (O : Off base fs l) (hl : ∀ a ∈ l, ∃ o, h.get? a = some o) (hf : env.frame = some h.objs.size) : Off base (env :: fs) l := fun a ha => by
  refine ⟨(O a ha).1, fun z => ?_⟩
  have z : a ∈ frs (env :: fs) := z
  rw [frs_cons hf] at z
  rcases List.mem_cons.mp z with e | z
  · obtain ⟨o, ho⟩ := hl a ha
    exact absurd (Heap.lt_size ho) (e ▸ Nat.lt_irrefl _)
  · exact (O a ha).2 z

open Classical in
/-- all that stands above the ground but the frame -/
noncomputable def restOf (g : Heap) (L : Addr) (h : Heap) : List (Addr × Obj) := (List.range h.objs.size).filterMap fun a => if a = L ∨ g.get? a ≠ none then none else (h.get? a).map fun o => (a, o)
theorem rest_mem {g h : Heap} {L a : Addr} {o : Obj} (e : h.get? a = some o) (hL : a ≠ L) (hg : g.get? a = none) : (a, o) ∈ restOf g L h := by
  refine List.mem_filterMap.mpr ⟨a, List.mem_range.mpr (Heap.lt_size e), ?_⟩
  rw [if_neg (fun q => q.elim hL fun q => q hg), e]
  rfl
theorem rest_news {g h : Heap} {L : Addr} : News g L h (restOf g L h) := fun q hq => by
  obtain ⟨a, _, e⟩ := List.mem_filterMap.mp hq
  split at e
  · cases e
  · rename_i hn
    cases z : h.get? a with
    | none => rw [z] at e; cases e
    | some o =>
      rw [z] at e
      cases e
      refine ⟨z, fun q => hn (.inl q), ?_⟩
      cases y : g.get? a with
      | none => rfl
      | some o' => exact absurd (.inr (by rw [y]; nofun)) hn
theorem rest_kept {g h₁ h₂ : Heap} {L : Addr} {m m' : Str → Option Value} {news : List (Addr × Obj)} (F₁ : Fr g L h₁ m) (F₂ : Fr g L h₂ m') (N₂ : News g L h₂ news) (hs : ∀ q ∈ restOf g L h₁, q ∈ news) : Chg [L] h₁ h₂ := fun a o e n => by
  have hL : a ≠ L := fun q => n (List.mem_singleton.mpr q)
  cases z : g.get? a with
  | none => exact (N₂ _ (hs _ (rest_mem e hL z))).1
  | some o' =>
    have := F₁.keep _ _ z
    rw [e] at this
    cases this
    exact F₂.keep _ _ z
theorem heard_ok {f : Addr} {cells : List (Addr × Obj)} {Post : Value → Heap → Prop} (M : Amb p loose mean mg mb w dp gs un base fs s.heap (k + 2)) (hc : ∀ q ∈ cells, s.heap.get? q.1 = some q.2) (O : Off base fs (cells.map (·.1))) (hfn : FnAt f s.heap) (hfc : f ∉ cells.map (·.1))
    (hcall : ∀ (R' : Result → Shared → Prop) (s' : Shared) (env : Env), (∀ a o, s.heap.get? a = some o → s'.heap.get? a = some o) → env.frame = some s.heap.objs.size → Amb p loose mean mg mb w (dp + 1) gs (un + 3) base (env :: fs) s'.heap (k + 1) →
      (∀ v h' tk, Post v h' → Chg (cells.map (·.1)) s'.heap h' → R' (.ok (.ret v)) { s' with heap := h', toks := tk }) → codeAny (model prog w) (AA (dp + 1) (env :: fs) gs (un + 3)) (.call (.ref f) ⟨[], []⟩) R' s')
    (post : ∀ v h'' T t n h' tk, Post v h'' → Chg (cells.map (·.1)) s.heap h'' → Chg [s.heap.objs.size] h'' h' → h'.get? T = some (tup2 (.str (Str.ofString "told") t) v n) → (∀ o, s.heap.get? T = some o → T ∈ cells.map (·.1)) → (∃ o es n, h''.get? s.heap.objs.size = some o ∧ o.data = .dict es n) → R (.ok (.ret (.ref T))) { s with heap := h', toks := tk }) :
    codeAny (model prog w) (AA dp fs gs un) (.call (.ref 208) ⟨[.ref f], []⟩) R s := by
  w_on
  refine enterH M cells hc O ?_
  intro g L' h₁ F N B X T hg hg' hL'
  dsimp only
  k_fold
  w_strict k_steps
  rename Fr _ _ _ _ => F
  rename News _ _ _ _ => N
  have hfn' : FnAt f _ := let ⟨oc, od, fd, sl, e⟩ := hfn; ⟨oc, od, fd, sl, F.keep _ _ (hg _ _ e hfc)⟩
  refine callWith_F0 hfn' ?_
  subst hL'
  have kp : ∀ a o, s.heap.get? a = some o → Heap.get? _ a = some o := fun a o q => (chg_sub (Δ := []) hg hc F N (fun q hq => .inr hq)) a o q (by first | kopn_word | simp)
  dsimp only [List.append_nil, List.nil_append]
  refine wpAny_call (hcall _ _ _ kp rfl (M.deeper B F rfl rfl) fun v h₂ tk₂ hP C₂ => ?_)
  have F₂ := fr_chg F C₂ (fun a ha => by
    obtain ⟨q, hq, rfl⟩ := List.mem_map.mp ha
    exact ⟨(N q hq).2.2, (N q hq).2.1⟩)
  have Cs : Chg (cells.map (·.1)) s.heap h₂ := fun a o e n => C₂ a o (kp a o e) n
  have hsz : s.heap.objs.size ≤ s.heap.objs.size := Nat.le_refl _
  clear F N
  have N₂ := rest_news (g := g) (L := s.heap.objs.size) (h := h₂)
  have Fq : _ ∧ True := ⟨F₂, trivial⟩
  generalize hrs : restOf g s.heap.objs.size h₂ = rs at N₂
  have hrs' : ∀ q ∈ restOf g s.heap.objs.size h₂, q ∈ rs := fun q hq => hrs ▸ hq
  clear hrs
  w_strict k_steps
  rename Fr _ _ _ _ => F
  rename News _ _ _ _ => N
  show R _ _
  refine post v h₂ _ _ _ _ _ hP Cs (rest_kept Fq.1 F N fun q hq => .tail _ (hrs' q hq)) (N _ (.head _)).1 (fun o e => ?_) (by obtain ⟨oL, es, ep, hL, hLd, _⟩ := Fq.1.ns; exact ⟨oL, es, ep, hL, hLd⟩)
  refine Classical.byContradiction fun hn => ?_
  have := hg _ _ e hn
  rw [(N _ (.head _)).2.2] at this
  cases this
end
section
variable {p : Program} {loose : List Str} {mean : ExcName → Option Value} {mg mb : Str → Option Value} {prog : Program} {w : World} {dp un : Nat} {gs : Option (List Code)} {R : Result → Shared → Prop} {s : Shared} {base : Heap} {fs : List Env} {k : Nat}

theorem slt_caught {g h₁ h₂ h₄ B' : Heap} {env : Env} {L e : Addr} {m : Str → Option Value} {cls a0 fl : Value} {dct : Option Addr} (B : Below (AA dp fs gs un) base fs g) (F : Fr g L h₁ m) (hf : env.frame = some L) (hk : env.scope.kind = .function)
    (N : Ntd B' (env :: fs) e cls a0 dct fl h₄) (kb : ∀ a o, h₁.get? a = some o → a ∉ frs (env :: fs) → B'.get? a = some o) (kf : ∀ a o, h₁.get? a = some o → a ∈ frs (env :: fs) → ∃ sl, h₂.get? a = some { o with slots := sl }) (U : h₂.UpToSlots h₄) :
    Slt (env :: fs) [] h₁ h₄ := ⟨fun a o ho _ hnf => N.1 _ _ (kb a o ho hnf), fun a o ho hm => by
    obtain ⟨o', ho', hd'⟩ := ((pushX B F hf hk).frames.mem hm).2
    have ho2 := ho'.symm.trans ho
    cases ho2
    obtain ⟨sl, hs⟩ := kf a o ho hm
    obtain ⟨sl', hs'⟩ := U a _ hs hd'
    exact ⟨sl', hs'⟩⟩
theorem heard_bad {f : Addr} {nm : Bts} (M : Amb p loose mean mg mb w dp gs un base fs s.heap (k + 2)) (hfn : FnAt f s.heap)
    (hcall : ∀ (R' : Result → Shared → Prop) (s' : Shared) (env : Env), (∀ a o, s.heap.get? a = some o → s'.heap.get? a = some o) → env.frame = some s.heap.objs.size → Amb p loose mean mg mb w (dp + 1) gs (un + 3) base (env :: fs) s'.heap (k + 1) →
      (∀ e h' tk, Raised (env :: fs) s'.heap nm e h' → R' (.error (.ref e)) { s' with heap := h', toks := tk }) → codeAny (model prog w) (AA (dp + 1) (env :: fs) gs (un + 3)) (.call (.ref f) ⟨[], []⟩) R' s')
    (post : ∀ T t t' n h' tk, Slt fs [] s.heap h' → h'.get? T = some (tup2 (.str (Str.ofString "none") t) (.bytes nm t') n) → s.heap.get? T = none → R (.ok (.ret (.ref T))) { s with heap := h', toks := tk }) :
    codeAny (model prog w) (AA dp fs gs un) (.call (.ref 208) ⟨[.ref f], []⟩) R s := by
  w_on
  refine enterH M [] (fun _ h => nomatch h) off_nil ?_
  intro g L' h₁ F N B X T hg hg' hL'
  dsimp only
  k_fold
  w_strict k_steps
  rename Fr _ _ _ _ => F
  rename News _ _ _ _ => N
  have hfn' : FnAt f _ := let ⟨oc, od, fd, sl, e⟩ := hfn; ⟨oc, od, fd, sl, F.keep _ _ (hg _ _ e (fun h => nomatch h))⟩
  refine callWith_F0 hfn' ?_
  subst hL'
  have kp : ∀ a o, s.heap.get? a = some o → Heap.get? _ a = some o := fun a o q => F.keep _ _ (hg _ _ q (fun h => nomatch h))
  dsimp only [List.append_nil, List.nil_append]
  refine wpAny_call (hcall _ _ _ kp rfl (M.deeper B F rfl rfl) fun e h₂ tk₂ Rz => ?_)
  obtain ⟨B', dx, t₀, a0, Nt, ns, kb, kf, hn⟩ := Rz
  refine ntd_next (outer := fs) rfl rfl Nt fun h₃ N₃ U₃ => ?_
  refine ntd_lands N₃ fun h₄ N₄ U₄ => ?_
  have S4 := slt_caught B F rfl rfl N₄ kb kf (U₃.trans U₄)
  obtain ⟨g₄, T₄, F₄, B₄⟩ := turn B F rfl S4 (fun _ h => nomatch h)
  have X₄ := M.KI.keeps B₄.stays
  have P₄ : TopRead p loose mg mb g₄ := topRead_of (M.top.keeps B₄.stays)
  have hC := bad_cls (X₄.keeps F₄.keep)
  obtain ⟨oe, vs, Tb, oT, ts, hoe, ⟨hcl, hdi, _⟩, hrest⟩ := id N₄.2.2.2
  refine wpAny_handleBy_cons (codeAny_handlers_test (name_K F₄ X₄ P₄ (v := .ref 45) (by k_dflt k_is) ?_ rfl rfl (by decide))) (by intro q; cases q)
  refine wpAny_excMatches_sub_self hC hoe hcl (by decide) (codeAny_handlers_suite_as ?_)
  refine ntd_lands N₄ fun h₅ N₅ U₅ => ?_
  have S5 := slt_caught B F rfl rfl N₅ kb kf ((U₃.trans U₄).trans U₅)
  obtain ⟨g₅, T₅, F₅, B₅⟩ := turn B F rfl S5 (fun _ h => nomatch h)
  have X₅ := M.KI.keeps B₅.stays
  have T5 := M.top.keeps B₅.stays
  have hgs := hg
  have hgn := T₅.none_
  obtain ⟨oe5, vs5, Tb5, oT5, ts5, hoe5, ⟨hcl5, hdi5, _⟩, hdd5, _⟩ := id N₅.2.2.2
  have ns5 : Heap.Ns h₅ dx (toldNs (.bytes nm t₀)) := Heap.Ns.keeps ns N₅.1
  have hBL : B'.get? s.heap.objs.size = none := ((N₅.2.2.1).mem (by show s.heap.objs.size ∈ frs _; rw [frs_cons rfl]; exact .head _)).1
  have Nn := rest_news (g := g₅) (L := s.heap.objs.size) (h := h₅)
  have Fq : _ ∧ True := ⟨F₅, trivial⟩
  have Sq : ∀ a o, g.get? a = some o → a ∉ frs fs → g₅.get? a = some o := T₅.other
  have Sr := T₅.frame
  clear F N F₄ hC X₄ P₄ B₄ S4 S5 T₄ B X T
  generalize hrs : restOf g₅ s.heap.objs.size h₅ = rs at Nn
  have hrs' : ∀ q ∈ restOf g₅ s.heap.objs.size h₅, q ∈ rs := fun q hq => hrs ▸ hq
  clear hrs
  refine stN F₅ Nn (fun h₆ F₆ N₆ => ?_) rfl rfl
  clear F₅ Nn
  w_strict k_steps
  have C6 := rest_kept Fq.1 F₆ N₆ hrs'
  have heL : e ≠ s.heap.objs.size := fun q => by
    obtain ⟨oL, es, ep, hL, hLd, _⟩ := Fq.1.ns
    rw [← q, hoe5] at hL
    cases hL
    rw [hdd5] at hLd
    cases hLd
  have hdL : dx ≠ s.heap.objs.size := fun q => by
    obtain ⟨oL, es, ep, hL, hLd, _⟩ := ns
    rw [q, hBL] at hL
    cases hL
  have he6 := C6 _ _ hoe5 (fun q => heL (List.mem_singleton.mp q))
  have ns6 : Heap.Ns h₆ dx (toldNs (.bytes nm t₀)) := by
    obtain ⟨oL, es, ep, hL, r⟩ := ns5
    exact ⟨oL, es, ep, C6 _ _ hL (fun q => hdL (List.mem_singleton.mp q)), r⟩
  refine told_read (X₅.keeps F₆.keep) he6 hcl5 (by rw [hdd5]; nofun) hdi5 ns6 rfl ?_
  clear ns6
  w_strict k_steps
  rename Fr _ _ _ _ => F
  rename News _ _ _ _ => N
  refine name_goes_keeps F N ?_
  intro h₈ v₈ F₈ N₈
  clear F N
  w_strict k_steps
  show R _ _
  refine post _ _ _ _ _ _ ⟨fun a o q _ nf => ?_, fun a o q hm => ?_⟩ (N₈ _ (.head _)).1 ?_
  · exact F₈.keep _ _ (Sq _ _ (hgs _ _ q (fun h => nomatch h)) nf)
  · obtain ⟨sl, hs⟩ := Sr a o (hgs _ _ q (fun h => nomatch h)) hm
    exact ⟨sl, F₈.keep _ _ hs⟩
  · have hD := (N₈ _ (.head _)).2.2
    refine Option.eq_none_iff_forall_ne_some.mpr fun o q => ?_
    have q2 := hgs _ _ q (fun h => nomatch h)
    rcases Classical.em (_ ∈ frs fs) with hm | hm
    · obtain ⟨sl, hs⟩ := Sr _ _ q2 hm
      rw [hD] at hs
      cases hs
    · have hs := Sq _ _ q2 hm
      rw [hD] at hs
      cases hs
end
/-- what no change of the walk takes for a row, a tuple of three or a code object -/
noncomputable def Plain (o : Obj) : Prop := (∀ x y z n, o ≠ tup3 x y z n) ∧ ¬ RowObj o ∧ ∀ vs, o.data ≠ .fields vs
noncomputable def Rowish (o : Obj) : Prop := (∀ x y z n, o ≠ tup3 x y z n) ∧ ∀ vs, o.data ≠ .fields vs
theorem Plain.rowish {o : Obj} (x : Plain o) : Rowish o := ⟨x.1, x.2.2⟩
theorem plain_dict {K : Type} [DecidableEq K] {prog : Program} {w : World} {knd : KeyKind prog w K} {od : Obj} {kvs : List (K × Value)} (D : od.IsDictOf knd kvs) : Plain od := by
  refine ⟨?_, rowObj_dict D, ?_⟩
  · rintro x y z n rfl
    obtain ⟨es, ep, _, h2, _⟩ := D
    cases h2
  · intro vs e
    obtain ⟨es, ep, _, h2, _⟩ := D
    rw [e] at h2
    cases h2
theorem plain_list {vs : List Value} {n : Nat} (h : ∀ v ∈ vs, ∀ x t, v ≠ .bytes x t) : Plain (W.listOf vs.toArray n) := ⟨(fun x y z n e => by have := congrArg Obj.cls e; simp [W.listOf] at this), rowObj_list h, (fun vs e => by cases e)⟩
theorem plain_data {o : Obj} {es : Array DictEntry} {ep : Nat} (h : o.data = .dict es ep) : Plain o :=
  ⟨(fun x y z n e => by rw [e] at h; cases h), (fun ⟨x, t, y, z, n, e⟩ => by rw [e] at h; cases h), (fun vs e => by rw [e] at h; cases h)⟩
theorem plain_cell {o : Obj} {v : Option Value} (h : o.data = .cell v) : Plain o :=
  ⟨(fun x y z n e => by rw [e] at h; cases h), (fun ⟨x, t, y, z, n, e⟩ => by rw [e] at h; cases h), (fun vs e => by rw [e] at h; cases h)⟩
theorem rowish_row {x y z : Value} {n : Nat} : Rowish (W.listOf #[x, y, z] n) := ⟨(fun _ _ _ _ e => by have := congrArg Obj.cls e; simp [W.listOf] at this), (fun _ e => by cases e)⟩
theorem tups_noBytes {h : Heap} {vs : List Value} {rows : List Row} (P : Paired (TupAt h) vs rows) : ∀ v ∈ vs, ∀ x t, v ≠ .bytes x t := fun v hv x t e => by
  obtain ⟨r, _, a, _, _, _, rfl, _⟩ := pr_mem P v hv
  cases e

theorem DeckAt.chg {prog : Program} {w : World} {h h' : Heap} {Δ : List Addr} {d l : Addr} (x : DeckAt prog w h d l) (C : Chg Δ h h') (hd : d ∉ Δ) (hl : l ∉ Δ) : DeckAt prog w h' d l := by
  obtain ⟨od, li, e1, e2, ek, _⟩ := x.apart
  exact ek h' (C _ _ e1 hd) (C _ _ e2 hl)
theorem BufAt.chg {w : World} {h h' : Heap} {Δ : List Addr} {b dx rl : Addr} {vs : List Value} {rows : List Row} {most next : Int} (x : BufAt w h b dx rl vs rows most next) (C : Chg Δ h h') (hb : b ∉ Δ) (hd : dx ∉ Δ) (hl : rl ∉ Δ)
    (hp : ∀ a ∈ Δ, ∀ o, h.get? a = some o → Rowish o) : BufAt w h' b dx rl vs rows most next := by
  obtain ⟨h1, x5, ⟨nr, h3⟩, hrows, hsm⟩ := x
  refine exE5 x5 fun t1 t2 t3 tm tn h2 => ?_
  clear x5
  exact ⟨C _ _ h1 hb, ⟨t1, t2, t3, tm, tn, C _ _ h2 hd⟩, ⟨nr, C _ _ h3 hl⟩, hrows.mono fun _ _ ⟨a, y1, y2, n, e, ha⟩ => ⟨a, y1, y2, n, e, C _ _ ha fun m => (hp a m _ ha).1 _ _ _ _ rfl⟩, hsm⟩
theorem VAt.chg {prog : Program} {w : World} {h h' : Heap} {Δ : List Addr} {d l : Addr} {vs : List Value} {rows : List Row} {most next : Int} (x : VAt prog w h d l vs rows most next) (C : Chg Δ h h') (hd : d ∉ Δ) (hl : l ∉ Δ)
    (hp : ∀ a ∈ Δ, ∀ o, h.get? a = some o → Plain o) : VAt prog w h' d l vs rows most next := by
  obtain ⟨⟨od, tm, tn, hd1, hd2⟩, ⟨n, hl1⟩, hrows, lo, hsm⟩ := x
  exact ⟨⟨od, tm, tn, C _ _ hd1 hd, hd2⟩, ⟨n, C _ _ hl1 hl⟩, hrows.mono fun _ _ ⟨a, y1, y2, n, e, ha⟩ => ⟨a, y1, y2, n, e, C _ _ ha fun m => (hp a m _ ha).2.1 ⟨_, _, _, _, _, rfl⟩⟩, lo, hsm⟩
theorem TabOk.chg {q : Str} {h h' : Heap} {P : Addr} {ps : Array Value} {Δ : List Addr} (x : TabOk q h P ps) (C : Chg Δ h h') (hp : ∀ a ∈ Δ, ∀ o, h.get? a = some o → Rowish o) : TabOk q h' P ps :=
  x.keep fun a o e => by
    by_cases hm : a ∈ Δ
    · exact .inl (hp a hm o e).2
    · exact .inr (C a o e hm)

structure AllAt (prog : Program) (w : World) (h : Heap) (q : Str) (d l b dx rl dv lv P : Addr) (bvs vvs : List Value) (rb rv : List Row) (most nb nv : Int) : Prop where
  deck : DeckAt prog w h d l
  buf : BufAt w h b dx rl bvs rb most nb
  view : VAt prog w h dv lv vvs rv most nv
  tab : ∃ ps, TabOk q h P ps
  nd : ([d, l, b, dx, rl, dv, lv, P] : List Nat).Nodup
section
variable {prog : Program} {w : World} {h h' : Heap} {q : Str} {d l b dx rl dv lv P : Addr} {bvs vvs : List Value} {rb rv : List Row} {most nb nv : Int}
theorem AllAt.there (x : AllAt prog w h q d l b dx rl dv lv P bvs vvs rb rv most nb nv) : ∀ a ∈ [d, l, b, dx, rl, dv, lv, P] ++ refs vvs, ∃ o, h.get? a = some o := fun a ha => by
  obtain ⟨od, li, e1, e2, _⟩ := x.deck.apart
  obtain ⟨h1, x5, ⟨nr, h3⟩, _, _⟩ := x.buf
  refine exE5 x5 fun t1 t2 t3 tm tn h2 => ?_
  clear x5
  obtain ⟨⟨od, tm, tn, hd1, hd2⟩, ⟨n, hl1⟩, hrows, lo, hsm⟩ := x.view
  obtain ⟨ps, t1, _⟩ := x.tab
  rcases List.mem_append.mp ha with ha | ha
  · simp only [List.mem_cons, List.not_mem_nil, or_false] at ha
    rcases ha with rfl | rfl | rfl | rfl | rfl | rfl | rfl | rfl <;> exact ⟨_, by assumption⟩
  · obtain ⟨r, _, a', _, _, _, e, ho⟩ := pr_mem hrows _ (of_refs ha)
    cases e
    exact ⟨_, ho⟩
theorem AllAt.noCell (x : AllAt prog w h q d l b dx rl dv lv P bvs vvs rb rv most nb nv) : ∀ a ∈ [d, l, b, dx, rl, dv, lv, P] ++ refs vvs, ∀ o v, h.get? a = some o → o.data ≠ .cell v := fun a ha o v e ec => by
  obtain ⟨od, vs, ns, mx, n, t, d1, d2, l1, _⟩ := x.deck
  obtain ⟨h1, x5, ⟨nr, h3⟩, _, _⟩ := x.buf
  refine exE5 x5 fun t1 t2 t3 tm tn h2 => ?_
  clear x5
  obtain ⟨⟨od', tm, tn, hd1, hd2⟩, ⟨n, hl1⟩, hrows, lo, hsm⟩ := x.view
  obtain ⟨ps, t1, _⟩ := x.tab
  rcases List.mem_append.mp ha with ha | ha
  · simp only [List.mem_cons, List.not_mem_nil, or_false] at ha
    rcases ha with rfl | rfl | rfl | rfl | rfl | rfl | rfl | rfl
    · rw [d1] at e; cases e; obtain ⟨es, ep, _, h2, _⟩ := d2; rw [ec] at h2; cases h2
    · rw [l1] at e; cases e; cases ec
    · rw [h1] at e; cases e; cases ec
    · rw [h2] at e; cases e; cases ec
    · rw [h3] at e; cases e; cases ec
    · rw [hd1] at e; cases e; obtain ⟨es, ep, _, h2, _⟩ := hd2; rw [ec] at h2; cases h2
    · rw [hl1] at e; cases e; cases ec
    · rw [t1] at e; cases e; cases ec
  · obtain ⟨r, _, a', _, _, _, e', ho⟩ := pr_mem hrows _ (of_refs ha)
    cases e'
    rw [ho] at e; cases e; cases ec
theorem AllAt.rowsApart (x : AllAt prog w h q d l b dx rl dv lv P bvs vvs rb rv most nb nv) : ∀ a ∈ refs vvs, a ∉ [d, l, b, dx, rl, dv, lv, P] := fun a hm ha => by
  obtain ⟨od, li, e1, e2, _, _, r1, r2⟩ := x.deck.apart
  obtain ⟨h1, x5, ⟨nr, h3⟩, hbr, _⟩ := x.buf
  refine exE5 x5 fun t1 t2 t3 tm tn h2 => ?_
  clear x5
  obtain ⟨⟨od', tm, tn, hd1, hd2⟩, ⟨n, hl1⟩, hrows, lo, hsm⟩ := x.view
  obtain ⟨ps, t1, _⟩ := x.tab
  obtain ⟨r, _, a', y1, y2, n', e', ho⟩ := pr_mem hrows _ (of_refs hm)
  cases e'
  have hR : RowObj (W.listOf #[.bytes r.1 y1, .bytes r.2.1 y2, .bool (!r.2.2)] n') := ⟨_, _, _, _, _, rfl⟩
  simp only [List.mem_cons, List.not_mem_nil, or_false] at ha
  rcases ha with rfl | rfl | rfl | rfl | rfl | rfl | rfl | rfl
  · rw [e1] at ho; cases ho; exact r1 hR
  · rw [e2] at ho; cases ho; exact r2 hR
  · rw [h1] at ho; have := congrArg Obj.data (Option.some.inj ho); cases this
  · rw [h2] at ho; have := congrArg Obj.data (Option.some.inj ho); cases this
  · rw [h3] at ho; exact rowObj_list (tups_noBytes hbr) (Option.some.inj ho ▸ hR)
  · rw [hd1] at ho; cases ho; exact rowObj_dict hd2 hR
  · rw [hl1] at ho; exact rowObj_list (lrows_noBytes hrows) (Option.some.inj ho ▸ hR)
  · rw [t1] at ho; cases ho
theorem AllAt.chg {Δ : List Addr} (x : AllAt prog w h q d l b dx rl dv lv P bvs vvs rb rv most nb nv) (C : Chg Δ h h') (hn : ∀ a ∈ Δ, a ∉ [d, l, b, dx, rl, dv, lv, P]) (hp : ∀ a ∈ Δ, ∀ o, h.get? a = some o → Plain o) :
    AllAt prog w h' q d l b dx rl dv lv P bvs vvs rb rv most nb nv := by
  have hn' : ∀ a ∈ [d, l, b, dx, rl, dv, lv, P], a ∉ Δ := fun a ha hm => hn a hm ha
  obtain ⟨ps, t⟩ := x.tab
  exact ⟨x.deck.chg C (hn' _ (by first | kopn_word | simp)) (hn' _ (by first | kopn_word | simp)), x.buf.chg C (hn' _ (by first | kopn_word | simp)) (hn' _ (by first | kopn_word | simp)) (hn' _ (by first | kopn_word | simp)) (fun a ha o e => (hp a ha o e).rowish),
    x.view.chg C (hn' _ (by first | kopn_word | simp)) (hn' _ (by first | kopn_word | simp)) hp, ⟨ps, t.chg C fun a ha o e => (hp a ha o e).rowish⟩, x.nd⟩
theorem AllAt.deckC (x : AllAt prog w h q d l b dx rl dv lv P bvs vvs rb rv most nb nv) (D : DeckAt prog w h' d l) (C : Chg [d, l] h h') : AllAt prog w h' q d l b dx rl dv lv P bvs vvs rb rv most nb nv := by
  have nd := x.nd
  obtain ⟨od, vs, ns, mx, n, t, d1, d2, l1, hi, _⟩ := x.deck
  have hp : ∀ a ∈ [d, l], ∀ o, h.get? a = some o → Plain o := fun a ha o e => by
    simp only [List.mem_cons, List.not_mem_nil, or_false] at ha
    rcases ha with rfl | rfl
    · rw [d1] at e; cases e; exact plain_dict d2
    · rw [l1] at e; cases e; exact plain_list (ints_noBytes hi)
  obtain ⟨ps, tt⟩ := x.tab
  refine ⟨D, x.buf.chg C ?_ ?_ ?_ (fun a ha o e => (hp a ha o e).rowish), x.view.chg C ?_ ?_ hp, ⟨ps, tt.chg C fun a ha o e => (hp a ha o e).rowish⟩, x.nd⟩ <;>
    (first | exact nin2 (nd_ne nd 2 0 rfl rfl (by decide)) (nd_ne nd 2 1 rfl rfl (by decide)) | exact nin2 (nd_ne nd 3 0 rfl rfl (by decide)) (nd_ne nd 3 1 rfl rfl (by decide)) | exact nin2 (nd_ne nd 4 0 rfl rfl (by decide)) (nd_ne nd 4 1 rfl rfl (by decide)) | exact nin2 (nd_ne nd 5 0 rfl rfl (by decide)) (nd_ne nd 5 1 rfl rfl (by decide)) | exact nin2 (nd_ne nd 6 0 rfl rfl (by decide)) (nd_ne nd 6 1 rfl rfl (by decide)) | exact nin2 (nd_ne nd 7 0 rfl rfl (by decide)) (nd_ne nd 7 1 rfl rfl (by decide)))
theorem AllAt.bufC {rl' : Addr} {bvs' : List Value} {rb' : List Row} {nb' : Int} (x : AllAt prog w h q d l b dx rl dv lv P bvs vvs rb rv most nb nv) (Bu : BufAt w h' b dx rl' bvs' rb' most nb') (hrl : rl' = rl ∨ h.get? rl' = none) (C : Chg [dx, rl] h h') :
    AllAt prog w h' q d l b dx rl' dv lv P bvs' vvs rb' rv most nb' nv := by
  have nd := x.nd
  have th := x.there
  obtain ⟨h1, x5, ⟨nr, h3⟩, hbr, _⟩ := x.buf
  refine exE5 x5 fun t1 t2 t3 tm tn h2 => ?_
  clear x5
  have hp : ∀ a ∈ [dx, rl], ∀ o, h.get? a = some o → Plain o := fun a ha o e => by
    simp only [List.mem_cons, List.not_mem_nil, or_false] at ha
    rcases ha with rfl | rfl
    · rw [h2] at e; cases e; exact plain_data rfl
    · rw [h3] at e; cases e; exact plain_list (tups_noBytes hbr)
  obtain ⟨ps, tt⟩ := x.tab
  refine ⟨x.deck.chg C ?_ ?_, Bu, x.view.chg C ?_ ?_ hp, ⟨ps, tt.chg C fun a ha o e => (hp a ha o e).rowish⟩, ?_⟩
  iterate 4 (first | exact nin2 (nd_ne nd 0 3 rfl rfl (by decide)) (nd_ne nd 0 4 rfl rfl (by decide)) | exact nin2 (nd_ne nd 1 3 rfl rfl (by decide)) (nd_ne nd 1 4 rfl rfl (by decide)) | exact nin2 (nd_ne nd 5 3 rfl rfl (by decide)) (nd_ne nd 5 4 rfl rfl (by decide)) | exact nin2 (nd_ne nd 6 3 rfl rfl (by decide)) (nd_ne nd 6 4 rfl rfl (by decide)))
  rcases hrl with rfl | hrl
  · exact x.nd
  · have ne : ∀ a ∈ [d, l, b, dx, rl, dv, lv, P] ++ refs vvs, @Ne Nat rl' a := fun a ha e => by
      obtain ⟨o, ho⟩ := th a ha
      have e' : rl' = a := e
      rw [← e', hrl] at ho
      cases ho
    exact nd_set 4 x.nd fun a ha => ne a (List.mem_append_left _ ha)
theorem AllAt.viewC {lv' : Addr} {vvs' : List Value} {rv' : List Row} {nv' : Int} (x : AllAt prog w h q d l b dx rl dv lv P bvs vvs rb rv most nb nv) (V : VAt prog w h' dv lv' vvs' rv' most nv') (hlv : lv' = lv ∨ h.get? lv' = none) (C : Chg (dv :: refs vvs) h h') :
    AllAt prog w h' q d l b dx rl dv lv' P bvs vvs' rb rv' most nb nv' := by
  have nd := x.nd
  have th := x.there
  have ap := x.rowsApart
  obtain ⟨⟨od', tm, tn, hd1, hd2⟩, ⟨n, hl1⟩, hrows, lo, hsm⟩ := x.view
  have hp : ∀ a ∈ dv :: refs vvs, ∀ o, h.get? a = some o → Rowish o := fun a ha o e => by
    rcases List.mem_cons.mp ha with rfl | ha
    · rw [hd1] at e; cases e; exact (plain_dict hd2).rowish
    · obtain ⟨r, _, a', y1, y2, n', e', ho⟩ := pr_mem hrows _ (of_refs ha)
      cases e'
      rw [ho] at e; cases e; exact rowish_row
  have nn : ∀ a ∈ [d, l, b, dx, rl, dv, lv, P], a ≠ dv → a ∉ dv :: refs vvs := fun a ha hne hm => by
    rcases List.mem_cons.mp hm with e | hm
    · exact hne e
    · exact ap a hm ha
  obtain ⟨ps, tt⟩ := x.tab
  refine ⟨x.deck.chg C (nn _ (by first | kopn_word | simp) ?_) (nn _ (by first | kopn_word | simp) ?_), x.buf.chg C (nn _ (by first | kopn_word | simp) ?_) (nn _ (by first | kopn_word | simp) ?_) (nn _ (by first | kopn_word | simp) ?_) hp, V, ⟨ps, tt.chg C hp⟩, ?_⟩
  iterate 5 (first | exact nd_ne nd 0 5 rfl rfl (by decide) | exact nd_ne nd 1 5 rfl rfl (by decide) | exact nd_ne nd 2 5 rfl rfl (by decide) | exact nd_ne nd 3 5 rfl rfl (by decide) | exact nd_ne nd 4 5 rfl rfl (by decide) | exact nd_ne nd 6 5 rfl rfl (by decide) | exact nd_ne nd 7 5 rfl rfl (by decide))
  rcases hlv with rfl | hlv
  · exact x.nd
  · have ne : ∀ a ∈ [d, l, b, dx, rl, dv, lv, P] ++ refs vvs, @Ne Nat lv' a := fun a ha e => by
      obtain ⟨o, ho⟩ := th a ha
      have e' : lv' = a := e
      rw [← e', hlv] at ho
      cases ho
    exact nd_set 6 x.nd fun a ha => ne a (List.mem_append_left _ ha)
end
open Classical in
/-- all that stands above the ground but the frame and X -/
noncomputable def restX (g : Heap) (L : Addr) (X : List Addr) (h : Heap) : List (Addr × Obj) := (List.range h.objs.size).filterMap fun a => if a = L ∨ a ∈ X ∨ g.get? a ≠ none then none else (h.get? a).map fun o => (a, o)
structure Led (g : Heap) (L : Addr) (h : Heap) (E rs : List (Addr × Obj)) : Prop where
  news : News g L h (E ++ rs)
  ne : ∀ q ∈ rs, q.1 ∉ E.map (·.1)
  all : ∀ a o, h.get? a = some o → a ≠ L → a ∉ E.map (·.1) → g.get? a = none → (a, o) ∈ rs
theorem led {g h : Heap} {L : Addr} {E : List (Addr × Obj)} (N : News g L h E) : ∃ rs, Led g L h E rs := by
  have key : ∀ q ∈ restX g L (E.map (·.1)) h, (h.get? q.1 = some q.2 ∧ q.1 ≠ L ∧ g.get? q.1 = none) ∧ q.1 ∉ E.map (·.1) := fun q hq => by
    obtain ⟨a, _, e⟩ := List.mem_filterMap.mp hq
    split at e
    · cases e
    · rename_i hn
      cases z : h.get? a with
      | none => rw [z] at e; cases e
      | some o =>
        rw [z] at e
        cases e
        refine ⟨⟨z, fun q => hn (.inl q), ?_⟩, fun q => hn (.inr (.inl q))⟩
        cases y : g.get? a with
        | none => rfl
        | some o' => exact absurd (.inr (.inr (by rw [y]; nofun))) hn
  refine ⟨restX g L (E.map (·.1)) h, fun q hq => ?_, fun q hq => (key q hq).2, fun a o e hL hX hg => ?_⟩
  · rcases List.mem_append.mp hq with hq | hq
    · exact N q hq
    · exact (key q hq).1
  · refine List.mem_filterMap.mpr ⟨a, List.mem_range.mpr (Heap.lt_size e), ?_⟩
    rw [if_neg (fun q => q.elim hL fun q => q.elim hX fun q => q hg), e]
    rfl
theorem Led.off {g h : Heap} {L : Addr} {E rs : List (Addr × Obj)} (x : Led g L h E rs) {a : Addr} (m : a ∈ E.map (·.1)) : ∀ p ∈ rs, p.1 ≠ a := fun p hp e => x.ne p hp (e ▸ m)
theorem Led.kept {g h h' : Heap} {L : Addr} {m m' : Str → Option Value} {E rs news : List (Addr × Obj)} (x : Led g L h E rs) (F : Fr g L h m) (F' : Fr g L h' m') (N' : News g L h' news) (hs : ∀ q ∈ rs, q ∈ news) : Chg (L :: E.map (·.1)) h h' := fun a o e n => by
  have hL : a ≠ L := fun q => n (q ▸ .head _)
  have hE : a ∉ E.map (·.1) := fun q => n (.tail _ q)
  cases z : g.get? a with
  | none => exact (N' _ (hs _ (x.all a o e hL hE z))).1
  | some o' =>
    have := F.keep _ _ z
    rw [e] at this
    cases this
    exact F'.keep _ _ z
theorem fresh_g {g h : Heap} {L a : Addr} {m : Str → Option Value} (F : Fr g L h m) (e : h.get? a = none) : g.get? a = none ∧ a ≠ L := by
  refine ⟨?_, fun q => ?_⟩
  · cases z : g.get? a with
    | none => rfl
    | some o => rw [F.keep _ _ z] at e; cases e
  · obtain ⟨oL, es, ep, hL, _⟩ := F.ns
    rw [← q, e] at hL
    cases hL

noncomputable abbrev addrs (d l b dx rl dv lv P : Addr) (vvs : List Value) : List Addr := [d, l, b, dx, rl, dv, lv, P] ++ refs vvs
structure Inn (prog : Program) (w : World) (g : Heap) (L : Addr) (h : Heap) (m : Str → Option Value) (E : List (Addr × Obj)) (q : Str) (d l b dx rl dv lv P : Addr) (bvs vvs : List Value) (rb rv : List Row) (most nb nv : Int) : Prop where
  fr : Fr g L h m
  own : News g L h E
  cells : ∀ q ∈ E, ∃ v, q.2.data = .cell v
  st : AllAt prog w h q d l b dx rl dv lv P bvs vvs rb rv most nb nv
  hid : ∀ a ∈ addrs d l b dx rl dv lv P vvs, g.get? a = none ∧ a ≠ L
section
variable {prog : Program} {w : World} {g h h' : Heap} {L : Addr} {m m' : Str → Option Value} {own own' : List (Addr × Obj)} {q : Str} {d l b dx rl dv lv P : Addr} {bvs vvs : List Value} {rb rv : List Row} {most nb nv : Int}
theorem Inn.ne (I : Inn prog w g L h m own q d l b dx rl dv lv P bvs vvs rb rv most nb nv) : ∀ a ∈ addrs d l b dx rl dv lv P vvs, a ∉ own.map (·.1) := fun a ha hm => by
  obtain ⟨z, hz, rfl⟩ := List.mem_map.mp hm
  obtain ⟨v, hv⟩ := I.cells z hz
  exact I.st.noCell _ ha _ _ (I.own z hz).1 hv
theorem Inn.ne4 {c1 c2 c3 c4 : Addr} {o1 o2 o3 o4 : Obj} (I : Inn prog w g L h m [(c1, o1), (c2, o2), (c3, o3), (c4, o4)] q d l b dx rl dv lv P bvs vvs rb rv most nb nv) (a : Addr) (ha : a ∈ addrs d l b dx rl dv lv P vvs) : @Ne Nat a c1 ∧ @Ne Nat a c2 ∧ @Ne Nat a c3 ∧ @Ne Nat a c4 := by
  have := I.ne a ha
  simp only [List.map_cons, List.map_nil, List.mem_cons, List.not_mem_nil, or_false, not_or] at this
  exact this
theorem Inn.walk (I : Inn prog w g L h m own q d l b dx rl dv lv P bvs vvs rb rv most nb nv) (F' : Fr g L h' m') (N' : News g L h' own') (he : own'.map (·.1) = own.map (·.1)) (hc : ∀ q ∈ own', ∃ v, q.2.data = .cell v) (C : Chg (L :: own.map (·.1)) h h') :
    Inn prog w g L h' m' own' q d l b dx rl dv lv P bvs vvs rb rv most nb nv := by
  refine ⟨F', N', hc, I.st.chg C (fun a ha hm => ?_) (fun a ha o e => ?_), I.hid⟩
  · rcases List.mem_cons.mp ha with rfl | ha
    · exact (I.hid _ (List.mem_append_left _ hm)).2 rfl
    · exact I.ne _ (List.mem_append_left _ hm) ha
  · rcases List.mem_cons.mp ha with rfl | ha
    · obtain ⟨oL, es, ep, hL, hd, _⟩ := I.fr.ns
      rw [hL] at e
      cases e
      exact plain_data hd
    · obtain ⟨z, hz, rfl⟩ := List.mem_map.mp ha
      obtain ⟨v, hv⟩ := I.cells z hz
      have := (I.own z hz).1
      rw [this] at e
      cases e
      exact plain_cell hv
theorem Inn.step {Y rs news : List (Addr × Obj)} (I : Inn prog w g L h m own q d l b dx rl dv lv P bvs vvs rb rv most nb nv) (Ld : Led g L h (own ++ Y) rs) (own' : List (Addr × Obj)) (F' : Fr g L h' m') (N' : News g L h' news) (hsub : ∀ q ∈ own' ++ (Y ++ rs), q ∈ news)
    (he : own'.map (·.1) = own.map (·.1)) (hc : ∀ q ∈ own', ∃ v, q.2.data = .cell v) : Inn prog w g L h' m' own' q d l b dx rl dv lv P bvs vvs rb rv most nb nv := by
  refine I.walk F' (fun q hq => N' q (hsub q (List.mem_append_left _ hq))) he hc fun a o e n => ?_
  by_cases hY : a ∈ Y.map (·.1)
  · obtain ⟨z, hz, rfl⟩ := List.mem_map.mp hY
    have h1 := (Ld.news z (List.mem_append_left _ (List.mem_append_right _ hz))).1
    rw [e] at h1
    cases h1
    exact (N' z (hsub z (List.mem_append_right _ (List.mem_append_left _ hz)))).1
  · refine Ld.kept I.fr F' N' (fun q hq => hsub q (List.mem_append_right _ (List.mem_append_right _ hq))) a o e fun hm => ?_
    rcases List.mem_cons.mp hm with rfl | hm
    · exact n (.head _)
    · rw [List.map_append] at hm
      rcases List.mem_append.mp hm with hm | hm
      · exact n (.tail _ hm)
      · exact hY hm
theorem Inn.more (I : Inn prog w g L h m own q d l b dx rl dv lv P bvs vvs rb rv most nb nv) (Y : List (Addr × Obj)) (hY : ∀ q ∈ Y, h.get? q.1 = some q.2) (hA : ∀ q ∈ Y, q.1 ∈ addrs d l b dx rl dv lv P vvs) : ∃ rs, Led g L h (own ++ Y) rs :=
  led fun q hq => by
    rcases List.mem_append.mp hq with hq | hq
    · exact I.own q hq
    · exact ⟨hY q hq, (I.hid _ (hA q hq)).2, (I.hid _ (hA q hq)).1⟩
theorem Inn.call {Δ : List Addr} (I : Inn prog w g L h m own q d l b dx rl dv lv P bvs vvs rb rv most nb nv) (C : Chg Δ h h') (hs : ∀ a ∈ Δ, a ∈ addrs d l b dx rl dv lv P vvs) : Fr g L h' m ∧ News g L h' own :=
  ⟨fr_chg I.fr C fun a ha => I.hid a (hs a ha), news_chg I.own C fun z hz hm => I.ne _ (hs _ hm) (List.mem_map_of_mem hz)⟩
theorem Inn.deckC (I : Inn prog w g L h m own q d l b dx rl dv lv P bvs vvs rb rv most nb nv) (D : DeckAt prog w h' d l) (C : Chg [d, l] h h') : Inn prog w g L h' m own q d l b dx rl dv lv P bvs vvs rb rv most nb nv :=
  have x := I.call C (by first | kopn_word | simp)
  ⟨x.1, x.2, I.cells, I.st.deckC D C, I.hid⟩
theorem Inn.sameC (I : Inn prog w g L h m own q d l b dx rl dv lv P bvs vvs rb rv most nb nv) (C : Chg [] h h') : Inn prog w g L h' m own q d l b dx rl dv lv P bvs vvs rb rv most nb nv :=
  have x := I.call C (fun _ h => nomatch h)
  ⟨x.1, x.2, I.cells, I.st.chg C (fun _ h => nomatch h) (fun _ h => nomatch h), I.hid⟩
theorem Inn.bufC {rl' : Addr} {bvs' : List Value} {rb' : List Row} {nb' : Int} (I : Inn prog w g L h m own q d l b dx rl dv lv P bvs vvs rb rv most nb nv) (Bu : BufAt w h' b dx rl' bvs' rb' most nb') (hrl : rl' = rl ∨ h.get? rl' = none) (C : Chg [dx, rl] h h') :
    Inn prog w g L h' m own q d l b dx rl' dv lv P bvs' vvs rb' rv most nb' nv := by
  have x := I.call C (by first | kopn_word | simp)
  refine ⟨x.1, x.2, I.cells, I.st.bufC Bu hrl C, fun a ha => ?_⟩
  by_cases hm : a ∈ addrs d l b dx rl dv lv P vvs
  · exact I.hid a hm
  · have e : a = rl' := by
      simp only [addrs, List.cons_append, List.nil_append, List.mem_cons, not_or] at ha hm
      rcases ha with e | e | e | e | e | e | e | e | e
      · exact absurd e hm.1
      · exact absurd e hm.2.1
      · exact absurd e hm.2.2.1
      · exact absurd e hm.2.2.2.1
      · exact e
      · exact absurd e hm.2.2.2.2.2.1
      · exact absurd e hm.2.2.2.2.2.2.1
      · exact absurd e hm.2.2.2.2.2.2.2.1
      · exact absurd e hm.2.2.2.2.2.2.2.2
    subst e
    rcases hrl with rfl | hrl
    · exact absurd (by first | kopn_word | simp) hm
    · exact fresh_g I.fr hrl
theorem Inn.viewC {lv' : Addr} {vvs' : List Value} {rv' : List Row} {nv' : Int} (I : Inn prog w g L h m own q d l b dx rl dv lv P bvs vvs rb rv most nb nv) (V : VAt prog w h' dv lv' vvs' rv' most nv') (hvs : ∀ v ∈ vvs', v ∈ vvs ∨ ∃ a, v = .ref a ∧ h.get? a = none)
    (hlv : lv' = lv ∨ h.get? lv' = none) (C : Chg (dv :: refs vvs) h h') : Inn prog w g L h' m own q d l b dx rl dv lv' P bvs vvs' rb rv' most nb nv' := by
  have x := I.call C (fun a ha => by
    rcases List.mem_cons.mp ha with rfl | ha
    · simp
    · exact List.mem_append_right _ ha)
  refine ⟨x.1, x.2, I.cells, I.st.viewC V hlv C, fun a ha => ?_⟩
  by_cases hm : a ∈ addrs d l b dx rl dv lv P vvs
  · exact I.hid a hm
  · rcases List.mem_append.mp ha with ha | ha
    · have e : a = lv' := by
        simp only [addrs, List.cons_append, List.nil_append, List.mem_cons, not_or, List.not_mem_nil, or_false] at ha hm
        rcases ha with e | e | e | e | e | e | e | e
        · exact absurd e hm.1
        · exact absurd e hm.2.1
        · exact absurd e hm.2.2.1
        · exact absurd e hm.2.2.2.1
        · exact absurd e hm.2.2.2.2.1
        · exact absurd e hm.2.2.2.2.2.1
        · exact e
        · exact absurd e hm.2.2.2.2.2.2.2.1
      subst e
      rcases hlv with rfl | hlv
      · exact absurd (by first | kopn_word | simp) hm
      · exact fresh_g I.fr hlv
    · rcases hvs _ (of_refs ha) with hv | ⟨a', e, hn⟩
      · exact absurd (List.mem_append_right _ (mem_refs hv)) hm
      · cases e
        exact fresh_g I.fr hn
theorem Inn.offO {dp un : Nat} {gs : Option (List Code)} {base : Heap} {fs : List Env} (I : Inn prog w g L h m own q d l b dx rl dv lv P bvs vvs rb rv most nb nv) (B : Below (AA dp fs gs un) base fs g) : Off base fs (addrs d l b dx rl dv lv P vvs) := fun a ha => by
  refine ⟨none_of_base B.stays (I.hid a ha).1, fun hm => ?_⟩
  obtain ⟨_, o, ho, _⟩ := B.frames.mem hm
  rw [(I.hid a ha).1] at ho
  cases ho
theorem Inn.off {dp un : Nat} {gs : Option (List Code)} {base : Heap} {fs : List Env} {env : Env} {ls : List Addr} (I : Inn prog w g L h m own q d l b dx rl dv lv P bvs vvs rb rv most nb nv) (B : Below (AA dp fs gs un) base fs g) (hf : env.frame = some L)
    (hs : ∀ a ∈ ls, a ∈ addrs d l b dx rl dv lv P vvs) : Off base (env :: fs) ls := fun a ha => off_of B hf (I.hid a (hs a ha)).1 (I.hid a (hs a ha)).2
end

noncomputable def cellsOf (h : Heap) (A : List Addr) : List (Addr × Obj) := A.filterMap fun a => (h.get? a).map fun o => (a, o)
theorem cellsOf_get {h : Heap} {A : List Addr} : ∀ q ∈ cellsOf h A, h.get? q.1 = some q.2 := fun q hq => by
  obtain ⟨a, _, e⟩ := List.mem_filterMap.mp hq
  cases z : h.get? a with
  | none => rw [z] at e; cases e
  | some o => rw [z] at e; cases e; exact z
theorem cellsOf_sub {h : Heap} {A : List Addr} : ∀ a ∈ (cellsOf h A).map (·.1), a ∈ A := fun a ha => by
  obtain ⟨q, hq, rfl⟩ := List.mem_map.mp ha
  obtain ⟨a', ha', e⟩ := List.mem_filterMap.mp hq
  cases z : h.get? a' with
  | none => rw [z] at e; cases e
  | some o => rw [z] at e; cases e; exact ha'
theorem cellsOf_mem {h : Heap} {A : List Addr} {a : Addr} (ha : a ∈ A) (e : ∃ o, h.get? a = some o) : a ∈ (cellsOf h A).map (·.1) := by
  obtain ⟨o, e⟩ := e
  exact List.mem_map.mpr ⟨(a, o), List.mem_filterMap.mpr ⟨a, ha, by rw [e]; rfl⟩, rfl⟩
theorem BufAt.chgT {w : World} {h h' : Heap} {Δ : List Addr} {b dx rl : Addr} {vs : List Value} {rows : List Row} {most next : Int} (x : BufAt w h b dx rl vs rows most next) (C : Chg Δ h h') (hb : b ∉ Δ) (hd : dx ∉ Δ) (hl : rl ∉ Δ)
    (hp : ∀ a ∈ Δ, ∀ o, h.get? a = some o → ∀ x y z n, o ≠ tup3 x y z n) : BufAt w h' b dx rl vs rows most next := by
  obtain ⟨h1, x5, ⟨nr, h3⟩, hrows, hsm⟩ := x
  refine exE5 x5 fun t1 t2 t3 tm tn h2 => ?_
  clear x5
  exact ⟨C _ _ h1 hb, ⟨t1, t2, t3, tm, tn, C _ _ h2 hd⟩, ⟨nr, C _ _ h3 hl⟩, hrows.mono fun _ _ ⟨a, y1, y2, n, e, ha⟩ => ⟨a, y1, y2, n, e, C _ _ ha fun m => hp a m _ ha _ _ _ _ rfl⟩, hsm⟩
theorem VAt.chgT {prog : Program} {w : World} {h h' : Heap} {Δ : List Addr} {d l : Addr} {vs : List Value} {rows : List Row} {most next : Int} (x : VAt prog w h d l vs rows most next) (C : Chg Δ h h') (hd : d ∉ Δ) (hl : l ∉ Δ)
    (hp : ∀ a ∈ Δ, ∀ o, h.get? a = some o → ¬ RowObj o) : VAt prog w h' d l vs rows most next := by
  obtain ⟨⟨od, tm, tn, hd1, hd2⟩, ⟨n, hl1⟩, hrows, lo, hsm⟩ := x
  exact ⟨⟨od, tm, tn, C _ _ hd1 hd, hd2⟩, ⟨n, C _ _ hl1 hl⟩, hrows.mono fun _ _ ⟨a, y1, y2, n, e, ha⟩ => ⟨a, y1, y2, n, e, C _ _ ha fun m => hp a m _ ha ⟨_, _, _, _, _, rfl⟩⟩, lo, hsm⟩
section
variable {prog : Program} {w : World} {g h h' h'' : Heap} {L : Addr} {m m' : Str → Option Value} {own own' : List (Addr × Obj)} {q : Str} {d l b dx rl dv lv P : Addr} {bvs vvs : List Value} {rb rv : List Row} {most nb nv : Int}
theorem Inn.moreX (I : Inn prog w g L h m own q d l b dx rl dv lv P bvs vvs rb rv most nb nv) (Y : List (Addr × Obj)) (hY : ∀ q ∈ Y, h.get? q.1 = some q.2) (hA : ∀ q ∈ Y, g.get? q.1 = none ∧ q.1 ≠ L) : ∃ rs, Led g L h (own ++ Y) rs :=
  led fun q hq => by
    rcases List.mem_append.mp hq with hq | hq
    · exact I.own q hq
    · exact ⟨hY q hq, (hA q hq).2, (hA q hq).1⟩
theorem Inn.stepT {rs news : List (Addr × Obj)} {ps ps' : Array Value} (I : Inn prog w g L h m own q d l b dx rl dv lv P bvs vvs rb rv most nb nv) (Ld : Led g L h (own ++ [(P, tabObj ps)]) rs) (F' : Fr g L h' m') (N' : News g L h' news) (hsub : ∀ q ∈ own ++ rs, q ∈ news)
    (hT : TabOk q h' P ps') : Inn prog w g L h' m' own q d l b dx rl dv lv P bvs vvs rb rv most nb nv := by
  have C := Ld.kept I.fr F' N' fun q hq => hsub q (List.mem_append_right _ hq)
  have hold : h.get? P = some (tabObj ps) := (Ld.news _ (List.mem_append_left _ (List.mem_append_right _ (.head _)))).1
  have nd := I.st.nd
  have hno : ∀ a ∈ addrs d l b dx rl dv lv P vvs, a ≠ P → a ∉ L :: (own ++ [(P, tabObj ps)]).map (·.1) := fun a ha hne hm => by
    rcases List.mem_cons.mp hm with e | hm
    · exact (I.hid _ ha).2 e
    · rw [List.map_append] at hm
      rcases List.mem_append.mp hm with hm | hm
      · exact I.ne _ ha hm
      · simp at hm; exact hne hm
  have hob : ∀ a ∈ L :: (own ++ [(P, tabObj ps)]).map (·.1), ∀ o, h.get? a = some o → Plain o ∨ o = tabObj ps := fun a ha o e => by
    rcases List.mem_cons.mp ha with rfl | ha
    · obtain ⟨oL, es, ep, hL, hd, _⟩ := I.fr.ns
      rw [hL] at e
      cases e
      exact .inl (plain_data hd)
    · rw [List.map_append] at ha
      rcases List.mem_append.mp ha with ha | ha
      · obtain ⟨z, hz, rfl⟩ := List.mem_map.mp ha
        obtain ⟨v, hv⟩ := I.cells z hz
        rw [(I.own z hz).1] at e
        cases e
        exact .inl (plain_cell hv)
      · have : a = P := by simpa using ha
        subst this
        rw [hold] at e
        cases e
        exact .inr rfl
  refine ⟨F', fun q hq => N' q (hsub q (List.mem_append_left _ hq)), I.cells, ⟨I.st.deck.chg C (hno _ (by first | kopn_word | simp) ?_) (hno _ (by first | kopn_word | simp) ?_), I.st.buf.chgT C (hno _ (by first | kopn_word | simp) ?_) (hno _ (by first | kopn_word | simp) ?_) (hno _ (by first | kopn_word | simp) ?_) (fun a ha o e x y z n q => ?_),
    I.st.view.chgT C (hno _ (by first | kopn_word | simp) ?_) (hno _ (by first | kopn_word | simp) ?_) (fun a ha o e q => ?_), ⟨_, hT⟩, I.st.nd⟩, I.hid⟩
  iterate 5 (first | (rcases hob a ha o e with p | rfl; exact p.1 _ _ _ _ q; cases q) | exact nd_ne nd 0 7 rfl rfl (by decide) | exact nd_ne nd 1 7 rfl rfl (by decide) | exact nd_ne nd 2 7 rfl rfl (by decide) | exact nd_ne nd 3 7 rfl rfl (by decide) | exact nd_ne nd 4 7 rfl rfl (by decide) | exact nd_ne nd 5 7 rfl rfl (by decide) | exact nd_ne nd 6 7 rfl rfl (by decide))
  · rcases hob a ha o e with p | rfl
    · exact p.1 _ _ _ _ q
    · cases q
  · first | exact nd_ne nd 0 7 rfl rfl (by decide) | exact nd_ne nd 1 7 rfl rfl (by decide) | exact nd_ne nd 2 7 rfl rfl (by decide) | exact nd_ne nd 3 7 rfl rfl (by decide) | exact nd_ne nd 4 7 rfl rfl (by decide) | exact nd_ne nd 5 7 rfl rfl (by decide) | exact nd_ne nd 6 7 rfl rfl (by decide)
  · first | exact nd_ne nd 0 7 rfl rfl (by decide) | exact nd_ne nd 1 7 rfl rfl (by decide) | exact nd_ne nd 2 7 rfl rfl (by decide) | exact nd_ne nd 3 7 rfl rfl (by decide) | exact nd_ne nd 4 7 rfl rfl (by decide) | exact nd_ne nd 5 7 rfl rfl (by decide) | exact nd_ne nd 6 7 rfl rfl (by decide)
  · rcases hob a ha o e with p | rfl
    · exact p.2.1 q
    · obtain ⟨x, t, y, z, n, q⟩ := q
      cases q
/-- behind a call through _law_heard that turns the buffers -/
theorem Inn.heardBuf {rl' : Addr} {bvs' : List Value} {rb' : List Row} {nb' : Int} {Δ : List Addr} (I : Inn prog w g L h m own q d l b dx rl dv lv P bvs vvs rb rv most nb nv) (hΔ : ∀ a ∈ Δ, a ∈ [dx, rl]) (Bu : BufAt w h'' b dx rl' bvs' rb' most nb') (hrl : rl' = rl ∨ h.get? rl' = none)
    (C1 : Chg Δ h h'') (C2 : Chg [h.objs.size] h'' h') (hD : ∃ o es n, h''.get? h.objs.size = some o ∧ o.data = .dict es n) : Inn prog w g L h' m own q d l b dx rl' dv lv P bvs' vvs rb' rv most nb' nv := by
  obtain ⟨oD, es, n, hD1, hD2⟩ := hD
  have th := I.st.there
  have ns : ∀ a ∈ [d, l, b, dx, rl, dv, lv, P], a ∉ [h.objs.size] := fun a ha e => by
    obtain ⟨o, ho⟩ := th a (List.mem_append_left _ ha)
    exact absurd (Heap.lt_size ho) (List.mem_singleton.mp e ▸ Nat.lt_irrefl _)
  have Cs : Chg [dx, rl] h h' := fun a o e nm => C2 _ _ (C1 a o e fun hm => nm (hΔ a hm)) fun hm => absurd (Heap.lt_size e) (List.mem_singleton.mp hm ▸ Nat.lt_irrefl _)
  refine I.bufC (Bu.chg C2 (ns _ (by first | kopn_word | simp)) (ns _ (by first | kopn_word | simp)) ?_ fun a ha o e => ?_) hrl Cs
  · rintro hm
    have hm := List.mem_singleton.mp hm
    obtain ⟨_, _, ⟨nr, h3⟩, _, _⟩ := Bu
    rw [hm, hD1] at h3
    cases h3
    cases hD2
  · rw [List.mem_singleton.mp ha, hD1] at e
    cases e
    exact (plain_data hD2).rowish
theorem Inn.heardT {Δ : List Addr} {T : Addr} (I : Inn prog w g L h m own q d l b dx rl dv lv P bvs vvs rb rv most nb nv) (hΔ : ∀ a ∈ Δ, a ∈ [dx, rl]) (hT : ∀ o, h.get? T = some o → T ∈ Δ) : g.get? T = none ∧ T ≠ L := by
  cases z : h.get? T with
  | none => exact fresh_g I.fr z
  | some o =>
    have := hΔ _ (hT o z)
    refine I.hid _ (List.mem_append_left _ ?_)
    simp only [List.mem_cons, List.not_mem_nil, or_false] at this ⊢
    rcases this with e | e <;> simp [e]
/-- behind an exception that went by -/
theorem Inn.turned {dp un : Nat} {gs : Option (List Code)} {base : Heap} {fs : List Env} {env : Env} (I : Inn prog w g L h m own q d l b dx rl dv lv P bvs vvs rb rv most nb nv) (B : Below (AA dp fs gs un) base fs g) (hf : env.frame = some L) (S : Slt (env :: fs) [] h h')
    (NF : ∀ a ∈ frs fs, ∃ o es n, g.get? a = some o ∧ o.data = .dict es n) :
    ∃ g', KtsTurn (frs fs) g g' ∧ Below (AA dp fs gs un) base fs g' ∧ Inn prog w g' L h' m own q d l b dx rl dv lv P bvs vvs rb rv most nb nv ∧ (∀ news, News g L h news → News g' L h' news) := by
  obtain ⟨g', T, F', B'⟩ := turn B I.fr hf S (fun _ h => nomatch h)
  have tn := fun news (N : News g L h news) => turn_news B N hf S T (fun _ _ h => nomatch h)
  refine ⟨g', T, B', ⟨F', tn _ I.own, I.cells, I.st.chg (Δ := frs (env :: fs)) (fun a o e n => S.1 a o e (fun h => nomatch h) n) (fun a ha hm => ?_) (fun a ha o e => ?_), fun a ha => ⟨T.none_ _ (I.hid a ha).1, (I.hid a ha).2⟩⟩, tn⟩
  · rw [frs_cons hf] at ha
    rcases List.mem_cons.mp ha with rfl | ha
    · exact (I.hid _ (List.mem_append_left _ hm)).2 rfl
    · obtain ⟨_, o, ho, _⟩ := B.frames.mem ha
      rw [(I.hid _ (List.mem_append_left _ hm)).1] at ho
      cases ho
  · rw [frs_cons hf] at ha
    rcases List.mem_cons.mp ha with rfl | ha
    · obtain ⟨oL, es, ep, hL, hd, _⟩ := I.fr.ns
      rw [hL] at e
      cases e
      exact plain_data hd
    · obtain ⟨o', es, n, ho, hd⟩ := NF a ha
      rw [I.fr.keep _ _ ho] at e
      cases e
      exact plain_data hd
theorem slt_turned {s g g' h : Heap} {L : Addr} {m : Str → Option Value} {fs : List Env} {Δ : List Addr} (back : Chg Δ s g) (T : KtsTurn (frs fs) g g') (F : Fr g' L h m) (hd : ∀ a ∈ Δ, a ∉ frs fs) : Slt fs Δ s h :=
  ⟨fun a o e n nf => F.keep _ _ (T.other _ _ (back a o e n) nf), fun a o e hm => by
    obtain ⟨sl, hs⟩ := T.frame _ _ (back a o e fun q => hd a q hm) hm
    exact ⟨sl, F.keep _ _ hs⟩⟩
end
theorem rows_gP {g h : Heap} {cells : List (Addr × Obj)} {vs : List Value} {rows : List Row} (hg : ∀ a o, h.get? a = some o → a ∉ cells.map (·.1) → g.get? a = some o) (hc : ∀ q ∈ cells, h.get? q.1 = some q.2)
    (hp : ∀ q ∈ cells, ∀ x y z n, q.2 ≠ tup3 x y z n) (P : Paired (TupAt h) vs rows) : Paired (TupAt g) vs rows :=
  P.mono fun _ _ ⟨a, t1, t2, n, e, ha⟩ => ⟨a, t1, t2, n, e, hg _ _ ha fun hm => by
    obtain ⟨q, hq, rfl⟩ := List.mem_map.mp hm
    rw [hc q hq] at ha
    exact hp q hq _ _ _ _ (Option.some.inj ha)⟩
theorem no_tup3 {o : Obj} {v : Option Value} (h : o.data = .cell v) : ∀ x y z n, o ≠ tup3 x y z n := fun x y z n e => by rw [e] at h; cases h
theorem five_no3 {w : World} {c1 c2 b dx rl : Addr} {o1 o2 : Obj} {t1 t2 t3 : Tok} {x y z : Value} {vs : List Value} {nr : Nat} (h1 : ∀ x y z n, o1 ≠ tup3 x y z n) (h2 : ∀ x y z n, o2 ≠ tup3 x y z n) :
    ∀ q ∈ ([(c1, o1), (c2, o2), (b, instObj 154 dx), (dx, dictOf (bufEs w t1 t2 t3 x y z) 3), (rl, W.listOf vs.toArray nr)] : List (Addr × Obj)), ∀ x y z n, q.2 ≠ tup3 x y z n := fun q hq => by
  simp only [List.mem_cons, List.not_mem_nil, or_false] at hq
  rcases hq with rfl | rfl | rfl | rfl | rfl
  · exact h1
  · exact h2
  · intro x y z n e
    cases congrArg Obj.data e
  · intro x y z n e
    cases congrArg Obj.data e
  · intro x y z n e
    have := congrArg Obj.cls e
    simp [W.listOf] at this
theorem six_no3 {w : World} {c1 c2 c3 b dx rl : Addr} {o1 o2 o3 : Obj} {t1 t2 t3 : Tok} {x y z : Value} {vs : List Value} {nr : Nat} (h1 : ∀ x y z n, o1 ≠ tup3 x y z n) (h2 : ∀ x y z n, o2 ≠ tup3 x y z n) (h3 : ∀ x y z n, o3 ≠ tup3 x y z n) :
    ∀ q ∈ ([(c1, o1), (c2, o2), (c3, o3), (b, instObj 154 dx), (dx, dictOf (bufEs w t1 t2 t3 x y z) 3), (rl, W.listOf vs.toArray nr)] : List (Addr × Obj)), ∀ x y z n, q.2 ≠ tup3 x y z n := fun q hq => by
  rcases List.mem_cons.mp hq with rfl | hq
  · exact h1
  · exact five_no3 h2 h3 q hq
theorem ne_data {h : Heap} {a b : Addr} {o o' : Obj} (x : h.get? a = some o) (y : h.get? b = some o') (n : o.data ≠ o'.data) : @Ne Nat a b := by
  intro e
  have e' : a = b := e
  subst e'
  rw [x] at y
  cases y
  exact n rfl
theorem dict_ne_tup {prog : Program} {w : World} {K : Type} [DecidableEq K] {knd : KeyKind prog w K} {od : Obj} {kvs : List (K × Value)} {x y : Value} {n : Nat} {h : Heap} {d l : Addr} (hd : h.get? d = some od) (D : od.IsDictOf knd kvs) (hl : h.get? l = some (tup2 x y n)) : @Ne Nat d l :=
  ne_data hd hl fun e => by
    obtain ⟨es, ep, _, h2, _⟩ := D
    rw [e] at h2
    cases h2
theorem tup_ne_list {x y : Value} {n n' : Nat} {its : Array Value} {h : Heap} {d l : Addr} (hd : h.get? d = some (tup2 x y n)) (hl : h.get? l = some (W.listOf its n')) : @Ne Nat d l := ne_get hd hl (by first | kopn_word | simp)
theorem tup_ne_own {x y : Value} {n : Nat} {h : Heap} {d c : Addr} {o : Obj} {v : Option Value} (hd : h.get? d = some (tup2 x y n)) (hc : h.get? c = some o) (e : o.data = .cell v) : @Ne Nat d c := ne_data hd hc (by rw [e]; nofun)
theorem pick_to (l : List Value) (i : Nat) : kms_pick l none (some (i : Int)) = l.take i := by
  unfold kms_pick kms_lo kms_hi
  simp only [if_neg (show ¬ (i : Int) < 0 by omega), List.drop_zero, Nat.sub_zero, Int.toNat_natCast]
  rw [List.take_eq_take_iff]
  omega
theorem pr_cut {α β : Type} {F : α → β → Prop} : ∀ {l₁ : List α} {l₂ : List β} (i : Nat), Paired F l₁ l₂ → Paired F (l₁.take i ++ l₁.drop (i + 1)) (l₂.eraseIdx i)
  | _, _, i, .nil => by simp; exact .nil
  | _, _, 0, .cons _ t => by simpa using t
  | _, _, i + 1, .cons h t => by simpa using Paired.cons h (pr_cut i t)
theorem rows_chg {h h' : Heap} {Δ : List Addr} {vs : List Value} {rows : List Row} (P : Paired (LRow h) vs rows) (C : Chg Δ h h') (hp : ∀ a ∈ refs vs, a ∉ Δ) : Paired (LRow h') vs rows := by
  have aux : ∀ {vs' : List Value} {rows' : List Row}, (∀ v ∈ vs', v ∈ vs) → Paired (LRow h) vs' rows' → Paired (LRow h') vs' rows' := by
    intro vs' rows' hs P
    induction P with
    | nil => exact .nil
    | cons x _ ih =>
      obtain ⟨a, t1, t2, n, rfl, ha⟩ := x
      exact .cons ⟨a, t1, t2, n, rfl, C _ _ ha (hp a (mem_refs (hs _ (.head _))))⟩ (ih fun v hv => hs v (.tail _ hv))
  exact aux (fun _ h => h) P
section
variable {prog : Program} {w : World} {g h h' : Heap} {L : Addr} {m m' : Str → Option Value} {own own' : List (Addr × Obj)} {q : Str} {d l b dx rl dv lv P : Addr} {bvs vvs : List Value} {rb rv : List Row} {most nb nv : Int}
theorem Inn.chgZ {Y Z rs news : List (Addr × Obj)} (I : Inn prog w g L h m own q d l b dx rl dv lv P bvs vvs rb rv most nb nv) (Ld : Led g L h (own ++ (Y ++ Z)) rs) (F' : Fr g L h' m') (N' : News g L h' news) (hsub : ∀ q ∈ Y ++ rs, q ∈ news) :
    Chg (L :: (own.map (·.1) ++ Z.map (·.1))) h h' := fun a o e n => by
  by_cases hY : a ∈ Y.map (·.1)
  · obtain ⟨z, hz, rfl⟩ := List.mem_map.mp hY
    have h1 := (Ld.news z (List.mem_append_left _ (List.mem_append_right _ (List.mem_append_left _ hz)))).1
    rw [e] at h1
    cases h1
    exact (N' z (hsub z (List.mem_append_left _ hz))).1
  · refine Ld.kept I.fr F' N' (fun q hq => hsub q (List.mem_append_right _ hq)) a o e fun hm => ?_
    rcases List.mem_cons.mp hm with rfl | hm
    · exact n (.head _)
    · rw [List.map_append, List.map_append] at hm
      rcases List.mem_append.mp hm with hm | hm
      · exact n (.tail _ (List.mem_append_left _ hm))
      · rcases List.mem_append.mp hm with hm | hm
        · exact hY hm
        · exact n (.tail _ (List.mem_append_right _ hm))
theorem Inn.stepV {Z : List (Addr × Obj)} {lv' : Addr} {vvs' : List Value} {rv' : List Row} {nv' : Int} (I : Inn prog w g L h m own q d l b dx rl dv lv P bvs vvs rb rv most nb nv) (C : Chg (L :: (own.map (·.1) ++ Z.map (·.1))) h h') (hZ : ∀ q ∈ Z, q.1 ∈ dv :: refs vvs)
    (F' : Fr g L h' m') (N' : News g L h' own') (he : own'.map (·.1) = own.map (·.1)) (hc : ∀ q ∈ own', ∃ v, q.2.data = .cell v) (V : VAt prog w h' dv lv' vvs' rv' most nv') (hvs : ∀ v ∈ vvs', v ∈ vvs ∨ ∃ a, v = .ref a ∧ h.get? a = none) (hlv : lv' = lv ∨ h.get? lv' = none) :
    Inn prog w g L h' m' own' q d l b dx rl dv lv' P bvs vvs' rb rv' most nb nv' := by
  have nd := I.st.nd
  have th := I.st.there
  have ap := I.st.rowsApart
  obtain ⟨⟨od', tm, tn, hd1, hd2⟩, ⟨n, hl1⟩, hrows, lo, hsm⟩ := I.st.view
  have hno : ∀ a ∈ [d, l, b, dx, rl, dv, lv, P], a ≠ dv → a ∉ L :: (own.map (·.1) ++ Z.map (·.1)) := fun a ha hne hm => by
    rcases List.mem_cons.mp hm with e | hm
    · exact (I.hid _ (List.mem_append_left _ ha)).2 e
    · rcases List.mem_append.mp hm with hm | hm
      · exact I.ne _ (List.mem_append_left _ ha) hm
      · obtain ⟨z, hz, rfl⟩ := List.mem_map.mp hm
        rcases List.mem_cons.mp (hZ z hz) with e | e
        · exact hne e
        · exact ap _ e ha
  have hob : ∀ a ∈ L :: (own.map (·.1) ++ Z.map (·.1)), ∀ o, h.get? a = some o → Rowish o := fun a ha o e => by
    rcases List.mem_cons.mp ha with rfl | ha
    · obtain ⟨oL, es, ep, hL, hd, _⟩ := I.fr.ns
      rw [hL] at e
      cases e
      exact (plain_data hd).rowish
    · rcases List.mem_append.mp ha with ha | ha
      · obtain ⟨z, hz, rfl⟩ := List.mem_map.mp ha
        obtain ⟨v, hv⟩ := I.cells z hz
        rw [(I.own z hz).1] at e
        cases e
        exact (plain_cell hv).rowish
      · obtain ⟨z, hz, rfl⟩ := List.mem_map.mp ha
        rcases List.mem_cons.mp (hZ z hz) with q | q
        · rw [q, hd1] at e
          cases e
          exact (plain_dict hd2).rowish
        · obtain ⟨r, _, a', y1, y2, n', e', ho⟩ := pr_mem hrows _ (of_refs q)
          injection e' with e'
          rw [e', ho] at e
          cases e
          exact rowish_row
  obtain ⟨ps, tt⟩ := I.st.tab
  refine ⟨F', N', hc, ⟨I.st.deck.chg C (hno _ (by first | kopn_word | simp) ?_) (hno _ (by first | kopn_word | simp) ?_), I.st.buf.chg C (hno _ (by first | kopn_word | simp) ?_) (hno _ (by first | kopn_word | simp) ?_) (hno _ (by first | kopn_word | simp) ?_) hob, V, ⟨ps, tt.chg C hob⟩, ?_⟩, fun a ha => ?_⟩
  iterate 5 (first | exact nd_ne nd 0 5 rfl rfl (by decide) | exact nd_ne nd 1 5 rfl rfl (by decide) | exact nd_ne nd 2 5 rfl rfl (by decide) | exact nd_ne nd 3 5 rfl rfl (by decide) | exact nd_ne nd 4 5 rfl rfl (by decide) | exact nd_ne nd 6 5 rfl rfl (by decide) | exact nd_ne nd 7 5 rfl rfl (by decide))
  · rcases hlv with rfl | hlv
    · exact I.st.nd
    · have ne : ∀ a ∈ [d, l, b, dx, rl, dv, lv, P] ++ refs vvs, @Ne Nat lv' a := fun a ha e => by
        obtain ⟨o, ho⟩ := th a ha
        have e' : lv' = a := e
        rw [← e', hlv] at ho
        cases ho
      exact nd_set 6 I.st.nd fun a ha => ne a (List.mem_append_left _ ha)
  · by_cases hm : a ∈ addrs d l b dx rl dv lv P vvs
    · exact I.hid a hm
    · rcases List.mem_append.mp ha with ha | ha
      · have e : a = lv' := by
          simp only [addrs, List.cons_append, List.nil_append, List.mem_cons, not_or, List.not_mem_nil, or_false] at ha hm
          rcases ha with e | e | e | e | e | e | e | e
          · exact absurd e hm.1
          · exact absurd e hm.2.1
          · exact absurd e hm.2.2.1
          · exact absurd e hm.2.2.2.1
          · exact absurd e hm.2.2.2.2.1
          · exact absurd e hm.2.2.2.2.2.1
          · exact e
          · exact absurd e hm.2.2.2.2.2.2.2.1
        subst e
        rcases hlv with rfl | hlv
        · exact absurd (by first | kopn_word | simp) hm
        · exact fresh_g I.fr hlv
      · rcases hvs _ (of_refs ha) with hv | ⟨a', e, hn⟩
        · exact absurd (List.mem_append_right _ (mem_refs hv)) hm
        · cases e
          exact fresh_g I.fr hn
theorem Inn.rowsFree (I : Inn prog w g L h m own q d l b dx rl dv lv P bvs vvs rb rv most nb nv) : ∀ a ∈ refs vvs, a ∉ L :: (own.map (·.1) ++ [dv]) := fun a ha hm => by
  rcases List.mem_cons.mp hm with e | hm
  · exact (I.hid _ (List.mem_append_right _ ha)).2 e
  · rcases List.mem_append.mp hm with hm | hm
    · exact I.ne _ (List.mem_append_right _ ha) hm
    · exact I.st.rowsApart _ ha (by rw [List.mem_singleton.mp hm]; simp)
end
theorem Led.freshT {g h : Heap} {L T : Addr} {E rs : List (Addr × Obj)} (x : Led g L h E rs) (hT : g.get? T = none) (hL : T ≠ L) (l : ∀ q ∈ E ++ rs, q.1 < T) : h.get? T = none := by
  cases z : h.get? T with
  | none => rfl
  | some o =>
    by_cases hE : T ∈ E.map (·.1)
    · obtain ⟨q, hq, e⟩ := List.mem_map.mp hE
      exact absurd (l q (List.mem_append_left _ hq)) (e ▸ Nat.lt_irrefl _)
    · exact absurd (l _ (List.mem_append_right _ (x.all T o z hL hE hT))) (Nat.lt_irrefl _)
open PySem.SeqAt in
theorem eqa_str {A : Around} {s : Shared} (x : Str) (t u : Tok) : EqAt A s (.str x t) (.str x u) true := by simpa using EqAt.str_str (A := A) (s := s) x t x u
open PySem.SeqAt in
theorem eqa_bytes {A : Around} {s : Shared} (x : Bts) (t u : Tok) : EqAt A s (.bytes x t) (.bytes x u) true := by simpa using (eqGives_bytes x x t u).at A s
open PySem.SeqAt in
theorem tup_true {prog : Program} {w : World} {A : Around} {E : Value → Shared → Prop} {s : Shared} {Q : Value → Shared → Prop} {a b : Addr} {n1 n2 : Nat} {x y x' y' : Value} (ha : s.heap.get? a = some (tup2 x y n1)) (hb : s.heap.get? b = some (tup2 x' y' n2)) (hu : A.units < cLine)
    (h1 : EqAt A.in1 s x x' true) (h2 : EqAt A.in1 s y y' true) (h : Q (.bool true) s) : wpAny (model prog w) A (compareOp .Eq (.ref a) (.ref b)) Q E s :=
  eq_tupleAt (e := fun _ => true) (l := a) (b := b) (items := #[x, y]) (items2 := #[x', y']) ⟨_, ha, rfl, n1, rfl⟩ ⟨_, hb, rfl, n2, rfl⟩ hu (fun j p1 p2 => by
    match j, p1, p2 with
    | 0, _, _ => exact h1
    | 1, _, _ => exact h2) h
theorem Inn.tup_in {prog : Program} {w : World} {g h : Heap} {L : Addr} {m : Str → Option Value} {own rs : List (Addr × Obj)} {q : Str} {d l b dx rl dv lv P D : Addr} {bvs vvs : List Value} {rb rv : List Row} {most nb nv : Int} {ps : Array Value} {x y : Value} {n : Nat}
    (I : Inn prog w g L h m own q d l b dx rl dv lv P bvs vvs rb rv most nb nv) (Ld : Led g L h (own ++ [(P, tabObj ps)]) rs) (hD : h.get? D = some (tup2 x y n)) (hL : D ≠ L) (hg : g.get? D = none) : (D, tup2 x y n) ∈ rs := by
  refine Ld.all _ _ hD hL (fun hm => ?_) hg
  obtain ⟨z, hz, e⟩ := List.mem_map.mp hm
  have h1 := (Ld.news z (List.mem_append_left _ hz)).1
  rw [e, hD] at h1
  have h1 := Option.some.inj h1
  rcases List.mem_append.mp hz with hz | hz
  · obtain ⟨v, hv⟩ := I.cells z hz
    rw [← h1] at hv
    cases hv
  · rw [List.mem_singleton.mp hz] at h1
    have := congrArg Obj.data h1
    cases this
theorem row_at {rows : List Row} (hnd : (rows.map (·.1)).Nodup) {nm : Option Bts} {i : Nat} (hi : atOf rows nm = some i) : ∃ r, rows[i]? = some r := by
  cases nm with
  | none => obtain ⟨r, h, _⟩ := at_newest hnd hi; exact ⟨r, h⟩
  | some nm => obtain ⟨r, h, _⟩ := find_at (show rows.findIdx? (fun r => r.1 == nm) = some i from hi); exact ⟨r, h⟩
theorem news_hd {g h : Heap} {L a : Addr} {o : Obj} {r : List (Addr × Obj)} (N : News g L h ((a, o) :: r)) : ∃ D, D = a ∧ (h.get? D = some o ∧ D ≠ L ∧ g.get? D = none) := ⟨a, rfl, N _ (.head _)⟩
theorem Led.codeKept {g h : Heap} {L P : Addr} {m : Str → Option Value} {E rs : List (Addr × Obj)} {q : Str} {ps : Array Value} (x : Led g L h E rs) (F : Fr g L h m) (hE : ∀ z ∈ E, ∀ vs, z.2.data = .fields vs → z.1 = P) (hT : TabOk q h P ps) :
    ∀ pos v, codeAmong pos ps.toList = some v → ∃ c', v = .ref c' ∧ c' ≠ P ∧ h.CodeRec (.ref c') q ∧ ∀ h' m', Fr g L h' m' → News g L h' rs → h'.CodeRec (.ref c') q := fun pos v e => by
  obtain ⟨c', rfl, hne, hrec⟩ := hT.2.2 pos v e
  refine ⟨c', rfl, hne, hrec, fun h' m' F' N' => ?_⟩
  obtain ⟨c, oc, vs, t, e1, hoc, hd, hv⟩ := hrec
  cases e1
  refine ⟨c', oc, vs, t, rfl, ?_, hd, hv⟩
  cases z : g.get? c' with
  | none =>
    refine (N' _ (x.all c' oc hoc (fun q => ?_) (fun q => ?_) z)).1
    · obtain ⟨oL, es, ep, hL, hLd, _⟩ := F.ns
      rw [← q, hoc] at hL
      cases hL
      rw [hd] at hLd
      cases hLd
    · obtain ⟨y, hy, e⟩ := List.mem_map.mp q
      have := (x.news y (List.mem_append_left _ hy)).1
      rw [e, hoc] at this
      cases this
      exact hne (e.symm.trans (hE y hy vs hd))
  | some o' =>
    have := F.keep _ _ z
    rw [hoc] at this
    cases this
    exact F'.keep _ _ z
section
variable {M : Model} {A : Around} {E : Value → Shared → Prop} {s : Shared} {h₀ : Heap} {L a c P : Addr} {m mg mb : Str → Option Value} {cn : Str} {cs : Scope} {ccd : Value} {cl : List (Str × Addr)} {news rs : List (Addr × Obj)} {g : Obj → List (Addr × Obj)}
  {p : Program} {loose : List Str} {mean : ExcName → Option Value} {name qual : Str} {params : Arguments} {body : PySem.Expr} {scope : Scope} {ps : Array Value} {pos : Pos} {firstLine : Nat} {clos : List (Str × Addr)}
theorem lam_make2 {Q : Value → Shared → Prop} (F : Fr h₀ L s.heap m) (N : News h₀ L s.heap news) (T : Top p loose mean mg mb h₀) (C : CodeHd h₀ c P) (hcd : ccd = .ref c) (U : UpdF P (tabObj ps) news g) (W2 : TriplesOk ps.toList)
    (W3 : ∀ pos v, codeAmong pos ps.toList = some v → ∃ c', v = .ref c' ∧ c' ≠ P ∧ s.heap.CodeRec (.ref c') qual ∧ ∀ h' m', Fr h₀ L h' m' → News h₀ L h' rs → h'.CodeRec (.ref c') qual) (hrs : ∀ ps', ∀ q ∈ rs, q ∈ g (tabObj ps'))
    (hcl : closureFor scope (envX cn cs L a ccd cl) = pure clos)
    (h : ∀ f c' ctv ps' h' tk, Fr h₀ L h' m → News h₀ L h' ((f, kla_obj name qual params body scope clos ((mg "__name__").getD .none) c' ctv) :: g (tabObj ps')) → TabOk qual h' P ps' → h'.CodeRec (.ref c') qual →
      (∀ q ∈ news, q.1 < f) → Q (.ref f) { s with heap := h', toks := tk }) :
    wpAny M A (makeFunction name qual params (.expr body) scope (envX cn cs L a ccd cl) [] [] [] pos firstLine) Q E s := by
  obtain ⟨own, rest, rfl, hgr, h1, h2⟩ := U.split
  have hm := N (P, tabObj ps) (List.mem_append_right _ (.head _))
  cases hq : codeAmong pos ps.toList with
  | none =>
    refine kla_nest F N T C hcd U W2 hq hcl fun f c' oc vs t ctv h' tk F' N' d1 d2 l1 l2 => ?_
    have hrec : h'.CodeRec (.ref c') qual := codeRec_news N' (.tail _ (.head _)) d1 d2
    have hPm : (P, tabObj (ps ++ #[rawInt pos.line, rawInt pos.col, .ref c'])) ∈ g (tabObj (ps ++ #[rawInt pos.line, rawInt pos.col, .ref c'])) := by rw [hgr]; exact List.mem_append_right _ (.head _)
    have hP' := (N' _ (.tail _ (.tail _ hPm))).1
    have hcP : c' ≠ P := Nat.ne_of_gt (l1 (P, tabObj ps) (List.mem_append_right _ (.head _)))
    refine h f c' ctv _ h' tk F' (fun q hq' => N' q ?_) ⟨hP', ?_, ?_⟩ hrec (fun q hq' => Nat.lt_trans (l1 q hq') l2)
    · rcases List.mem_cons.mp hq' with rfl | hq'
      · exact .head _
      · exact .tail _ (.tail _ hq')
    · simpa using triples_app ps.toList W2
    · intro pos' v e
      have e : codeAmong pos' (ps.toList ++ [rawInt pos.line, rawInt pos.col, .ref c']) = some v := by simpa using e
      rcases codeAmong_app _ W2 v e with e | rfl
      · obtain ⟨c₂, e2, e3, _, e4⟩ := W3 pos' v e
        exact ⟨c₂, e2, e3, e4 _ _ F' fun q hq => N' q (.tail _ (.tail _ (hrs _ q hq)))⟩
      · exact ⟨c', rfl, hcP, hrec⟩
  | some v =>
    obtain ⟨c', rfl, hne, _, hrec⟩ := W3 pos v hq
    have e0 : g (tabObj ps) = own ++ (P, tabObj ps) :: rest := hgr _
    refine kla_hit F N T C hcd (List.mem_append_right _ (.head _)) W2 hq hcl fun f ctv h' tk F' N' l => ?_
    have Nr : News h₀ L h' rs := fun q hq => N' q (.tail _ (e0 ▸ hrs ps q hq))
    refine h f c' ctv ps h' tk F' (by rw [e0]; exact N') ?_ (hrec _ _ F' Nr) l
    refine ⟨(N' _ (.tail _ (List.mem_append_right _ (.head _)))).1, W2, fun pos' v e => ?_⟩
    obtain ⟨c₂, e2, e3, _, e4⟩ := W3 pos' v e
    exact ⟨c₂, e2, e3, e4 _ _ F' Nr⟩
end
local macro_rules | `(tactic| walk_at "getMethod ref") => `(tactic| (k_here; k_dflt (refine' method_inst ?k1 ?k2 ?k3 ?k4 ?k5 ?k6 ?k7 ?_; (case k1 => k_asm); (case k2 => k_asm); (case k3 => k_inst); (case k4 => k_is); (case k5 => k_is); (case k6 => k_is); (case k7 => k_get); k_whole)))
section
noncomputable abbrev qL : Str := Str.ofString "_law_deed_right.<locals>.<lambda>"
noncomputable abbrev noArgs : Arguments := { posonlyargs := [], args := [], vararg := none, kwonlyargs := [], kw_defaults := [], kwarg := none, defaults := [] }
noncomputable abbrev lamScope : Scope := { kind := ScopeKind.function, names := [(Str.ofString "buffers", NameKind.free), (Str.ofString "title", NameKind.free)], isGenerator := false, isCoroutine := false }
noncomputable abbrev lamScope3 : Scope := { kind := ScopeKind.function, names := [(Str.ofString "buffers", NameKind.free), (Str.ofString "new", NameKind.free), (Str.ofString "title", NameKind.free)], isGenerator := false, isCoroutine := false }
noncomputable abbrev dropBody : PySem.Expr := ((Expr.Name (Str.ofString "buffers") ⟨156, 34, 156, 41⟩).Attribute (Str.ofString "drop") ⟨156, 34, 156, 46⟩).Call [Expr.Name (Str.ofString "title") ⟨156, 47, 156, 52⟩] [] ⟨156, 34, 156, 53⟩
noncomputable abbrev pasteBody : PySem.Expr := ((Expr.Name (Str.ofString "buffers") ⟨162, 34, 162, 41⟩).Attribute (Str.ofString "paste") ⟨162, 34, 162, 47⟩).Call [Expr.Name (Str.ofString "title") ⟨162, 48, 162, 53⟩] [] ⟨162, 34, 162, 54⟩
noncomputable abbrev renameBody : PySem.Expr := ((Expr.Name (Str.ofString "buffers") ⟨164, 30, 164, 37⟩).Attribute (Str.ofString "rename") ⟨164, 30, 164, 44⟩).Call [Expr.Name (Str.ofString "title") ⟨164, 45, 164, 50⟩, Expr.Name (Str.ofString "new") ⟨164, 52, 164, 55⟩] [] ⟨164, 30, 164, 56⟩
theorem freeC {g h : Heap} {L c : Addr} {o : Obj} {v : Value} {news : List (Addr × Obj)} (N : News g L h news) (hm : (c, o) ∈ news) (hd : o.data = .cell (some v)) : h.IsCell c (some v) := ⟨o, (N _ hm).1, hd⟩
section
variable {p : Program} {loose : List Str} {mean : ExcName → Option Value} {mg mb : Str → Option Value} {prog : Program} {w : World} {dp un : Nat} {gs : Option (List Code)} {R : Result → Shared → Prop} {s : Shared} {base : Heap} {fs : List Env} {k : Nat}
  {f c' cT cB cN b dx rl : Addr} {oTi oBu oNe : Obj} {nv pm ctv : Value} {vs : List Value} {rows : List Row} {most next : Int} {nm : Option Bts} {i : Nat} {r : Row} {x nw : Bts} {tx tw : Tok}
local macro_rules | `(tactic| walk_at "eval Name") => `(tactic| (k_here; (with_reducible show wpAny _ _ (eval (Expr.Name _ _) (envX _ _ _ _ _ _)) _ _ _); refine' wpAny_Name (wpAny_loadName_free rfl rfl rfl (freeC ?fN ?fm ?fd) ?_) (by decide); (case fN => k_asm); (case fm => k_mem); (case fd => k_asm)))
theorem lam_drop (M : Amb p loose mean mg mb w dp gs un base fs s.heap 30) (Bu : BufAt w s.heap b dx rl vs rows most next) (O : Off base fs [cT, cB, b, dx, rl])
    (hT : s.heap.get? cT = some oTi) (hB : s.heap.get? cB = some oBu) (dTi : oTi.data = .cell (some nv)) (dBu : oBu.data = .cell (some (.ref b)))
    (hf : s.heap.get? f = some (kla_obj (Str.ofString "<lambda>") qL noArgs dropBody lamScope [(Str.ofString "title", cT), (Str.ofString "buffers", cB)] pm c' ctv)) (hRec : s.heap.CodeRec (.ref c') qL)
    (hnd : (rows.map (·.1)).Nodup) (hnv : optV nm nv) (hi : atOf rows nm = some i)
    (post : ∀ h' tk vs', BufAt w h' b dx rl vs' (rows.eraseIdx i) most next → Chg [rl] s.heap h' → R (.ok (.ret .none)) { s with heap := h', toks := tk }) :
    codeAny (model prog w) (AA dp fs gs un) (.call (.ref f) ⟨[], []⟩) R s := by
  obtain ⟨hb1, x5, ⟨nr, hb3⟩, hbr, hbs⟩ := id Bu
  refine exE5 x5 fun t1 t2 t3 tm tn hb2 => ?_
  clear x5
  have hcs : ∀ q ∈ [(cT, oTi), (cB, oBu), (b, instObj 154 dx), (dx, dictOf (bufEs w t1 t2 t3 (.int most tm) (.ref rl) (.int next tn)) 3), (rl, W.listOf vs.toArray nr)], s.heap.get? q.1 = some q.2 := by
    simp only [List.forall_mem_cons]; exact ⟨hT, hB, hb1, hb2, hb3, fun _ h => nomatch h⟩
  w_on
  refine enterL M [(cT, oTi), (cB, oBu), (b, instObj 154 dx), (dx, dictOf (bufEs w t1 t2 t3 (.int most tm) (.ref rl) (.int next tn)) 3), (rl, W.listOf vs.toArray nr)] hcs O hf hRec ?_ rfl
  intro g L' h₁ F N B X T hg hg' hL'
  have hrg := rows_gP hg hcs (five_no3 (no_tup3 dTi) (no_tup3 dBu)) hbr
  delta dropBody lamScope
  show wpAny _ _ _ _ _ _
  k_fold
  refine methodCall_KW ?_
  walk_at "eval Name"
  walk_at "getMethod ref"
  walk_at "callWith ref"
  walk_at "spliced"
  walk_at "eval Name"
  walk_at "spliced"
  refine ⟨X.keeps F.keep, ?_⟩
  dsimp only [List.nil_append, List.append_nil, List.cons_append]
  have back : Chg [] s.heap h₁ := chg_sub hg hcs F N (fun q hq => .inr hq)
  have hLn : s.heap.get? L' = none := Heap.get?_none_of_le (by rw [hL']; exact Nat.le_refl _)
  have MM := M.deeper B F (env := envX qL lamScope L' f (.ref c') [(Str.ofString "title", cT), (Str.ofString "buffers", cB)]) rfl rfl
  have BB : BufAt w h₁ b dx rl vs rows most next := buf_news F N (by k_mem) (by k_mem) (by k_mem) hrg hbs
  have OO : Off base (envX qL lamScope L' f (.ref c') [(Str.ofString "title", cT), (Str.ofString "buffers", cB)] :: fs) [b, dx, rl] := .cons (off1 B N rfl (by k_mem : (b, _) ∈ _)) (.cons (off1 B N rfl (by k_mem : (dx, _) ∈ _)) (.cons (off1 B N rfl (by k_mem : (rl, _) ∈ _)) off_nil))
  refine wpAny_call (drop_ok (MM.less (by decide)) BB OO hnd hnv hi fun h' tk vs' Bu' C => ?_)
  show R _ _
  exact post _ _ _ Bu' ((back.mono (by first | kopn_word | simp)).trans C)
theorem lam_drop_no (M : Amb p loose mean mg mb w dp gs un base fs s.heap 30) (Bu : BufAt w s.heap b dx rl vs rows most next) (O : Off base fs [cT, cB, b, dx, rl])
    (hT : s.heap.get? cT = some oTi) (hB : s.heap.get? cB = some oBu) (dTi : oTi.data = .cell (some nv)) (dBu : oBu.data = .cell (some (.ref b)))
    (hf : s.heap.get? f = some (kla_obj (Str.ofString "<lambda>") qL noArgs dropBody lamScope [(Str.ofString "title", cT), (Str.ofString "buffers", cB)] pm c' ctv)) (hRec : s.heap.CodeRec (.ref c') qL)
    (hnv : optV nm nv) (hi : atOf rows nm = none)
    (post : ∀ e h' tk, Raised fs s.heap (nm.getD #[]) e h' → R (.error (.ref e)) { s with heap := h', toks := tk }) :
    codeAny (model prog w) (AA dp fs gs un) (.call (.ref f) ⟨[], []⟩) R s := by
  obtain ⟨hb1, x5, ⟨nr, hb3⟩, hbr, hbs⟩ := id Bu
  refine exE5 x5 fun t1 t2 t3 tm tn hb2 => ?_
  clear x5
  have hcs : ∀ q ∈ [(cT, oTi), (cB, oBu), (b, instObj 154 dx), (dx, dictOf (bufEs w t1 t2 t3 (.int most tm) (.ref rl) (.int next tn)) 3), (rl, W.listOf vs.toArray nr)], s.heap.get? q.1 = some q.2 := by
    simp only [List.forall_mem_cons]; exact ⟨hT, hB, hb1, hb2, hb3, fun _ h => nomatch h⟩
  w_on
  refine enterL M [(cT, oTi), (cB, oBu), (b, instObj 154 dx), (dx, dictOf (bufEs w t1 t2 t3 (.int most tm) (.ref rl) (.int next tn)) 3), (rl, W.listOf vs.toArray nr)] hcs O hf hRec ?_ rfl
  intro g L' h₁ F N B X T hg hg' hL'
  have hrg := rows_gP hg hcs (five_no3 (no_tup3 dTi) (no_tup3 dBu)) hbr
  delta dropBody lamScope
  show wpAny _ _ _ _ _ _
  k_fold
  refine methodCall_KW ?_
  walk_at "eval Name"
  walk_at "getMethod ref"
  walk_at "callWith ref"
  walk_at "spliced"
  walk_at "eval Name"
  walk_at "spliced"
  refine ⟨X.keeps F.keep, ?_⟩
  dsimp only [List.nil_append, List.append_nil, List.cons_append]
  have back : Chg [] s.heap h₁ := chg_sub hg hcs F N (fun q hq => .inr hq)
  have hLn : s.heap.get? L' = none := Heap.get?_none_of_le (by rw [hL']; exact Nat.le_refl _)
  have MM := M.deeper B F (env := envX qL lamScope L' f (.ref c') [(Str.ofString "title", cT), (Str.ofString "buffers", cB)]) rfl rfl
  have BB : BufAt w h₁ b dx rl vs rows most next := buf_news F N (by k_mem) (by k_mem) (by k_mem) hrg hbs
  have OO : Off base (envX qL lamScope L' f (.ref c') [(Str.ofString "title", cT), (Str.ofString "buffers", cB)] :: fs) [b, dx, rl] := .cons (off1 B N rfl (by k_mem : (b, _) ∈ _)) (.cons (off1 B N rfl (by k_mem : (dx, _) ∈ _)) (.cons (off1 B N rfl (by k_mem : (rl, _) ∈ _)) off_nil))
  refine wpAny_call (drop_no (MM.less (by decide)) BB OO hnv hi fun e h₄ tk₄ Rz => ?_)
  show wpAny _ _ _ _ _ _
  exact leave_passed (s := { s with heap := h₄, toks := tk₄ }) B F rfl rfl Rz (fun a o q => back a o q (by first | kopn_word | simp)) hLn fun h' Rz => post e h' _ Rz
theorem lam_paste (M : Amb p loose mean mg mb w dp gs un base fs s.heap 30) (Bu : BufAt w s.heap b dx rl vs rows most next) (O : Off base fs [cT, cB, b, dx, rl])
    (hT : s.heap.get? cT = some oTi) (hB : s.heap.get? cB = some oBu) (dTi : oTi.data = .cell (some nv)) (dBu : oBu.data = .cell (some (.ref b)))
    (hf : s.heap.get? f = some (kla_obj (Str.ofString "<lambda>") qL noArgs pasteBody lamScope [(Str.ofString "title", cT), (Str.ofString "buffers", cB)] pm c' ctv)) (hRec : s.heap.CodeRec (.ref c') qL)
    (hnd : (rows.map (·.1)).Nodup) (hnv : optV nm nv) (hi : atOf rows nm = some i) (hr : rows[i]? = some r)
    (post : ∀ t h' tk, Chg [] s.heap h' → R (.ok (.ret (.bytes r.2.1 t))) { s with heap := h', toks := tk }) :
    codeAny (model prog w) (AA dp fs gs un) (.call (.ref f) ⟨[], []⟩) R s := by
  obtain ⟨hb1, x5, ⟨nr, hb3⟩, hbr, hbs⟩ := id Bu
  refine exE5 x5 fun t1 t2 t3 tm tn hb2 => ?_
  clear x5
  have hcs : ∀ q ∈ [(cT, oTi), (cB, oBu), (b, instObj 154 dx), (dx, dictOf (bufEs w t1 t2 t3 (.int most tm) (.ref rl) (.int next tn)) 3), (rl, W.listOf vs.toArray nr)], s.heap.get? q.1 = some q.2 := by
    simp only [List.forall_mem_cons]; exact ⟨hT, hB, hb1, hb2, hb3, fun _ h => nomatch h⟩
  w_on
  refine enterL M [(cT, oTi), (cB, oBu), (b, instObj 154 dx), (dx, dictOf (bufEs w t1 t2 t3 (.int most tm) (.ref rl) (.int next tn)) 3), (rl, W.listOf vs.toArray nr)] hcs O hf hRec ?_ rfl
  intro g L' h₁ F N B X T hg hg' hL'
  have hrg := rows_gP hg hcs (five_no3 (no_tup3 dTi) (no_tup3 dBu)) hbr
  delta pasteBody lamScope
  show wpAny _ _ _ _ _ _
  k_fold
  refine methodCall_KW ?_
  walk_at "eval Name"
  walk_at "getMethod ref"
  walk_at "callWith ref"
  walk_at "spliced"
  walk_at "eval Name"
  walk_at "spliced"
  refine ⟨X.keeps F.keep, ?_⟩
  dsimp only [List.nil_append, List.append_nil, List.cons_append]
  have back : Chg [] s.heap h₁ := chg_sub hg hcs F N (fun q hq => .inr hq)
  have hLn : s.heap.get? L' = none := Heap.get?_none_of_le (by rw [hL']; exact Nat.le_refl _)
  have MM := M.deeper B F (env := envX qL lamScope L' f (.ref c') [(Str.ofString "title", cT), (Str.ofString "buffers", cB)]) rfl rfl
  have BB : BufAt w h₁ b dx rl vs rows most next := buf_news F N (by k_mem) (by k_mem) (by k_mem) hrg hbs
  have OO : Off base (envX qL lamScope L' f (.ref c') [(Str.ofString "title", cT), (Str.ofString "buffers", cB)] :: fs) [b, dx, rl] := .cons (off1 B N rfl (by k_mem : (b, _) ∈ _)) (.cons (off1 B N rfl (by k_mem : (dx, _) ∈ _)) (.cons (off1 B N rfl (by k_mem : (rl, _) ∈ _)) off_nil))
  refine wpAny_call (paste_ok (MM.less (by decide)) BB OO hnd hnv hi hr fun t h' tk C => ?_)
  show R _ _
  exact post _ _ _ (back.trans C)
theorem lam_paste_bare (M : Amb p loose mean mg mb w dp gs un base fs s.heap 30) (Bu : BufAt w s.heap b dx rl vs rows most next) (O : Off base fs [cT, cB, b, dx, rl])
    (hT : s.heap.get? cT = some oTi) (hB : s.heap.get? cB = some oBu) (dTi : oTi.data = .cell (some .none)) (dBu : oBu.data = .cell (some (.ref b)))
    (hf : s.heap.get? f = some (kla_obj (Str.ofString "<lambda>") qL noArgs pasteBody lamScope [(Str.ofString "title", cT), (Str.ofString "buffers", cB)] pm c' ctv)) (hRec : s.heap.CodeRec (.ref c') qL)
    (hnd : (rows.map (·.1)).Nodup) (hi : atOf rows none = none)
    (post : ∀ h' tk, Chg [] s.heap h' → R (.ok (.ret .none)) { s with heap := h', toks := tk }) :
    codeAny (model prog w) (AA dp fs gs un) (.call (.ref f) ⟨[], []⟩) R s := by
  obtain ⟨hb1, x5, ⟨nr, hb3⟩, hbr, hbs⟩ := id Bu
  refine exE5 x5 fun t1 t2 t3 tm tn hb2 => ?_
  clear x5
  have hcs : ∀ q ∈ [(cT, oTi), (cB, oBu), (b, instObj 154 dx), (dx, dictOf (bufEs w t1 t2 t3 (.int most tm) (.ref rl) (.int next tn)) 3), (rl, W.listOf vs.toArray nr)], s.heap.get? q.1 = some q.2 := by
    simp only [List.forall_mem_cons]; exact ⟨hT, hB, hb1, hb2, hb3, fun _ h => nomatch h⟩
  w_on
  refine enterL M [(cT, oTi), (cB, oBu), (b, instObj 154 dx), (dx, dictOf (bufEs w t1 t2 t3 (.int most tm) (.ref rl) (.int next tn)) 3), (rl, W.listOf vs.toArray nr)] hcs O hf hRec ?_ rfl
  intro g L' h₁ F N B X T hg hg' hL'
  have hrg := rows_gP hg hcs (five_no3 (no_tup3 dTi) (no_tup3 dBu)) hbr
  delta pasteBody lamScope
  show wpAny _ _ _ _ _ _
  k_fold
  refine methodCall_KW ?_
  walk_at "eval Name"
  walk_at "getMethod ref"
  walk_at "callWith ref"
  walk_at "spliced"
  walk_at "eval Name"
  walk_at "spliced"
  refine ⟨X.keeps F.keep, ?_⟩
  dsimp only [List.nil_append, List.append_nil, List.cons_append]
  have back : Chg [] s.heap h₁ := chg_sub hg hcs F N (fun q hq => .inr hq)
  have hLn : s.heap.get? L' = none := Heap.get?_none_of_le (by rw [hL']; exact Nat.le_refl _)
  have MM := M.deeper B F (env := envX qL lamScope L' f (.ref c') [(Str.ofString "title", cT), (Str.ofString "buffers", cB)]) rfl rfl
  have BB : BufAt w h₁ b dx rl vs rows most next := buf_news F N (by k_mem) (by k_mem) (by k_mem) hrg hbs
  have OO : Off base (envX qL lamScope L' f (.ref c') [(Str.ofString "title", cT), (Str.ofString "buffers", cB)] :: fs) [b, dx, rl] := .cons (off1 B N rfl (by k_mem : (b, _) ∈ _)) (.cons (off1 B N rfl (by k_mem : (dx, _) ∈ _)) (.cons (off1 B N rfl (by k_mem : (rl, _) ∈ _)) off_nil))
  refine wpAny_call (paste_bare (MM.less (by decide)) BB OO hnd hi fun h' tk C => ?_)
  show R _ _
  exact post _ _ (back.trans C)
theorem lam_paste_no (M : Amb p loose mean mg mb w dp gs un base fs s.heap 30) (Bu : BufAt w s.heap b dx rl vs rows most next) (O : Off base fs [cT, cB, b, dx, rl])
    (hT : s.heap.get? cT = some oTi) (hB : s.heap.get? cB = some oBu) (dTi : oTi.data = .cell (some (.bytes x tx))) (dBu : oBu.data = .cell (some (.ref b)))
    (hf : s.heap.get? f = some (kla_obj (Str.ofString "<lambda>") qL noArgs pasteBody lamScope [(Str.ofString "title", cT), (Str.ofString "buffers", cB)] pm c' ctv)) (hRec : s.heap.CodeRec (.ref c') qL)
    (hi : atOf rows (some x) = none)
    (post : ∀ e h' tk, Raised fs s.heap x e h' → R (.error (.ref e)) { s with heap := h', toks := tk }) :
    codeAny (model prog w) (AA dp fs gs un) (.call (.ref f) ⟨[], []⟩) R s := by
  obtain ⟨hb1, x5, ⟨nr, hb3⟩, hbr, hbs⟩ := id Bu
  refine exE5 x5 fun t1 t2 t3 tm tn hb2 => ?_
  clear x5
  have hcs : ∀ q ∈ [(cT, oTi), (cB, oBu), (b, instObj 154 dx), (dx, dictOf (bufEs w t1 t2 t3 (.int most tm) (.ref rl) (.int next tn)) 3), (rl, W.listOf vs.toArray nr)], s.heap.get? q.1 = some q.2 := by
    simp only [List.forall_mem_cons]; exact ⟨hT, hB, hb1, hb2, hb3, fun _ h => nomatch h⟩
  w_on
  refine enterL M [(cT, oTi), (cB, oBu), (b, instObj 154 dx), (dx, dictOf (bufEs w t1 t2 t3 (.int most tm) (.ref rl) (.int next tn)) 3), (rl, W.listOf vs.toArray nr)] hcs O hf hRec ?_ rfl
  intro g L' h₁ F N B X T hg hg' hL'
  have hrg := rows_gP hg hcs (five_no3 (no_tup3 dTi) (no_tup3 dBu)) hbr
  delta pasteBody lamScope
  show wpAny _ _ _ _ _ _
  k_fold
  refine methodCall_KW ?_
  walk_at "eval Name"
  walk_at "getMethod ref"
  walk_at "callWith ref"
  walk_at "spliced"
  walk_at "eval Name"
  walk_at "spliced"
  refine ⟨X.keeps F.keep, ?_⟩
  dsimp only [List.nil_append, List.append_nil, List.cons_append]
  have back : Chg [] s.heap h₁ := chg_sub hg hcs F N (fun q hq => .inr hq)
  have hLn : s.heap.get? L' = none := Heap.get?_none_of_le (by rw [hL']; exact Nat.le_refl _)
  have MM := M.deeper B F (env := envX qL lamScope L' f (.ref c') [(Str.ofString "title", cT), (Str.ofString "buffers", cB)]) rfl rfl
  have BB : BufAt w h₁ b dx rl vs rows most next := buf_news F N (by k_mem) (by k_mem) (by k_mem) hrg hbs
  have OO : Off base (envX qL lamScope L' f (.ref c') [(Str.ofString "title", cT), (Str.ofString "buffers", cB)] :: fs) [b, dx, rl] := .cons (off1 B N rfl (by k_mem : (b, _) ∈ _)) (.cons (off1 B N rfl (by k_mem : (dx, _) ∈ _)) (.cons (off1 B N rfl (by k_mem : (rl, _) ∈ _)) off_nil))
  refine wpAny_call (paste_raise (MM.less (by decide)) BB OO hi fun e h₄ tk₄ Rz => ?_)
  show wpAny _ _ _ _ _ _
  exact leave_passed (s := { s with heap := h₄, toks := tk₄ }) B F rfl rfl Rz (fun a o q => back a o q (by first | kopn_word | simp)) hLn fun h' Rz => post e h' _ Rz
theorem lam_rename (M : Amb p loose mean mg mb w dp gs un base fs s.heap 30) (Bu : BufAt w s.heap b dx rl vs rows most next) (O : Off base fs [cT, cN, cB, b, dx, rl])
    (hT : s.heap.get? cT = some oTi) (hN : s.heap.get? cN = some oNe) (hB : s.heap.get? cB = some oBu) (dTi : oTi.data = .cell (some (.bytes x tx))) (dNe : oNe.data = .cell (some (.bytes nw tw))) (dBu : oBu.data = .cell (some (.ref b)))
    (hf : s.heap.get? f = some (kla_obj (Str.ofString "<lambda>") qL noArgs renameBody lamScope3 [(Str.ofString "title", cT), (Str.ofString "new", cN), (Str.ofString "buffers", cB)] pm c' ctv)) (hRec : s.heap.CodeRec (.ref c') qL)
    (hnd : (rows.map (·.1)).Nodup) (hi : atOf rows (some x) = some i) (hr : rows[i]? = some r)
    (post : ∀ h' tk rl' vs', BufAt w h' b dx rl' vs' (renOut rows x nw) most next → (rl' = rl ∨ s.heap.get? rl' = none) → Chg [dx, rl] s.heap h' → R (.ok (.ret .none)) { s with heap := h', toks := tk }) :
    codeAny (model prog w) (AA dp fs gs un) (.call (.ref f) ⟨[], []⟩) R s := by
  obtain ⟨hb1, x5, ⟨nr, hb3⟩, hbr, hbs⟩ := id Bu
  refine exE5 x5 fun t1 t2 t3 tm tn hb2 => ?_
  clear x5
  have hcs : ∀ q ∈ [(cT, oTi), (cN, oNe), (cB, oBu), (b, instObj 154 dx), (dx, dictOf (bufEs w t1 t2 t3 (.int most tm) (.ref rl) (.int next tn)) 3), (rl, W.listOf vs.toArray nr)], s.heap.get? q.1 = some q.2 := by
    simp only [List.forall_mem_cons]; exact ⟨hT, hN, hB, hb1, hb2, hb3, fun _ h => nomatch h⟩
  w_on
  refine enterL M [(cT, oTi), (cN, oNe), (cB, oBu), (b, instObj 154 dx), (dx, dictOf (bufEs w t1 t2 t3 (.int most tm) (.ref rl) (.int next tn)) 3), (rl, W.listOf vs.toArray nr)] hcs O hf hRec ?_ rfl
  intro g L' h₁ F N B X T hg hg' hL'
  have hrg := rows_gP hg hcs (six_no3 (no_tup3 dTi) (no_tup3 dNe) (no_tup3 dBu)) hbr
  delta renameBody lamScope3
  show wpAny _ _ _ _ _ _
  k_fold
  refine methodCall_KW ?_
  walk_at "eval Name"
  walk_at "getMethod ref"
  walk_at "callWith ref"
  walk_at "spliced"
  walk_at "eval Name"
  walk_at "spliced"
  walk_at "eval Name"
  walk_at "spliced"
  refine ⟨X.keeps F.keep, ?_⟩
  dsimp only [List.nil_append, List.append_nil, List.cons_append]
  have back : Chg [] s.heap h₁ := chg_sub hg hcs F N (fun q hq => .inr hq)
  have hLn : s.heap.get? L' = none := Heap.get?_none_of_le (by rw [hL']; exact Nat.le_refl _)
  have MM := M.deeper B F (env := envX qL lamScope3 L' f (.ref c') [(Str.ofString "title", cT), (Str.ofString "new", cN), (Str.ofString "buffers", cB)]) rfl rfl
  have BB : BufAt w h₁ b dx rl vs rows most next := buf_news F N (by k_mem) (by k_mem) (by k_mem) hrg hbs
  have OO : Off base (envX qL lamScope3 L' f (.ref c') [(Str.ofString "title", cT), (Str.ofString "new", cN), (Str.ofString "buffers", cB)] :: fs) [b, dx, rl] := .cons (off1 B N rfl (by k_mem : (b, _) ∈ _)) (.cons (off1 B N rfl (by k_mem : (dx, _) ∈ _)) (.cons (off1 B N rfl (by k_mem : (rl, _) ∈ _)) off_nil))
  refine wpAny_call (rename_there (MM.less (by decide)) BB OO hnd hi hr fun h' tk rl' vs' Bu' hrl C => ?_)
  show R _ _
  exact post _ _ _ _ Bu' (hrl.imp id fun e => fresh_back back (fun _ h => nomatch h) e) ((back.mono (by first | kopn_word | simp)).trans C)
theorem lam_rename_no (M : Amb p loose mean mg mb w dp gs un base fs s.heap 30) (Bu : BufAt w s.heap b dx rl vs rows most next) (O : Off base fs [cT, cN, cB, b, dx, rl])
    (hT : s.heap.get? cT = some oTi) (hN : s.heap.get? cN = some oNe) (hB : s.heap.get? cB = some oBu) (dTi : oTi.data = .cell (some (.bytes x tx))) (dNe : oNe.data = .cell (some (.bytes nw tw))) (dBu : oBu.data = .cell (some (.ref b)))
    (hf : s.heap.get? f = some (kla_obj (Str.ofString "<lambda>") qL noArgs renameBody lamScope3 [(Str.ofString "title", cT), (Str.ofString "new", cN), (Str.ofString "buffers", cB)] pm c' ctv)) (hRec : s.heap.CodeRec (.ref c') qL)
    (hi : atOf rows (some x) = none)
    (post : ∀ e h' tk, Raised fs s.heap x e h' → R (.error (.ref e)) { s with heap := h', toks := tk }) :
    codeAny (model prog w) (AA dp fs gs un) (.call (.ref f) ⟨[], []⟩) R s := by
  obtain ⟨hb1, x5, ⟨nr, hb3⟩, hbr, hbs⟩ := id Bu
  refine exE5 x5 fun t1 t2 t3 tm tn hb2 => ?_
  clear x5
  have hcs : ∀ q ∈ [(cT, oTi), (cN, oNe), (cB, oBu), (b, instObj 154 dx), (dx, dictOf (bufEs w t1 t2 t3 (.int most tm) (.ref rl) (.int next tn)) 3), (rl, W.listOf vs.toArray nr)], s.heap.get? q.1 = some q.2 := by
    simp only [List.forall_mem_cons]; exact ⟨hT, hN, hB, hb1, hb2, hb3, fun _ h => nomatch h⟩
  w_on
  refine enterL M [(cT, oTi), (cN, oNe), (cB, oBu), (b, instObj 154 dx), (dx, dictOf (bufEs w t1 t2 t3 (.int most tm) (.ref rl) (.int next tn)) 3), (rl, W.listOf vs.toArray nr)] hcs O hf hRec ?_ rfl
  intro g L' h₁ F N B X T hg hg' hL'
  have hrg := rows_gP hg hcs (six_no3 (no_tup3 dTi) (no_tup3 dNe) (no_tup3 dBu)) hbr
  delta renameBody lamScope3
  show wpAny _ _ _ _ _ _
  k_fold
  refine methodCall_KW ?_
  walk_at "eval Name"
  walk_at "getMethod ref"
  walk_at "callWith ref"
  walk_at "spliced"
  walk_at "eval Name"
  walk_at "spliced"
  walk_at "eval Name"
  walk_at "spliced"
  refine ⟨X.keeps F.keep, ?_⟩
  dsimp only [List.nil_append, List.append_nil, List.cons_append]
  have back : Chg [] s.heap h₁ := chg_sub hg hcs F N (fun q hq => .inr hq)
  have hLn : s.heap.get? L' = none := Heap.get?_none_of_le (by rw [hL']; exact Nat.le_refl _)
  have MM := M.deeper B F (env := envX qL lamScope3 L' f (.ref c') [(Str.ofString "title", cT), (Str.ofString "new", cN), (Str.ofString "buffers", cB)]) rfl rfl
  have BB : BufAt w h₁ b dx rl vs rows most next := buf_news F N (by k_mem) (by k_mem) (by k_mem) hrg hbs
  have OO : Off base (envX qL lamScope3 L' f (.ref c') [(Str.ofString "title", cT), (Str.ofString "new", cN), (Str.ofString "buffers", cB)] :: fs) [b, dx, rl] := .cons (off1 B N rfl (by k_mem : (b, _) ∈ _)) (.cons (off1 B N rfl (by k_mem : (dx, _) ∈ _)) (.cons (off1 B N rfl (by k_mem : (rl, _) ∈ _)) off_nil))
  refine wpAny_call (rename_raise (MM.less (by decide)) BB OO hi fun e h₄ tk₄ Rz => ?_)
  show wpAny _ _ _ _ _ _
  exact leave_passed (s := { s with heap := h₄, toks := tk₄ }) B F rfl rfl Rz (fun a o q => back a o q (by first | kopn_word | simp)) hLn fun h' Rz => post e h' _ Rz
end
end
noncomputable abbrev renF (x nw : Bts) (q : Row) : Row := if q.1 = x then (nw, q.2.1, false) else q
noncomputable abbrev renP (x nw : Bts) (q : Row) : Bool := q.1 == x || q.1 != nw
theorem renF_none {x nw : Bts} : ∀ {l : List Row}, (∀ q ∈ l, q.1 ≠ x) → l.map (renF x nw) = l
  | [], _ => rfl
  | q :: l, h => by
    rw [List.map_cons, renF_none fun q hq => h q (.tail _ hq)]
    unfold renF
    rw [if_neg (h q (.head _))]
theorem ren_set {x nw : Bts} : ∀ {l : List Row} {j : Nat} {r : Row}, (l.map (·.1)).Nodup → l[j]? = some r → r.1 = x → l.set j (nw, r.2.1, false) = l.map (renF x nw)
  | [], _, _, _, h, _ => by simp at h
  | q :: l, 0, r, hnd, h, hx => by
    simp at h
    subst h
    simp only [List.map_cons, List.nodup_cons] at hnd
    rw [List.set_cons_zero, List.map_cons, renF_none fun q' hq e => hnd.1 (by rw [hx, ← e]; exact List.mem_map_of_mem hq)]
    unfold renF
    rw [if_pos hx]
  | q :: l, j + 1, r, hnd, h, hx => by
    simp only [List.map_cons, List.nodup_cons] at hnd
    have h : l[j]? = some r := by simpa using h
    rw [List.set_cons_succ, List.map_cons, ren_set hnd.2 h hx]
    unfold renF
    rw [if_neg fun e => hnd.1 (by rw [e, ← hx]; exact List.mem_map_of_mem (List.mem_of_getElem? h))]
theorem renOut_map {rows : List Row} {x nw : Bts} (hnd : (rows.map (·.1)).Nodup) : renOut rows x nw = (rows.filter (renP x nw)).map (renF x nw) := by
  have hrows : (if x = nw then rows else rows.filter (fun r => r.1 != nw)) = rows.filter (renP x nw) := by
    by_cases e : x = nw
    · rw [if_pos e]
      subst e
      refine (List.filter_eq_self.mpr fun q _ => ?_).symm
      unfold renP
      by_cases h : q.1 = x <;> simp [h]
    · rw [if_neg e]
      refine List.filter_congr fun q _ => ?_
      unfold renP
      by_cases h : q.1 = x
      · simp [h, e]
      · simp [h]
  unfold renOut
  dsimp only
  rw [hrows]
  have hnd' : ((rows.filter (renP x nw)).map (·.1)).Nodup := nodup_filter hnd
  generalize rows.filter (renP x nw) = l at *
  cases hi : l.findIdx? (fun r => r.1 == x) with
  | none =>
    refine (renF_none fun q hq e => ?_).symm
    have := (List.findIdx?_eq_none_iff.mp hi) q hq
    rw [e] at this
    simp at this
  | some j =>
    obtain ⟨r, h1, h2, h3⟩ := find_at hi
    simp only [h1]
    exact ren_set hnd' h1 (by simpa using h3)
section
variable {h h' : Heap} {ra : Addr} {x nw : Bts} {r : Row} {V : List Value}
theorem ren_step (hk : ∀ a o, Value.ref a ∈ V → h.get? a = some o → a ≠ ra → h'.get? a = some o) (hra : LRow h (.ref ra) r) (hx : r.1 = x) {v : Value} {q : Row} {vs : List Value} {qs : List Row} (hv : v ∈ V) (hq : LRow h v q) (hne : q.1 ≠ x)
    (ih : Paired (LRow h') (vs.filter fun v => decide (v = .ref ra) || pOf h (fun q => q.1 != nw) v) ((qs.filter (renP x nw)).map (renF x nw))) :
    Paired (LRow h') ((v :: vs).filter fun v => decide (v = .ref ra) || pOf h (fun q => q.1 != nw) v) (((q :: qs).filter (renP x nw)).map (renF x nw)) := by
  have hvr : v ≠ .ref ra := fun e => hne (by rw [e] at hq; rw [hq.inj hra]; exact hx)
  have e1 : (decide (v = .ref ra) || pOf h (fun q => q.1 != nw) v) = (q.1 != nw) := by
    rw [decide_eq_false hvr, Bool.false_or, pOf_l hq]
  have e2 : renP x nw q = (q.1 != nw) := by unfold renP; simp [hne]
  rw [List.filter_cons, List.filter_cons, e1, e2]
  split
  · rw [List.map_cons]
    refine .cons ?_ ih
    unfold renF
    rw [if_neg hne]
    obtain ⟨a, t1, t2, n, rfl, ha⟩ := hq
    exact ⟨a, t1, t2, n, rfl, hk _ _ hv ha fun e => hvr (by rw [e])⟩
  · exact ih
theorem ren_tail (hk : ∀ a o, Value.ref a ∈ V → h.get? a = some o → a ≠ ra → h'.get? a = some o) (hra : LRow h (.ref ra) r) (hx : r.1 = x) : ∀ {vs : List Value} {qs : List Row}, (∀ v ∈ vs, v ∈ V) → Paired (LRow h) vs qs → (∀ q ∈ qs, q.1 ≠ x) →
    Paired (LRow h') (vs.filter fun v => decide (v = .ref ra) || pOf h (fun q => q.1 != nw) v) ((qs.filter (renP x nw)).map (renF x nw))
  | _, _, _, .nil, _ => .nil
  | _, _, hs, .cons a t, hq => ren_step hk hra hx (hs _ (.head _)) a (hq _ (.head _)) (ren_tail hk hra hx (fun v hv => hs v (.tail _ hv)) t fun q hq' => hq q (.tail _ hq'))
theorem ren_all (hk : ∀ a o, Value.ref a ∈ V → h.get? a = some o → a ≠ ra → h'.get? a = some o) (hra : LRow h (.ref ra) r) (hx : r.1 = x) (hn : LRow h' (.ref ra) (nw, r.2.1, false)) : ∀ {vs : List Value} {qs : List Row} (i : Nat), (∀ v ∈ vs, v ∈ V) → Paired (LRow h) vs qs → (qs.map (·.1)).Nodup → qs[i]? = some r → vs[i]? = some (.ref ra) →
    Paired (LRow h') (vs.filter fun v => decide (v = .ref ra) || pOf h (fun q => q.1 != nw) v) ((qs.filter (renP x nw)).map (renF x nw))
  | _, _, i, _, .nil, _, h1, _ => by simp at h1
  | _, _, 0, hs, .cons (b := b) (l₂ := l₂) a t, hnd, h1, h2 => by
    simp at h1 h2
    subst h1 h2
    simp only [List.map_cons, List.nodup_cons] at hnd
    rw [List.filter_cons, List.filter_cons]
    simp only [decide_true, Bool.true_or, if_true]
    rw [show renP x nw b = true by unfold renP; simp [hx]]
    simp only [if_true, List.map_cons]
    refine .cons ?_ (ren_tail hk hra hx (fun v hv => hs v (.tail _ hv)) t fun q hq e => hnd.1 (by rw [hx, ← e]; exact List.mem_map_of_mem hq))
    unfold renF
    rw [if_pos hx]
    exact hn
  | _, _, i + 1, hs, .cons (b := b) (l₂ := l₂) a t, hnd, h1, h2 => by
    simp only [List.map_cons, List.nodup_cons] at hnd
    have h1 : l₂[i]? = some r := by simpa using h1
    have h2 := (List.getElem?_cons_succ).symm.trans h2
    exact ren_step hk hra hx (hs _ (.head _)) a (fun e => hnd.1 (by rw [e, ← hx]; exact List.mem_map_of_mem (List.mem_of_getElem? h1))) (ren_all hk hra hx hn i (fun v hv => hs v (.tail _ hv)) t hnd.2 h1 h2)
theorem ren_rep {vs : List Value} {rows : List Row} {i : Nat} (P : Paired (LRow h) vs rows) (hnd : (rows.map (·.1)).Nodup) (hi : rows.findIdx? (fun q => q.1 == x) = some i) (hr : rows[i]? = some r) (hv : vs[i]? = some (.ref ra))
    (hk : ∀ a o, Value.ref a ∈ vs → h.get? a = some o → a ≠ ra → h'.get? a = some o) (hn : LRow h' (.ref ra) (nw, r.2.1, false)) :
    Paired (LRow h') (vs.filter fun v => decide (v = .ref ra) || pOf h (fun q => q.1 != nw) v) (renOut rows x nw) := by
  rw [renOut_map hnd]
  obtain ⟨r', h1, _, h3⟩ := find_at hi
  rw [hr] at h1
  cases h1
  exact ren_all hk (pr_at2 i P hv hr) (by simpa using h3) hn i (fun _ h => h) P hnd hr hv
end
theorem name_obj {o : Obj} {d : Data} (h : o.data = d) : ∃ o', o' = o ∧ o'.data = d := ⟨o, rfl, h⟩
theorem name_heap {g h : Heap} {L : Addr} {m : Str → Option Value} (_ : Fr g L h m) : ∃ h', h' = h := ⟨h, rfl⟩
theorem tup2_at0 {prog : Program} {w : World} {A : Around} {E : Value → Shared → Prop} {s : Shared} {g : Heap} {L T : Addr} {news : List (Addr × Obj)} {x y : Value} {n : Nat} {u : Tok} {value slice : PySem.Expr} {Q : Value → Shared → Prop} (N : News g L s.heap news) (hm : (T, tup2 x y n) ∈ news) (h : Q x s)
    (hs : subscripted slice false (.ref T) (.int 0 u) = operate [.ref T, .int 0 u] (getItem (.ref T) (.int 0 u)) := by with_unfolding_all rfl) (hg : ∀ r, letTemporaryGo value (.ref T) r = pure () := by intro _; with_unfolding_all rfl) :
    wpAny (model prog w) A (subscriptTail value slice (.ref T) (.int 0 u)) Q E s :=
  item_tuple (items := #[x, y]) (j := 0) (x := x) ⟨_, (N _ hm).1, rfl, n, rfl⟩ (by decide) (by decide) rfl rfl h hs hg
theorem is_rows {M : Model} {A : Around} {E : Value → Shared → Prop} {s : Shared} {Q : Value → Shared → Prop} {a b : Addr} {its : Array Value} {n : Nat} {o : Obj} (ha : s.heap.get? a = some (W.listOf its n)) (hb : s.heap.get? b = some o) (h : Q (.bool (decide (a = b))) s) : wpAny M A (compareOp .Is (.ref a) (.ref b)) Q E s := by
  by_cases e : a = b
  · subst e
    exact wpAny_is_ref_self (by simpa using h)
  · exact kto_is ha hb e (by first | kopn_word | simp) (by rw [decide_eq_false e] at h; exact h)
section
/-- what a deed makes of the rows -/
inductive Out (rows : List Row) (most next : Int) : List Row → Int → Prop
  | set (oc : Bts) (nm : Option Bts) (j : Nat) : oc ∈ menuO → (∀ x, nm = some x → x ∈ titles rows) → (nm = none → oc ≠ #[] → Fresh rows next j) → Out rows most next (setOut rows most next oc nm j).1 (setOut rows most next oc nm j).2.1
  | app (oc : Bts) (nm : Option Bts) (j : Nat) : oc ∈ menuO → (∀ x, nm = some x → x ∈ titles rows) → (nm = none → oc ≠ #[] → Fresh rows next j) → Out rows most next (appOut rows most next oc nm j).1 (appOut rows most next oc nm j).2.1
  | drop (i : Nat) : Out rows most next (rows.eraseIdx i) next
  | same : Out rows most next rows next
  | ren (i : Nat) (nm nw : Bts) : rows.findIdx? (fun r => r.1 == nm) = some i → nw ∈ titles rows → Out rows most next (renOut rows nm nw) next
theorem opt_eq {prog : Program} {w : World} {A : Around} {E : Value → Shared → Prop} {s : Shared} {o : Option Bts} {v1 v2 : Value} {Q : Value → Shared → Prop} (h1 : optV o v1) (h2 : optV o v2) (h : Q (.bool true) s) : wpAny (model prog w) A (compareOp .Eq v1 v2) Q E s := by
  cases o with
  | none =>
    obtain rfl : v1 = .none := h1
    obtain rfl : v2 = .none := h2
    exact EqNone.eq_none_none h
  | some x =>
    obtain ⟨t1, rfl⟩ : ∃ t, v1 = .bytes x t := h1
    obtain ⟨t2, rfl⟩ : ∃ t, v2 = .bytes x t := h2
    refine eq_bytes ?_
    simpa using h
theorem menu_small {oc : Bts} (h : oc ∈ menuO) : oc.size ≤ 4 := by
  simp only [menuO, List.mem_cons, List.not_mem_nil, or_false] at h
  rcases h with rfl | rfl | rfl | rfl | rfl | rfl <;> decide
theorem addrs_view {d l b dx rl dv lv P : Addr} {vvs : List Value} : ∀ a ∈ dv :: lv :: refs vvs, a ∈ addrs d l b dx rl dv lv P vvs := fun a ha => by
  simp only [addrs, List.cons_append, List.nil_append, List.mem_cons] at ha ⊢
  rcases ha with h | h | h <;> simp [h]
theorem fr_kst4 {g h : Heap} {L : Addr} {m : Str → Option Value} {a b c d : Str × Value} (F : Fr g L h m) (h1 : m a.1 = some a.2) (h2 : m b.1 = some b.2) (h3 : m c.1 = some c.2) (h4 : m d.1 = some d.2) : Fr g L h (kstB m [a, b, c, d]) := fr_kst _ F fun q hq => by
  simp only [List.mem_cons, List.not_mem_nil, or_false] at hq
  rcases hq with rfl | rfl | rfl | rfl <;> assumption
section
variable {p : Program} {loose : List Str} {mean : ExcName → Option Value} {mg mb : Str → Option Value} {prog : Program} {w : World} {dp un : Nat} {gs : Option (List Code)} {R : Result → Shared → Prop} {s : Shared} {base : Heap} {fs : List Env} {k : Nat}
local macro_rules | `(tactic| walk_at "eval Lambda") => `(tactic| refine hold_elim ?_)
local macro_rules | `(tactic| walk_at "call ref") => `(tactic| refine hold_elim ?_)
local macro_rules | `(tactic| walk_at "binaryOp Add ref ref") => `(tactic| refine hold_elim ?_)
local macro_rules | `(tactic| walk_at "subscriptTail Name Slice ref ref") => `(tactic| refine hold_elim ?_)
local macro_rules | `(tactic| walk_at "subscriptTail") => `(tactic| (k_here; (with_reducible show wpAny _ _ (subscriptTail _ _ _ (Value.int 0 _)) _ _ _); k_dflt (refine tup2_at0 (by k_asm) (by k_mem) ?_)))
local macro_rules | `(tactic| walk_at "subscriptTail") => `(tactic| ((with_reducible show wpAny _ _ (subscriptTail _ (Expr.Name _ _) _ _) _ _ _); refine hold_elim ?_))
local macro_rules | `(tactic| walk_at "callWith ref") => `(tactic| (k_here; k_dflt (refine' callWith_K ?k1 ?k2 ?_; (case k1 => k_asm); (case k2 => k_is); k_whole)))
local macro_rules | `(tactic| walk_at "compareOp Eq ref ref") => `(tactic| refine hold_elim ?_)
theorem deed_spec {d l b dx rl dv lv : Addr} {bvs vvs : List Value} {rows : List Row} {most next : Int} {tk0 : Tok} (M : Amb p loose mean mg mb w dp gs un base fs s.heap 40) (C : CodeHd base 212 210) (S : AllAt prog w s.heap qL d l b dx rl dv lv 210 bvs vvs rows rows most next next)
    (O : Off base fs (addrs d l b dx rl dv lv 210 vvs)) (hnd : (rows.map (·.1)).Nodup) (hlt : rows.length ≤ 900) (hm0 : 0 ≤ most) (hfr : ∃ j, Fresh rows next j) (hsz : ∀ r ∈ rows, r.2.1.size ≤ 900) (NF0 : ∀ a ∈ frs fs, ∃ o es n, s.heap.get? a = some o ∧ o.data = .dict es n)
    (post : ∀ h' tk rl' lv' bvs' vvs' rows' next', AllAt prog w h' qL d l b dx rl' dv lv' 210 bvs' vvs' rows' rows' most next' next' → Off base fs (addrs d l b dx rl' dv lv' 210 vvs') → Out rows most next rows' next' → Slt fs (addrs d l b dx rl dv lv 210 vvs) s.heap h' →
      R (.ok (.ret (.bool true))) { s with heap := h', toks := tk }) :
    codeAny (model prog w) (AA dp fs gs un) (.call (.ref 213) ⟨[.ref d, .ref b, .ref dv], []⟩) R s := by
  w_on
  refine enterC M (cellsOf s.heap (addrs d l b dx rl dv lv 210 vvs)) cellsOf_get (O.sub cellsOf_sub) ?_
  intro g L' h₁ tk₂ own F N Y B X T hlt' hg hg' hL'
  have hAt := S.there
  have hid : ∀ a ∈ addrs d l b dx rl dv lv 210 vvs, g.get? a = none ∧ a ≠ L' := fun a ha => by
    obtain ⟨q, hq, rfl⟩ := List.mem_map.mp (cellsOf_mem ha (hAt a ha))
    have := N q (List.mem_append_right _ hq)
    exact ⟨this.2.2, this.2.1⟩
  obtain ⟨oTi, oNe, oKe, oBu, rfl, dTi, dNe, dKe, dBu⟩ := CellsAre.four Y
  clear Y hlt'
  have dBu : oBu.data = .cell (some (.ref b)) := dBu
  have S₁ : AllAt prog w h₁ qL d l b dx rl dv lv 210 bvs vvs rows rows most next next := S.chg (Δ := []) (fun a o e _ => hg' a o e) (fun _ h => nomatch h) (fun _ h => nomatch h)
  have I0 : Inn prog w g L' h₁ _ [(L' + 1 + 1 + 1 + 1, oTi), (L' + 1 + 1 + 1, oNe), (L' + 1 + 1, oKe), (L' + 1, oBu)] qL d l b dx rl dv lv 210 bvs vvs rows rows most next next :=
    ⟨fr_kst2 (a := (Str.ofString "deck", .ref d)) (b := (Str.ofString "v", .ref dv)) F rfl rfl, fun q hq => N q (List.mem_append_left _ hq), all1 ⟨_, dTi⟩ (all1 ⟨_, dNe⟩ (all1 ⟨_, dKe⟩ (all1 ⟨_, dBu⟩ all0))), S₁, hid⟩
  have back : Chg (addrs d l b dx rl dv lv 210 vvs) s.heap g := fun a o e n => hg a o e fun hm => n (cellsOf_sub a hm)
  have NF : ∀ a ∈ frs fs, ∃ o es n, g.get? a = some o ∧ o.data = .dict es n := fun a ha => by obtain ⟨o, es, n, h, hd⟩ := NF0 a ha; exact ⟨o, es, n, back a o h (fun q => (O a q).2 ha), hd⟩
  have finT : ∀ g' h m own rl' lv' bvs' vvs' rows' next' tk, KtsTurn (frs fs) g g' → Below (AA dp fs gs un) base fs g' → Inn prog w g' L' h m own qL d l b dx rl' dv lv' 210 bvs' vvs' rows' rows' most next' next' → Out rows most next rows' next' → R (.ok (.ret (.bool true))) { s with heap := h, toks := tk } :=
    fun _ _ _ _ _ _ _ _ _ _ _ T B I o => post _ _ _ _ _ _ _ _ I.st (I.offO B) o (slt_turned back T I.fr fun a ha => (O a ha).2)
  have fin : ∀ h m own rl' lv' bvs' vvs' rows' next' tk, Inn prog w g L' h m own qL d l b dx rl' dv lv' 210 bvs' vvs' rows' rows' most next' next' → Out rows most next rows' next' → R (.ok (.ret (.bool true))) { s with heap := h, toks := tk } :=
    fun _ _ _ _ _ _ _ _ _ _ I o => finT _ _ _ _ _ _ _ _ _ _ _ .refl B I o
  clear F N hid hg hg' hAt S₁
  show wpAny _ _ _ _ _ _
  k_fold
  have dTi' : ∃ v, oTi.data = .cell v := ⟨_, dTi⟩
  have dNe' : ∃ v, oNe.data = .cell v := ⟨_, dNe⟩
  have dKe' : ∃ v, oKe.data = .cell v := ⟨_, dKe⟩
  clear dTi dNe dKe
  obtain ⟨vTi, dTi⟩ := dTi'
  obtain ⟨vNe, dNe⟩ := dNe'
  obtain ⟨vKe, dKe⟩ := dKe'
  refine cut_next (fun s' => ∃ h tk m v t, s' = { s with heap := h, toks := tk } ∧ 0 ≤ v ∧ v < 6 ∧ Inn prog w g L' h (kstB m [(Str.ofString "deck", .ref d), (Str.ofString "v", .ref dv), (Str.ofString "way", .int v t)]) [(L' + 1 + 1 + 1 + 1, oTi), (L' + 1 + 1 + 1, oNe), (L' + 1 + 1, oKe), (L' + 1, oBu)] qL d l b dx rl dv lv 210 bvs vvs rows rows most next next) ?_ ?_
  · have F := I0.fr
    have N := I0.own
    w_strict k_steps
    refine .mk (wpAny_call (draw_spec (k := 0) ((M.deeper B F rfl rfl).less (by decide)) I0.st.deck (I0.off B rfl (by first | kopn_word | simp)) (by decide) (by decide) fun v t h₂ tk₂ hv0 hv6 D₂ C₂ => ?_))
    have I1 := I0.deckC D₂ C₂
    clear I0 F N D₂ C₂
    have F := I1.fr
    obtain ⟨rs, Ld⟩ := I1.more [] (fun _ h => nomatch h) (fun _ h => nomatch h)
    have N := Ld.news
    simp only [List.cons_append, List.nil_append, List.append_nil] at N
    w_strict k_steps
    rename Fr _ _ _ _ => F
    rename News _ _ _ _ => N
    exact .mk (exI5 _ _ _ v t ⟨rfl, hv0, hv6, I1.step Ld [(L' + 1 + 1 + 1 + 1, _), (L' + 1 + 1 + 1, _), (L' + 1 + 1, _), (L' + 1, _)] (fr_kst3 F rfl rfl rfl) N (fun _ hq => hq) (by rfl) (by exact (all1 ⟨_, dTi⟩ (all1 ⟨_, dNe⟩ (all1 ⟨_, dKe⟩ (all1 ⟨_, dBu⟩ all0)))))⟩)
  clear I0
  refine fun s' hz => exE5 hz fun h₂ tk₃ m v t hx => ?_
  clear hz
  obtain ⟨rfl, hv0, hv6, I2⟩ := hx
  have hv : v = 0 ∨ v = 1 ∨ v = 2 ∨ v = 3 ∨ v = 4 ∨ v = 5 := by omega
  clear hv0 hv6
  rcases hv with rfl | rfl | rfl | rfl | rfl | rfl
  · obtain ⟨rs, Ld⟩ := I2.more [] (fun _ h => nomatch h) (by first | kopn_word | simp)
    have F := I2.fr
    have N := Ld.news
    simp only [List.cons_append, List.nil_append, List.append_nil] at N
    w_strict k_steps
    rename Fr _ _ _ _ => F
    rename News _ _ _ _ => N
    have I3 := I2.step Ld [(L' + 1 + 1 + 1 + 1, _), (L' + 1 + 1 + 1, _), (L' + 1 + 1, _), (L' + 1, _)] F N (fun _ hq => .tail _ (hq)) (by rfl) (by exact (all1 ⟨_, by assumption⟩ (all1 ⟨_, by assumption⟩ (all1 ⟨_, by assumption⟩ (all1 ⟨_, by assumption⟩ all0)))))
    clear I2 Ld N F
    have F := I3.fr
    refine .mk (wpAny_call (octets_spec ((M.deeper B F rfl rfl).less (by decide)) I3.st.deck (I3.off B rfl (by first | kopn_word | simp)) fun oc to h₃ tk₄ hoc D₃ C₃ => ?_))
    have I4 := I3.deckC D₃ C₃
    clear I3 F D₃ C₃
    try dsimp only
    obtain ⟨hb1, x5, _, _, _⟩ := id I4.st.buf
    refine exE5 x5 fun t1 t2 t3 tm tn hb2 => ?_
    clear x5
    obtain ⟨rs, Ld⟩ := I4.more [(b, instObj 154 dx), (dx, dictOf (bufEs w t1 t2 t3 (.int most tm) (.ref rl) (.int next tn)) 3)] (by first | kopn_word | simp [hb1, hb2]) (by first | kopn_word | simp)
    have F := I4.fr
    have N := Ld.news
    simp only [List.cons_append, List.nil_append, List.append_nil] at N
    have hr0x5 : ∀ p ∈ rs, p.1 ≠ L' + 1 + 1 + 1 + 1 := Ld.off (by kopn_word)
    have hyb : @Ne Nat b (L' + 1 + 1 + 1 + 1) ∧ @Ne Nat b (L' + 1 + 1 + 1) ∧ @Ne Nat b (L' + 1 + 1) ∧ @Ne Nat b (L' + 1) := I4.ne4 b (by first | kopn_word | simp)
    have hydx : @Ne Nat dx (L' + 1 + 1 + 1 + 1) ∧ @Ne Nat dx (L' + 1 + 1 + 1) ∧ @Ne Nat dx (L' + 1 + 1) ∧ @Ne Nat dx (L' + 1) := I4.ne4 dx (by first | kopn_word | simp)
    w_strict k_steps
    rename _ = Data.cell (some Value.none) => dTi2
    rename Fr _ _ _ _ => F
    rename News _ _ _ _ => N
    have I6 := I4.step Ld [(L' + 1 + 1 + 1 + 1, _), (L' + 1 + 1 + 1, _), (L' + 1 + 1, _), (L' + 1, _)] F N (fun _ hq => .tail _ (hq)) (by rfl) (by exact (all1 ⟨_, by assumption⟩ (all1 ⟨_, by assumption⟩ (all1 ⟨_, by assumption⟩ (all1 ⟨_, by assumption⟩ all0)))))
    clear I4 Ld N F
    obtain ⟨j, hj⟩ := hfr
    have F := I6.fr
    refine .mk (wpAny_call (set_any (nm := none) (j := j) ((M.deeper B F rfl rfl).less (by decide)) I6.st.buf (I6.off B rfl (by first | kopn_word | simp)) rfl (fun _ _ => hj) hnd hlt fun v1 h₇ tk₇ rl' bvs' hv1 Bu₇ hrl C₇ => ?_))
    have I7 := I6.bufC Bu₇ hrl C₇
    clear I6 F Bu₇ hrl C₇
    try dsimp only
    obtain ⟨rs, Ld⟩ := I7.more [] (fun _ h => nomatch h) (by first | kopn_word | simp)
    have F := I7.fr
    have N := Ld.news
    simp only [List.cons_append, List.nil_append, List.append_nil] at N
    w_strict k_steps
    clear N F Ld
    have F := I7.fr
    refine .mk (wpAny_call (lset_all (nm := none) (j := j) ((M.deeper B F rfl rfl).less (by decide)) I7.st.view (I7.off B rfl (by first | kopn_word | simp)) rfl (fun _ _ => hj) hlt hm0 hnd  fun v2 h₈ tk₈ lv' vvs' hv2 V₈ hvs hlv C₈ => ?_))
    have I8 := I7.viewC V₈ hvs hlv (C₈.mono (by first | kopn_word | simp))
    clear I7 F
    try dsimp only
    refine opt_eq hv1 hv2 ?_
    show R _ _
    exact fin _ _ _ _ _ _ _ _ _ _ I8 (Out.set oc none j hoc (fun _ h => nomatch h) (fun _ _ => hj))
  · obtain ⟨rs, Ld⟩ := I2.more [] (fun _ h => nomatch h) (by first | kopn_word | simp)
    have F := I2.fr
    have N := Ld.news
    simp only [List.cons_append, List.nil_append, List.append_nil] at N
    w_strict k_steps
    rename Fr _ _ _ _ => F
    rename News _ _ _ _ => N
    have I3 := I2.step Ld [(L' + 1 + 1 + 1 + 1, _), (L' + 1 + 1 + 1, _), (L' + 1 + 1, _), (L' + 1, _)] F N (fun _ hq => .tail _ (hq)) (by rfl) (by exact (all1 ⟨_, by assumption⟩ (all1 ⟨_, by assumption⟩ (all1 ⟨_, by assumption⟩ (all1 ⟨_, by assumption⟩ all0)))))
    clear I2 Ld N F
    have F := I3.fr
    refine .mk (wpAny_call (octets_spec ((M.deeper B F rfl rfl).less (by decide)) I3.st.deck (I3.off B rfl (by first | kopn_word | simp)) fun oc to h₃ tk₄ hoc D₃ C₃ => ?_))
    have I4 := I3.deckC D₃ C₃
    clear I3 F D₃ C₃
    try dsimp only
    obtain ⟨rs, Ld⟩ := I4.more [] (fun _ h => nomatch h) (by first | kopn_word | simp)
    have F := I4.fr
    have N := Ld.news
    simp only [List.cons_append, List.nil_append, List.append_nil] at N
    w_strict k_steps
    rename Fr _ _ _ _ => F
    rename News _ _ _ _ => N
    have I5 := I4.step Ld [(L' + 1 + 1 + 1 + 1, _), (L' + 1 + 1 + 1, _), (L' + 1 + 1, _), (L' + 1, _)] F N (fun _ hq => hq) (by rfl) (by exact (all1 ⟨_, by assumption⟩ (all1 ⟨_, by assumption⟩ (all1 ⟨_, by assumption⟩ (all1 ⟨_, by assumption⟩ all0)))))
    clear I4 Ld N F
    have F := I5.fr
    refine .mk (wpAny_call (title_spec ((M.deeper B F rfl rfl).less (by decide)) I5.st.deck I5.st.view (I5.off B rfl (by first | kopn_word | simp)) hlt fun nm tn' h₃ tk₄ hnm D₃ C₃ => ?_))
    have I5b := I5.deckC D₃ C₃
    clear I5 F D₃ C₃
    try dsimp only
    obtain ⟨hb1, x5, _, _, _⟩ := id I5b.st.buf
    refine exE5 x5 fun t1 t2 t3 tm tn hb2 => ?_
    clear x5
    obtain ⟨rs, Ld⟩ := I5b.more [(b, instObj 154 dx), (dx, dictOf (bufEs w t1 t2 t3 (.int most tm) (.ref rl) (.int next tn)) 3)] (by first | kopn_word | simp [hb1, hb2]) (by first | kopn_word | simp)
    have F := I5b.fr
    have N := Ld.news
    simp only [List.cons_append, List.nil_append, List.append_nil] at N
    have hr0x21 : ∀ p ∈ rs, p.1 ≠ L' + 1 + 1 + 1 + 1 := Ld.off (by kopn_word)
    have hyb : @Ne Nat b (L' + 1 + 1 + 1 + 1) ∧ @Ne Nat b (L' + 1 + 1 + 1) ∧ @Ne Nat b (L' + 1 + 1) ∧ @Ne Nat b (L' + 1) := I5b.ne4 b (by first | kopn_word | simp)
    have hydx : @Ne Nat dx (L' + 1 + 1 + 1 + 1) ∧ @Ne Nat dx (L' + 1 + 1 + 1) ∧ @Ne Nat dx (L' + 1 + 1) ∧ @Ne Nat dx (L' + 1) := I5b.ne4 dx (by first | kopn_word | simp)
    w_strict k_steps
    rename _ = Data.cell (some (Value.bytes _ _)) => dTi2
    rename Fr _ _ _ _ => F
    rename News _ _ _ _ => N
    have I6 := I5b.step Ld [(L' + 1 + 1 + 1 + 1, _), (L' + 1 + 1 + 1, _), (L' + 1 + 1, _), (L' + 1, _)] F N (fun _ hq => .tail _ (hq)) (by rfl) (by exact (all1 ⟨_, by assumption⟩ (all1 ⟨_, by assumption⟩ (all1 ⟨_, by assumption⟩ (all1 ⟨_, by assumption⟩ all0)))))
    clear I5b Ld N F
    have F := I6.fr
    refine .mk (wpAny_call (set_any (nm := (some nm)) (j := 0) ((M.deeper B F rfl rfl).less (by decide)) I6.st.buf (I6.off B rfl (by first | kopn_word | simp)) ⟨_, rfl⟩ (fun h => nomatch h) hnd hlt fun v1 h₇ tk₇ rl' bvs' hv1 Bu₇ hrl C₇ => ?_))
    have I7 := I6.bufC Bu₇ hrl C₇
    clear I6 F Bu₇ hrl C₇
    try dsimp only
    obtain ⟨rs, Ld⟩ := I7.more [] (fun _ h => nomatch h) (by first | kopn_word | simp)
    have F := I7.fr
    have N := Ld.news
    simp only [List.cons_append, List.nil_append, List.append_nil] at N
    w_strict k_steps
    clear N F Ld
    have F := I7.fr
    refine .mk (wpAny_call (lset_all (nm := (some nm)) (j := 0) ((M.deeper B F rfl rfl).less (by decide)) I7.st.view (I7.off B rfl (by first | kopn_word | simp)) ⟨_, rfl⟩ (fun h => nomatch h) hlt hm0 hnd  fun v2 h₈ tk₈ lv' vvs' hv2 V₈ hvs hlv C₈ => ?_))
    have I8 := I7.viewC V₈ hvs hlv (C₈.mono (by first | kopn_word | simp))
    clear I7 F
    try dsimp only
    refine opt_eq hv1 hv2 ?_
    show R _ _
    exact fin _ _ _ _ _ _ _ _ _ _ I8 (Out.set oc (some nm) 0 hoc (fun x e => by cases e; exact hnm) (fun h => nomatch h))
  · obtain ⟨rs, Ld⟩ := I2.more [] (fun _ h => nomatch h) (by first | kopn_word | simp)
    have F := I2.fr
    have N := Ld.news
    simp only [List.cons_append, List.nil_append, List.append_nil] at N
    w_strict k_steps
    rename Fr _ _ _ _ => F
    rename News _ _ _ _ => N
    have I3 := I2.step Ld [(L' + 1 + 1 + 1 + 1, _), (L' + 1 + 1 + 1, _), (L' + 1 + 1, _), (L' + 1, _)] F N (fun _ hq => .tail _ (hq)) (by rfl) (by exact (all1 ⟨_, by assumption⟩ (all1 ⟨_, by assumption⟩ (all1 ⟨_, by assumption⟩ (all1 ⟨_, by assumption⟩ all0)))))
    clear I2 Ld N F
    have F := I3.fr
    refine .mk (wpAny_call (octets_spec ((M.deeper B F rfl rfl).less (by decide)) I3.st.deck (I3.off B rfl (by first | kopn_word | simp)) fun oc to h₃ tk₄ hoc D₃ C₃ => ?_))
    have I4 := I3.deckC D₃ C₃
    clear I3 F D₃ C₃
    try dsimp only
    obtain ⟨rs, Ld⟩ := I4.more [] (fun _ h => nomatch h) (by first | kopn_word | simp)
    have F := I4.fr
    have N := Ld.news
    simp only [List.cons_append, List.nil_append, List.append_nil] at N
    w_strict k_steps
    rename Fr _ _ _ _ => F
    rename News _ _ _ _ => N
    have I5 := I4.step Ld [(L' + 1 + 1 + 1 + 1, _), (L' + 1 + 1 + 1, _), (L' + 1 + 1, _), (L' + 1, _)] F N (fun _ hq => hq) (by rfl) (by exact (all1 ⟨_, by assumption⟩ (all1 ⟨_, by assumption⟩ (all1 ⟨_, by assumption⟩ (all1 ⟨_, by assumption⟩ all0)))))
    clear I4 Ld N F
    have F := I5.fr
    refine .mk (wpAny_call (draw_spec (k := 0) ((M.deeper B F rfl rfl).less (by decide)) I5.st.deck (I5.off B rfl (by first | kopn_word | simp)) (by decide) (by decide) fun v2 tv h₃ tk₄ hv0 hv6 D₃ C₃ => ?_))
    have I5b := I5.deckC D₃ C₃
    clear I5 F D₃ C₃
    try dsimp only
    have hv : v2 = 0 ∨ v2 = 1 := by omega
    rcases hv with rfl | rfl
    · obtain ⟨rs, Ld⟩ := I5b.more [] (fun _ h => nomatch h) (by first | kopn_word | simp)
      have F := I5b.fr
      have N := Ld.news
      simp only [List.cons_append, List.nil_append, List.append_nil] at N
      w_strict k_steps
      rename Fr _ _ _ _ => F
      rename News _ _ _ _ => N
      have I5c := I5b.step Ld [(L' + 1 + 1 + 1 + 1, _), (L' + 1 + 1 + 1, _), (L' + 1 + 1, _), (L' + 1, _)] F N (fun _ hq => hq) (by rfl) (by exact (all1 ⟨_, by assumption⟩ (all1 ⟨_, by assumption⟩ (all1 ⟨_, by assumption⟩ (all1 ⟨_, by assumption⟩ all0)))))
      clear I5b Ld N F
      have F := I5c.fr
      refine .mk (wpAny_call (title_spec ((M.deeper B F rfl rfl).less (by decide)) I5c.st.deck I5c.st.view (I5c.off B rfl (by first | kopn_word | simp)) hlt fun nm tn' h₃ tk₄ hnm D₃ C₃ => ?_))
      have I5d := I5c.deckC D₃ C₃
      clear I5c F D₃ C₃
      try dsimp only
      obtain ⟨hb1, x5, _, _, _⟩ := id I5d.st.buf
      refine exE5 x5 fun t1 t2 t3 tm tn hb2 => ?_
      clear x5
      obtain ⟨rs, Ld⟩ := I5d.more [(b, instObj 154 dx), (dx, dictOf (bufEs w t1 t2 t3 (.int most tm) (.ref rl) (.int next tn)) 3)] (by first | kopn_word | simp [hb1, hb2]) (by first | kopn_word | simp)
      have F := I5d.fr
      have N := Ld.news
      simp only [List.cons_append, List.nil_append, List.append_nil] at N
      have hr0x41 : ∀ p ∈ rs, p.1 ≠ L' + 1 + 1 + 1 + 1 := Ld.off (by kopn_word)
      have hyb : @Ne Nat b (L' + 1 + 1 + 1 + 1) ∧ @Ne Nat b (L' + 1 + 1 + 1) ∧ @Ne Nat b (L' + 1 + 1) ∧ @Ne Nat b (L' + 1) := I5d.ne4 b (by first | kopn_word | simp)
      have hydx : @Ne Nat dx (L' + 1 + 1 + 1 + 1) ∧ @Ne Nat dx (L' + 1 + 1 + 1) ∧ @Ne Nat dx (L' + 1 + 1) ∧ @Ne Nat dx (L' + 1) := I5d.ne4 dx (by first | kopn_word | simp)
      w_strict k_steps
      rename _ = Data.cell (some (Value.bytes _ _)) => dTi2
      rename Fr _ _ _ _ => F
      rename News _ _ _ _ => N
      have I6 := I5d.step Ld [(L' + 1 + 1 + 1 + 1, _), (L' + 1 + 1 + 1, _), (L' + 1 + 1, _), (L' + 1, _)] F N (fun _ hq => .tail _ (hq)) (by rfl) (by exact (all1 ⟨_, by assumption⟩ (all1 ⟨_, by assumption⟩ (all1 ⟨_, by assumption⟩ (all1 ⟨_, by assumption⟩ all0)))))
      clear I5d Ld N F
      have F := I6.fr
      refine .mk (wpAny_call (append_any (nm := (some nm)) (j := 0) ((M.deeper B F rfl rfl).less (by decide)) I6.st.buf (I6.off B rfl (by first | kopn_word | simp)) hnd ⟨_, rfl⟩ (fun h => nomatch h) hlt (fun r hr => by have := hsz r hr; have := menu_small hoc; omega) fun v1 h₇ tk₇ rl' bvs' hv1 Bu₇ hrl C₇ => ?_))
      have I7 := I6.bufC Bu₇ hrl C₇
      clear I6 F Bu₇ hrl C₇
      try dsimp only
      obtain ⟨rs, Ld⟩ := I7.more [] (fun _ h => nomatch h) (by first | kopn_word | simp)
      have F := I7.fr
      have N := Ld.news
      simp only [List.cons_append, List.nil_append, List.append_nil] at N
      w_strict k_steps
      clear N F Ld
      have F := I7.fr
      refine .mk (wpAny_call (lappend_any (nm := (some nm)) (j := 0) ((M.deeper B F rfl rfl).less (by decide)) I7.st.view (I7.off B rfl (addrs_view)) ⟨_, rfl⟩ (fun h => nomatch h) hlt hm0 hnd (fun r hr => by have := hsz r hr; have := menu_small hoc; omega) fun v2 h₈ tk₈ lv' vvs' hv2 V₈ hvs hlv C₈ => ?_))
      have I8 := I7.viewC V₈ hvs hlv (C₈)
      clear I7 F
      try dsimp only
      refine opt_eq hv1 hv2 ?_
      show R _ _
      exact fin _ _ _ _ _ _ _ _ _ _ I8 (Out.app oc (some nm) 0 hoc (fun x e => by cases e; exact hnm) (fun h => nomatch h))
    · obtain ⟨hb1, ⟨t1, t2, t3, tm, tn, hb2⟩, _, _, _⟩ := id I5b.st.buf
      obtain ⟨rs, Ld⟩ := I5b.more [(b, instObj 154 dx), (dx, dictOf (bufEs w t1 t2 t3 (.int most tm) (.ref rl) (.int next tn)) 3)] (by first | kopn_word | simp [hb1, hb2]) (by first | kopn_word | simp)
      have F := I5b.fr
      have N := Ld.news
      simp only [List.cons_append, List.nil_append, List.append_nil] at N
      have hr0x49 : ∀ p ∈ rs, p.1 ≠ L' + 1 + 1 + 1 + 1 := Ld.off (by kopn_word)
      have hyb : @Ne Nat b (L' + 1 + 1 + 1 + 1) ∧ @Ne Nat b (L' + 1 + 1 + 1) ∧ @Ne Nat b (L' + 1 + 1) ∧ @Ne Nat b (L' + 1) := I5b.ne4 b (by first | kopn_word | simp)
      have hydx : @Ne Nat dx (L' + 1 + 1 + 1 + 1) ∧ @Ne Nat dx (L' + 1 + 1 + 1) ∧ @Ne Nat dx (L' + 1 + 1) ∧ @Ne Nat dx (L' + 1) := I5b.ne4 dx (by first | kopn_word | simp)
      w_strict k_steps
      rename _ = Data.cell (some Value.none) => dTi2
      rename Fr _ _ _ _ => F
      rename News _ _ _ _ => N
      have I6 := I5b.step Ld [(L' + 1 + 1 + 1 + 1, _), (L' + 1 + 1 + 1, _), (L' + 1 + 1, _), (L' + 1, _)] F N (fun _ hq => .tail _ (hq)) (by rfl) (by exact (all1 ⟨_, by assumption⟩ (all1 ⟨_, by assumption⟩ (all1 ⟨_, by assumption⟩ (all1 ⟨_, by assumption⟩ all0)))))
      clear I5b Ld N F
      obtain ⟨j, hj⟩ := hfr
      have F := I6.fr
      refine .mk (wpAny_call (append_any (nm := none) (j := j) ((M.deeper B F rfl rfl).less (by decide)) I6.st.buf (I6.off B rfl (by first | kopn_word | simp)) hnd rfl (fun _ _ => hj) hlt (fun r hr => by have := hsz r hr; have := menu_small hoc; omega) fun v1 h₇ tk₇ rl' bvs' hv1 Bu₇ hrl C₇ => ?_))
      have I7 := I6.bufC Bu₇ hrl C₇
      clear I6 F Bu₇ hrl C₇
      try dsimp only
      obtain ⟨rs, Ld⟩ := I7.more [] (fun _ h => nomatch h) (by first | kopn_word | simp)
      have F := I7.fr
      have N := Ld.news
      simp only [List.cons_append, List.nil_append, List.append_nil] at N
      w_strict k_steps
      clear N F Ld
      have F := I7.fr
      refine .mk (wpAny_call (lappend_any (nm := none) (j := j) ((M.deeper B F rfl rfl).less (by decide)) I7.st.view (I7.off B rfl (addrs_view)) rfl (fun _ _ => hj) hlt hm0 hnd (fun r hr => by have := hsz r hr; have := menu_small hoc; omega) fun v2 h₈ tk₈ lv' vvs' hv2 V₈ hvs hlv C₈ => ?_))
      have I8 := I7.viewC V₈ hvs hlv (C₈)
      clear I7 F
      try dsimp only
      refine opt_eq hv1 hv2 ?_
      show R _ _
      exact fin _ _ _ _ _ _ _ _ _ _ I8 (Out.app oc none j hoc (fun _ h => nomatch h) (fun _ _ => hj))
  · refine cut_next (fun s' => ∃ h tk m, s' = { s with heap := h, toks := tk } ∧ Inn prog w g L' h (kstB m [(Str.ofString "deck", .ref d), (Str.ofString "v", .ref dv), (Str.ofString "way", .int 3 t)]) [(L' + 1 + 1 + 1 + 1, oTi), (L' + 1 + 1 + 1, oNe), (L' + 1 + 1, oKe), (L' + 1, oBu)] qL d l b dx rl dv lv 210 bvs vvs rows rows most next next) ?_ ?_
    · obtain ⟨rs, Ld⟩ := I2.more [] (fun _ h => nomatch h) (by first | kopn_word | simp)
      have F := I2.fr
      have N := Ld.news
      simp only [List.cons_append, List.nil_append, List.append_nil] at N
      w_strict k_steps
      rename Fr _ _ _ _ => F
      rename News _ _ _ _ => N
      exact .mk (exI3 _ _ _ ⟨rfl, I2.step Ld [(L' + 1 + 1 + 1 + 1, _), (L' + 1 + 1 + 1, _), (L' + 1 + 1, _), (L' + 1, _)] (fr_kst3 F rfl rfl rfl) N (fun _ hq => .tail _ (hq)) (by rfl) (by exact (all1 ⟨_, by assumption⟩ (all1 ⟨_, by assumption⟩ (all1 ⟨_, by assumption⟩ (all1 ⟨_, by assumption⟩ all0)))))⟩)
    clear I2
    refine fun s' hz => exE3 hz fun h₂ tk₃ m hx => ?_
    clear hz
    obtain ⟨rfl, I3⟩ := hx
    refine cut_next (fun s' => ∃ h tk m, s' = { s with heap := h, toks := tk } ∧ Inn prog w g L' h (kstB m [(Str.ofString "deck", .ref d), (Str.ofString "v", .ref dv), (Str.ofString "way", .int 3 t)]) [(L' + 1 + 1 + 1 + 1, oTi), (L' + 1 + 1 + 1, oNe), (L' + 1 + 1, oKe), (L' + 1, oBu)] qL d l b dx rl dv lv 210 bvs vvs rows rows most next next) ?_ ?_
    · obtain ⟨rs, Ld⟩ := I3.more [] (fun _ h => nomatch h) (by first | kopn_word | simp)
      have F := I3.fr
      have N := Ld.news
      simp only [List.cons_append, List.nil_append, List.append_nil] at N
      w_strict k_steps
      rename Fr _ _ _ _ => F
      rename News _ _ _ _ => N
      exact .mk (exI3 _ _ _ ⟨rfl, I3.step Ld [(L' + 1 + 1 + 1 + 1, _), (L' + 1 + 1 + 1, _), (L' + 1 + 1, _), (L' + 1, _)] (fr_kst3 F rfl rfl rfl) N (fun _ hq => hq) (by rfl) (by exact (all1 ⟨_, by assumption⟩ (all1 ⟨_, by assumption⟩ (all1 ⟨_, by assumption⟩ (all1 ⟨_, by assumption⟩ all0)))))⟩)
    clear I3
    refine fun s' hz => exE3 hz fun h₂ tk₃ m hx => ?_
    clear hz
    obtain ⟨rfl, I4⟩ := hx
    refine cut_next (fun s' => ∃ h tk m oTi nm nv, s' = { s with heap := h, toks := tk } ∧ Inn prog w g L' h (kstB m [(Str.ofString "deck", .ref d), (Str.ofString "v", .ref dv), (Str.ofString "way", .int 3 t)]) [(L' + 1 + 1 + 1 + 1, oTi), (L' + 1 + 1 + 1, oNe), (L' + 1 + 1, oKe), (L' + 1, oBu)] qL d l b dx rl dv lv 210 bvs vvs rows rows most next next ∧ oTi.data = .cell (some nv) ∧ optV nm nv ∧ (∀ x, nm = some x → x ∈ titles rows)) ?_ ?_
    · obtain ⟨rs, Ld⟩ := I4.more [] (fun _ h => nomatch h) (by first | kopn_word | simp)
      have F := I4.fr
      have N := Ld.news
      simp only [List.cons_append, List.nil_append, List.append_nil] at N
      w_strict k_steps
      rename Fr _ _ _ _ => F
      rename News _ _ _ _ => N
      have I4d := I4.step Ld [(L' + 1 + 1 + 1 + 1, _), (L' + 1 + 1 + 1, _), (L' + 1 + 1, _), (L' + 1, _)] F N (fun _ hq => hq) (by rfl) (by exact (all1 ⟨_, by assumption⟩ (all1 ⟨_, by assumption⟩ (all1 ⟨_, by assumption⟩ (all1 ⟨_, by assumption⟩ all0)))))
      clear I4 Ld N F
      have F := I4d.fr
      refine .mk (wpAny_call (draw_spec (k := 0) ((M.deeper B F rfl rfl).less (by decide)) I4d.st.deck (I4d.off B rfl (by first | kopn_word | simp)) (by decide) (by decide) fun v2 tv h₃ tk₄ hv0 hv6 D₃ C₃ => ?_))
      have I5 := I4d.deckC D₃ C₃
      clear I4d F D₃ C₃
      try dsimp only
      have hv : v2 = 0 ∨ v2 = 1 ∨ v2 = 2 := by omega
      rcases hv with rfl | rfl | rfl
      · obtain ⟨rs, Ld⟩ := I5.more [] (fun _ h => nomatch h) (by first | kopn_word | simp)
        have F := I5.fr
        have N := Ld.news
        simp only [List.cons_append, List.nil_append, List.append_nil] at N
        have hr0x69 : ∀ p ∈ rs, p.1 ≠ L' + 1 + 1 + 1 + 1 := Ld.off (by kopn_word)
        w_strict k_steps
        rename Fr _ _ _ _ => F
        rename News _ _ _ _ => N
        exact .mk (exI6 _ _ _ _ none .none ⟨rfl, I5.step Ld [(L' + 1 + 1 + 1 + 1, _), (L' + 1 + 1 + 1, _), (L' + 1 + 1, _), (L' + 1, _)] (fr_kst3 F rfl rfl rfl) N (fun _ hq => hq) (by rfl) (by exact (all1 ⟨_, by assumption⟩ (all1 ⟨_, by assumption⟩ (all1 ⟨_, by assumption⟩ (all1 ⟨_, by assumption⟩ all0))))), by assumption, rfl, (fun _ h => nomatch h)⟩)
      · obtain ⟨rs, Ld⟩ := I5.more [] (fun _ h => nomatch h) (by first | kopn_word | simp)
        have F := I5.fr
        have N := Ld.news
        simp only [List.cons_append, List.nil_append, List.append_nil] at N
        w_strict k_steps
        rename Fr _ _ _ _ => F
        rename News _ _ _ _ => N
        have I5t := I5.step Ld [(L' + 1 + 1 + 1 + 1, _), (L' + 1 + 1 + 1, _), (L' + 1 + 1, _), (L' + 1, _)] F N (fun _ hq => hq) (by rfl) (by exact (all1 ⟨_, by assumption⟩ (all1 ⟨_, by assumption⟩ (all1 ⟨_, by assumption⟩ (all1 ⟨_, by assumption⟩ all0)))))
        clear I5 Ld N F
        have F := I5t.fr
        refine .mk (wpAny_call (title_spec ((M.deeper B F rfl rfl).less (by decide)) I5t.st.deck I5t.st.view (I5t.off B rfl (by first | kopn_word | simp)) hlt fun nm tn' h₃ tk₄ hnm D₃ C₃ => ?_))
        have I6 := I5t.deckC D₃ C₃
        clear I5t F D₃ C₃
        try dsimp only
        obtain ⟨rs, Ld⟩ := I6.more [] (fun _ h => nomatch h) (by first | kopn_word | simp)
        have F := I6.fr
        have N := Ld.news
        simp only [List.cons_append, List.nil_append, List.append_nil] at N
        have hr0x77 : ∀ p ∈ rs, p.1 ≠ L' + 1 + 1 + 1 + 1 := Ld.off (by kopn_word)
        w_strict k_steps
        rename Fr _ _ _ _ => F
        rename News _ _ _ _ => N
        exact .mk (exI6 _ _ _ _ (some nm) (.bytes nm tn') ⟨rfl, I6.step Ld [(L' + 1 + 1 + 1 + 1, _), (L' + 1 + 1 + 1, _), (L' + 1 + 1, _), (L' + 1, _)] (fr_kst3 F rfl rfl rfl) N (fun _ hq => hq) (by rfl) (by exact (all1 ⟨_, by assumption⟩ (all1 ⟨_, by assumption⟩ (all1 ⟨_, by assumption⟩ (all1 ⟨_, by assumption⟩ all0))))), by assumption, ⟨_, rfl⟩, (fun x e => by cases e; exact hnm)⟩)
      · obtain ⟨rs, Ld⟩ := I5.more [] (fun _ h => nomatch h) (by first | kopn_word | simp)
        have F := I5.fr
        have N := Ld.news
        simp only [List.cons_append, List.nil_append, List.append_nil] at N
        w_strict k_steps
        rename Fr _ _ _ _ => F
        rename News _ _ _ _ => N
        have I5t := I5.step Ld [(L' + 1 + 1 + 1 + 1, _), (L' + 1 + 1 + 1, _), (L' + 1 + 1, _), (L' + 1, _)] F N (fun _ hq => hq) (by rfl) (by exact (all1 ⟨_, by assumption⟩ (all1 ⟨_, by assumption⟩ (all1 ⟨_, by assumption⟩ (all1 ⟨_, by assumption⟩ all0)))))
        clear I5 Ld N F
        have F := I5t.fr
        refine .mk (wpAny_call (title_spec ((M.deeper B F rfl rfl).less (by decide)) I5t.st.deck I5t.st.view (I5t.off B rfl (by first | kopn_word | simp)) hlt fun nm tn' h₃ tk₄ hnm D₃ C₃ => ?_))
        have I6 := I5t.deckC D₃ C₃
        clear I5t F D₃ C₃
        try dsimp only
        obtain ⟨rs, Ld⟩ := I6.more [] (fun _ h => nomatch h) (by first | kopn_word | simp)
        have F := I6.fr
        have N := Ld.news
        simp only [List.cons_append, List.nil_append, List.append_nil] at N
        have hr0x85 : ∀ p ∈ rs, p.1 ≠ L' + 1 + 1 + 1 + 1 := Ld.off (by kopn_word)
        have hr1x86 : ∀ p ∈ rs, p.1 ≠ L' + 1 + 1 + 1 := Ld.off (by kopn_word)
        have hr2x87 : ∀ p ∈ rs, p.1 ≠ L' + 1 + 1 := Ld.off (by kopn_word)
        have hr3x88 : ∀ p ∈ rs, p.1 ≠ L' + 1 := Ld.off (by kopn_word)
        w_strict k_steps
        rename Fr _ _ _ _ => F
        rename News _ _ _ _ => N
        exact .mk (exI6 _ _ _ _ (some nm) (.bytes nm tn') ⟨rfl, I6.step Ld [(L' + 1 + 1 + 1 + 1, _), (L' + 1 + 1 + 1, _), (L' + 1 + 1, _), (L' + 1, _)] (fr_kst3 F rfl rfl rfl) N (fun _ hq => hq) (by rfl) (by exact (all1 ⟨_, by assumption⟩ (all1 ⟨_, by assumption⟩ (all1 ⟨_, by assumption⟩ (all1 ⟨_, by assumption⟩ all0))))), by assumption, ⟨_, rfl⟩, (fun x e => by cases e; exact hnm)⟩)
    clear I4
    skip
    refine fun s' hz => exE6 hz fun h₂ tk₃ m oTi nm nv hx => ?_
    clear hz
    obtain ⟨rfl, I5, dTi, hnv, hnt⟩ := hx
    refine cut_next (fun s' => ∃ h tk m va, s' = { s with heap := h, toks := tk } ∧ Inn prog w g L' h (kstB m [(Str.ofString "deck", .ref d), (Str.ofString "v", .ref dv), (Str.ofString "way", .int 3 t), (Str.ofString "at", va)]) [(L' + 1 + 1 + 1 + 1, oTi), (L' + 1 + 1 + 1, oNe), (L' + 1 + 1, oKe), (L' + 1, oBu)] qL d l b dx rl dv lv 210 bvs vvs rows rows most next next ∧ optN (atOf rows nm) va) ?_ ?_
    · obtain ⟨rs, Ld⟩ := I5.more [] (fun _ h => nomatch h) (by first | kopn_word | simp)
      have F := I5.fr
      have N := Ld.news
      simp only [List.cons_append, List.nil_append, List.append_nil] at N
      w_strict k_steps
      rename Fr _ _ _ _ => F
      rename News _ _ _ _ => N
      have I5t := I5.step Ld [(L' + 1 + 1 + 1 + 1, _), (L' + 1 + 1 + 1, _), (L' + 1 + 1, _), (L' + 1, _)] F N (fun _ hq => hq) (by rfl) (by exact (all1 ⟨_, by assumption⟩ (all1 ⟨_, by assumption⟩ (all1 ⟨_, by assumption⟩ (all1 ⟨_, by assumption⟩ all0)))))
      clear I5 Ld N F
      have F := I5t.fr
      refine .mk (wpAny_call (at_any (nm := nm) ((M.deeper B F rfl rfl).less (by decide)) I5t.st.view (I5t.off B rfl (by first | kopn_word | simp)) hnv fun va h₃ tk₄ hva C₃ => ?_))
      have I6 := I5t.sameC C₃
      clear I5t F C₃
      try dsimp only
      obtain ⟨rs, Ld⟩ := I6.more [] (fun _ h => nomatch h) (by first | kopn_word | simp)
      have F := I6.fr
      have N := Ld.news
      simp only [List.cons_append, List.nil_append, List.append_nil] at N
      w_strict k_steps
      rename Fr _ _ _ _ => F
      rename News _ _ _ _ => N
      exact .mk (exI4 _ _ _ va ⟨rfl, I6.step Ld [(L' + 1 + 1 + 1 + 1, _), (L' + 1 + 1 + 1, _), (L' + 1 + 1, _), (L' + 1, _)] (fr_kst4 F rfl rfl rfl rfl) N (fun _ hq => hq) (by rfl) (by exact (all1 ⟨_, by assumption⟩ (all1 ⟨_, by assumption⟩ (all1 ⟨_, by assumption⟩ (all1 ⟨_, by assumption⟩ all0))))), hva⟩)
    clear I5
    refine fun s' hz => exE4 hz fun h₂ tk₃ m va hx => ?_
    clear hz
    obtain ⟨rfl, I6, hva⟩ := hx
    obtain ⟨ps, hTab⟩ := I6.st.tab
    obtain ⟨rs, Ld⟩ := I6.more [(210, tabObj ps)] (by first | kopn_word | simp [hTab.1]) (by first | kopn_word | simp)
    have F := I6.fr
    have N := Ld.news
    simp only [List.cons_append, List.nil_append] at N
    have hr4x101 : ∀ p ∈ rs, p.1 ≠ 210 := Ld.off (by kopn_word)
    have hy210 : @Ne Nat 210 (L' + 1 + 1 + 1 + 1) ∧ @Ne Nat 210 (L' + 1 + 1 + 1) ∧ @Ne Nat 210 (L' + 1 + 1) ∧ @Ne Nat 210 (L' + 1) := I6.ne4 210 (by first | kopn_word | simp)
    w_strict k_steps
    rename Fr _ _ _ _ => F
    rename News _ _ _ _ => N
    refine .mk (kla_eval rfl ?_)
    refine lam_make2 (qual := qL) (rs := rs) F N T (C.keeps B.stays) rfl (by k_updF) hTab.2.1 (Ld.codeKept I6.fr (fun z hz vs e => by rcases List.mem_append.mp hz with h | h; (obtain ⟨v, hv⟩ := I6.cells z h; rw [hv] at e; cases e); rw [List.mem_singleton.mp h]) hTab) (fun _ q hq => by kopn_word) rfl fun f c' ctv ps' h₃ tk₄ F₃ N₃ hT₃ hRec lf => ?_
    have I7 := I6.stepT Ld F₃ N₃ (by kopn_word) hT₃
    have hf := N₃ _ (.head _)
    clear I6 Ld F N F₃ N₃ hT₃ lf hTab; try clear hy210
    clear ps; try clear rs
    obtain ⟨hb1, x5, ⟨nr, hb3⟩, hbr, hbs⟩ := id I7.st.buf
    refine exE5 x5 fun t1 t2 t3 tm tn hb2 => ?_
    clear x5
    have F := I7.fr
    have N := I7.own
    w_strict k_steps
    have hcT := (I7.own (L' + 1 + 1 + 1 + 1, oTi) (by k_mem))
    have hcB := (I7.own (L' + 1, oBu) (by k_mem))
    have hOs : ∀ e : Env, e.frame = some L' → Off base (e :: fs) [L' + 1 + 1 + 1 + 1, L' + 1, b, dx, rl] := fun e he => .cons (off_of B he hcT.2.2 hcT.2.1) (.cons (off_of B he hcB.2.2 hcB.2.1) (I7.off B he (ls := [b, dx, rl]) (by first | kopn_word | simp)))
    have M5 : ∀ e : Env, e.frame = some L' → e.scope.kind = .function → Amb p loose mean mg mb w (dp + 1) gs (un + 3) base (e :: fs) h₃ 35 := fun e h1 h2 => (M.deeper B I7.fr h1 h2).less (by decide)
    clear F N
    cases hi : atOf rows nm with
    | none =>
      refine .mk (wpAny_call (show codeAny (model prog w) (AA (dp + 1) (_ :: fs) gs (un + 3)) _ _ _ from heard_bad (k := 33) (f := f) (nm := nm.getD #[]) (M5 _ rfl rfl) ⟨_, _, _, _, hf.1⟩ ?_ ?_))
      · intro R' s' env' kp henv M' post'
        exact lam_drop_no (M'.less (by decide)) (I7.st.buf.chg (Δ := []) (fun a o e _ => kp a o e) (fun h => nomatch h) (fun h => nomatch h) (fun h => nomatch h) (fun _ h => nomatch h)) (off_push (hOs _ rfl) (by exact (all1 ⟨_, hcT.1⟩ (all1 ⟨_, hcB.1⟩ (all1 ⟨_, hb1⟩ (all1 ⟨_, hb2⟩ (all1 ⟨_, hb3⟩ all0)))))) henv) (kp _ _ hcT.1) (kp _ _ hcB.1) dTi dBu (kp _ _ hf.1) (codeRec_keeps kp hRec) hnv hi post'
      · intro Th t₂ t₃ n₂ h₅ tk₅ Sl hTh hTn
        obtain ⟨g', Tg, B', I8, tn⟩ := I7.turned B rfl Sl NF
        have hTg : g'.get? Th = none ∧ Th ≠ L' := have x := fresh_g I7.fr hTn; ⟨Tg.none_ _ x.1, x.2⟩
        clear hcT hcB hOs M5 hf hb1 hb2 hb3 hbr hbs I7 hRec Sl hTn; try clear hcN
        clear tn
        obtain rfl : va = .none := by rw [hi] at hva; exact hva
        cases nm with
        | none =>
          obtain rfl : nv = .none := hnv
          have hTh : Heap.get? h₅ Th = some (tup2 (.str (Str.ofString "none") t₂) (.bytes #[] t₃) n₂) := hTh
          clear B X T
          obtain ⟨rs, Ld⟩ := I8.moreX [(Th, tup2 (.str (Str.ofString "none") t₂) (.bytes #[] t₃) n₂)] (by first | kopn_word | simp [hTh]) (by first | kopn_word | simp [hTg])
          have F := I8.fr
          have N := Ld.news
          simp only [List.cons_append, List.nil_append] at N
          w_strict k_steps
          rename Fr _ _ _ _ => F
          rename News _ _ _ _ => N
          refine .mk ?_
          refine tup_true (N (Th, _) (by k_mem)).1 (N (_, _) (.head _)).1 (by have := M.uni; show un + 3 < 9900; omega) (eqa_str _ _ _) (eqa_bytes _ _ _) ?_
          show R _ _
          exact finT _ _ _ _ _ _ _ _ _ _ _ Tg B' (I8.step Ld [(L' + 1 + 1 + 1 + 1, _), (L' + 1 + 1 + 1, _), (L' + 1 + 1, _), (L' + 1, _)] F N (fun _ hq => .tail _ (hq)) (by rfl) (by exact (all1 ⟨_, by assumption⟩ (all1 ⟨_, by assumption⟩ (all1 ⟨_, by assumption⟩ (all1 ⟨_, by assumption⟩ all0)))))) Out.same
        | some x =>
          obtain ⟨tx, rfl⟩ : ∃ t, nv = .bytes x t := hnv
          have hTh : Heap.get? h₅ Th = some (tup2 (.str (Str.ofString "none") t₂) (.bytes x t₃) n₂) := hTh
          clear B X T
          obtain ⟨rs, Ld⟩ := I8.moreX [(Th, tup2 (.str (Str.ofString "none") t₂) (.bytes x t₃) n₂)] (by first | kopn_word | simp [hTh]) (by first | kopn_word | simp [hTg])
          have F := I8.fr
          have N := Ld.news
          simp only [List.cons_append, List.nil_append] at N
          w_strict k_steps
          rename Fr _ _ _ _ => F
          rename News _ _ _ _ => N
          refine .mk ?_
          refine tup_true (N (Th, _) (by k_mem)).1 (N (_, _) (.head _)).1 (by have := M.uni; show un + 3 < 9900; omega) (eqa_str _ _ _) (eqa_bytes _ _ _) ?_
          show R _ _
          exact finT _ _ _ _ _ _ _ _ _ _ _ Tg B' (I8.step Ld [(L' + 1 + 1 + 1 + 1, _), (L' + 1 + 1 + 1, _), (L' + 1 + 1, _), (L' + 1, _)] F N (fun _ hq => .tail _ (hq)) (by rfl) (by exact (all1 ⟨_, by assumption⟩ (all1 ⟨_, by assumption⟩ (all1 ⟨_, by assumption⟩ (all1 ⟨_, by assumption⟩ all0)))))) Out.same
    | some i =>
      refine .mk (wpAny_call (show codeAny (model prog w) (AA (dp + 1) (_ :: fs) gs (un + 3)) _ _ _ from heard_ok (k := 33) (f := f) (cells := [(rl, W.listOf bvs.toArray nr)]) (Post := fun v h' => v = .none ∧ ∃ vs', BufAt w h' b dx rl vs' (rows.eraseIdx i) most next) (M5 _ rfl rfl) (by first | kopn_word | simp [hb3]) (I7.off B rfl (by first | kopn_word | simp)) ⟨_, _, _, _, hf.1⟩ ?_ ?_ ?_))
      · simp only [List.map_cons, List.map_nil, List.mem_singleton]
        exact ne_get hf.1 hb3 (by first | kopn_word | simp)
      · intro R' s' env' kp henv M' post'
        exact lam_drop (M'.less (by decide)) (I7.st.buf.chg (Δ := []) (fun a o e _ => kp a o e) (fun h => nomatch h) (fun h => nomatch h) (fun h => nomatch h) (fun _ h => nomatch h)) (off_push (hOs _ rfl) (by exact (all1 ⟨_, hcT.1⟩ (all1 ⟨_, hcB.1⟩ (all1 ⟨_, hb1⟩ (all1 ⟨_, hb2⟩ (all1 ⟨_, hb3⟩ all0)))))) henv) (kp _ _ hcT.1) (kp _ _ hcB.1) dTi dBu (kp _ _ hf.1) (codeRec_keeps kp hRec) hnd hnv hi fun h' tk vs' Bu' C => post' _ _ _ ⟨rfl, vs', Bu'⟩ C
      · rintro _ h₄ Th t₂ n₂ h₅ tk₅ ⟨rfl, vs', Bu'⟩ C1 C2 hTh hTn hD
        have I8 := I7.heardBuf (by first | kopn_word | simp) Bu' (.inl rfl) C1 C2 hD
        have hTg := I7.heardT (by first | kopn_word | simp) hTn
        clear hcT hcB hOs M5 hf hb1 hb2 hb3 hbr hbs C1 C2 hD hTn Bu' I7 hRec; try clear hcN
        obtain ⟨⟨od, tm', tn', hv1, hv2⟩, ⟨nl, hv3⟩, hvr, hvn, hvs⟩ := id I8.st.view
        obtain ⟨rs, Ld⟩ := I8.moreX [(Th, tup2 (.str (Str.ofString "told") t₂) .none n₂), (lv, W.listOf vvs.toArray nl), (dv, od)] (by exact (all1 hTh (all1 hv3 (all1 hv1 all0)))) (by exact (all1 hTg (all1 (I8.hid lv (by first | kopn_word | simp)) (all1 (I8.hid dv (by first | kopn_word | simp)) all0))))
        have F := I8.fr
        have N := Ld.news
        simp only [List.cons_append, List.nil_append] at N
        have hr5x114 : ∀ p ∈ rs, p.1 ≠ dv := Ld.off (by kopn_word)
        have hydv : @Ne Nat dv (L' + 1 + 1 + 1 + 1) ∧ @Ne Nat dv (L' + 1 + 1 + 1) ∧ @Ne Nat dv (L' + 1 + 1) ∧ @Ne Nat dv (L' + 1) := I8.ne4 dv (by first | kopn_word | simp)
        have hq1 := dict_ne_tup hv1 hv2 hTh
        have hq3 := dict_ne_list hv1 hv2 hv3
        obtain ⟨ti, rfl⟩ : ∃ t, va = .int i t := by rw [hi] at hva; exact hva
        have hvl : vvs.length ≤ 1000 := by have := hvr.length; omega
        w_strict k_steps
        rename Fr _ _ _ _ => F
        rename News _ _ _ _ => N
        refine .mk (kms_slice_lit (s := ⟨_, _, _, _, _⟩) F N (isl N (by k_mem : (lv, _) ∈ _)) (by constructor) (by constructor) (pick_to vvs i) (fun A1 h₆ F₆ N₆ lA => ?_) (by with_unfolding_all rfl) (by intro _; with_unfolding_all rfl) (by rw [sizeLine_eq]; simp; omega))
        clear F N
        k_lt lA
        w_strict k_steps
        rename Fr _ _ _ _ => F
        rename News _ _ _ _ => N
        refine .mk (kms_slice_lit (s := ⟨_, _, _, _, _⟩) F N (isl N (by k_mem : (lv, _) ∈ _)) (by constructor) (by constructor) (pick_from vvs (by omega : (0 : Int) ≤ (i : Int) + 1)) (fun A2 h₇ F₇ N₇ lB => ?_) (by with_unfolding_all rfl) (by intro _; with_unfolding_all rfl) (by rw [sizeLine_eq]; simp; omega))
        clear F N
        k_lt lB
        w_strict k_steps
        rename Fr _ _ _ _ => F
        rename News _ _ _ _ => N
        refine .mk (add_at F N (isl N (by k_mem : (A1, _) ∈ _)) (isl N (by k_mem : (A2, _) ∈ _)) (by simp; omega) fun T' h₈ F₈ N₈ lT => ?_)
        clear F N
        have hfr' := Ld.freshT (N₈ _ (.head _)).2.2 (N₈ _ (.head _)).2.1 (fun q hq => lT q ((by kopn_word : ∀ q ∈ _, q ∈ _) q hq))
        k_lt lT
        w_strict k_steps
        rename Fr _ _ _ _ => F
        rename News _ _ _ _ => N
        rename Obj.IsDictOf _ _ _ => D₂
        have e1 : ((i : Int) + 1).toNat = i + 1 := by omega
        rw [e1] at N
        have C9 := I8.chgZ (Y := [(Th, tup2 (.str (Str.ofString "told") t₂) .none n₂), (lv, W.listOf vvs.toArray nl)]) (Z := [(dv, od)]) Ld F N (by kopn_word)
        have N4 := news4 N (by k_mem : (L' + 1 + 1 + 1 + 1, oTi) ∈ _) (by k_mem : (L' + 1 + 1 + 1, oNe) ∈ _) (by k_mem : (L' + 1 + 1, oKe) ∈ _) (by k_mem : (L' + 1, oBu) ∈ _)
        have V9 : VAt prog w _ dv T' (vvs.take i ++ vvs.drop (i + 1)) (rows.eraseIdx i) most next := ⟨⟨_, _, _, (N (dv, _) (by k_mem)).1, D₂⟩, ⟨_, (N (T', _) (by k_mem)).1⟩, pr_cut i (rows_chg hvr C9 I8.rowsFree), hvn, by have := List.length_eraseIdx_le rows i; omega⟩
        show R (.ok (.ret (.bool (Str.ofString "told" == Str.ofString "told")))) _
        rw [show (Str.ofString "told" == Str.ofString "told") = true by decide]
        exact fin _ _ _ _ _ _ _ _ _ _ (I8.stepV C9 (by first | kopn_word | simp) F N4 rfl (by exact (all1 ⟨_, dTi⟩ (all1 ⟨_, dNe⟩ (all1 ⟨_, dKe⟩ (all1 ⟨_, dBu⟩ all0))))) V9 (fun v hv => .inl (by rcases List.mem_append.mp hv with h | h; exact List.mem_of_mem_take h; exact List.mem_of_mem_drop h)) (.inr hfr')) (Out.drop i)
  · refine cut_next (fun s' => ∃ h tk m, s' = { s with heap := h, toks := tk } ∧ Inn prog w g L' h (kstB m [(Str.ofString "deck", .ref d), (Str.ofString "v", .ref dv), (Str.ofString "way", .int 4 t)]) [(L' + 1 + 1 + 1 + 1, oTi), (L' + 1 + 1 + 1, oNe), (L' + 1 + 1, oKe), (L' + 1, oBu)] qL d l b dx rl dv lv 210 bvs vvs rows rows most next next) ?_ ?_
    · obtain ⟨rs, Ld⟩ := I2.more [] (fun _ h => nomatch h) (by first | kopn_word | simp)
      have F := I2.fr
      have N := Ld.news
      simp only [List.cons_append, List.nil_append, List.append_nil] at N
      w_strict k_steps
      rename Fr _ _ _ _ => F
      rename News _ _ _ _ => N
      exact .mk (exI3 _ _ _ ⟨rfl, I2.step Ld [(L' + 1 + 1 + 1 + 1, _), (L' + 1 + 1 + 1, _), (L' + 1 + 1, _), (L' + 1, _)] (fr_kst3 F rfl rfl rfl) N (fun _ hq => .tail _ (hq)) (by rfl) (by exact (all1 ⟨_, by assumption⟩ (all1 ⟨_, by assumption⟩ (all1 ⟨_, by assumption⟩ (all1 ⟨_, by assumption⟩ all0)))))⟩)
    clear I2
    refine fun s' hz => exE3 hz fun h₂ tk₃ m hx => ?_
    clear hz
    obtain ⟨rfl, I3⟩ := hx
    refine cut_next (fun s' => ∃ h tk m, s' = { s with heap := h, toks := tk } ∧ Inn prog w g L' h (kstB m [(Str.ofString "deck", .ref d), (Str.ofString "v", .ref dv), (Str.ofString "way", .int 4 t)]) [(L' + 1 + 1 + 1 + 1, oTi), (L' + 1 + 1 + 1, oNe), (L' + 1 + 1, oKe), (L' + 1, oBu)] qL d l b dx rl dv lv 210 bvs vvs rows rows most next next) ?_ ?_
    · obtain ⟨rs, Ld⟩ := I3.more [] (fun _ h => nomatch h) (by first | kopn_word | simp)
      have F := I3.fr
      have N := Ld.news
      simp only [List.cons_append, List.nil_append, List.append_nil] at N
      w_strict k_steps
      rename Fr _ _ _ _ => F
      rename News _ _ _ _ => N
      exact .mk (exI3 _ _ _ ⟨rfl, I3.step Ld [(L' + 1 + 1 + 1 + 1, _), (L' + 1 + 1 + 1, _), (L' + 1 + 1, _), (L' + 1, _)] (fr_kst3 F rfl rfl rfl) N (fun _ hq => hq) (by rfl) (by exact (all1 ⟨_, by assumption⟩ (all1 ⟨_, by assumption⟩ (all1 ⟨_, by assumption⟩ (all1 ⟨_, by assumption⟩ all0)))))⟩)
    clear I3
    refine fun s' hz => exE3 hz fun h₂ tk₃ m hx => ?_
    clear hz
    obtain ⟨rfl, I4⟩ := hx
    refine cut_next (fun s' => ∃ h tk m oTi nm nv, s' = { s with heap := h, toks := tk } ∧ Inn prog w g L' h (kstB m [(Str.ofString "deck", .ref d), (Str.ofString "v", .ref dv), (Str.ofString "way", .int 4 t)]) [(L' + 1 + 1 + 1 + 1, oTi), (L' + 1 + 1 + 1, oNe), (L' + 1 + 1, oKe), (L' + 1, oBu)] qL d l b dx rl dv lv 210 bvs vvs rows rows most next next ∧ oTi.data = .cell (some nv) ∧ optV nm nv ∧ (∀ x, nm = some x → x ∈ titles rows) ∧ nm ≠ none) ?_ ?_
    · obtain ⟨rs, Ld⟩ := I4.more [] (fun _ h => nomatch h) (by first | kopn_word | simp)
      have F := I4.fr
      have N := Ld.news
      simp only [List.cons_append, List.nil_append, List.append_nil] at N
      w_strict k_steps
      rename Fr _ _ _ _ => F
      rename News _ _ _ _ => N
      have I4t := I4.step Ld [(L' + 1 + 1 + 1 + 1, _), (L' + 1 + 1 + 1, _), (L' + 1 + 1, _), (L' + 1, _)] F N (fun _ hq => hq) (by rfl) (by exact (all1 ⟨_, by assumption⟩ (all1 ⟨_, by assumption⟩ (all1 ⟨_, by assumption⟩ (all1 ⟨_, by assumption⟩ all0)))))
      clear I4 Ld N F
      have F := I4t.fr
      refine .mk (wpAny_call (title_spec ((M.deeper B F rfl rfl).less (by decide)) I4t.st.deck I4t.st.view (I4t.off B rfl (by first | kopn_word | simp)) hlt fun nm tn' h₃ tk₄ hnm D₃ C₃ => ?_))
      have I5 := I4t.deckC D₃ C₃
      clear I4t F D₃ C₃
      try dsimp only
      obtain ⟨rs, Ld⟩ := I5.more [] (fun _ h => nomatch h) (by first | kopn_word | simp)
      have F := I5.fr
      have N := Ld.news
      simp only [List.cons_append, List.nil_append, List.append_nil] at N
      have hr0x127 : ∀ p ∈ rs, p.1 ≠ L' + 1 + 1 + 1 + 1 := Ld.off (by kopn_word)
      w_strict k_steps
      rename Fr _ _ _ _ => F
      rename News _ _ _ _ => N
      exact .mk (exI6 _ _ _ _ (some nm) (.bytes nm tn') ⟨rfl, I5.step Ld [(L' + 1 + 1 + 1 + 1, _), (L' + 1 + 1 + 1, _), (L' + 1 + 1, _), (L' + 1, _)] (fr_kst3 F rfl rfl rfl) N (fun _ hq => hq) (by rfl) (by exact (all1 ⟨_, by assumption⟩ (all1 ⟨_, by assumption⟩ (all1 ⟨_, by assumption⟩ (all1 ⟨_, by assumption⟩ all0))))), by assumption, ⟨_, rfl⟩, (fun x e => by cases e; exact hnm), (fun h => nomatch h)⟩)
    clear I4
    skip
    refine fun s' hz => exE6 hz fun h₂ tk₃ m oTi nm nv hx => ?_
    clear hz
    obtain ⟨rfl, I5, dTi, hnv, hnt, hn4⟩ := hx
    refine cut_next (fun s' => ∃ h tk m va, s' = { s with heap := h, toks := tk } ∧ Inn prog w g L' h (kstB m [(Str.ofString "deck", .ref d), (Str.ofString "v", .ref dv), (Str.ofString "way", .int 4 t), (Str.ofString "at", va)]) [(L' + 1 + 1 + 1 + 1, oTi), (L' + 1 + 1 + 1, oNe), (L' + 1 + 1, oKe), (L' + 1, oBu)] qL d l b dx rl dv lv 210 bvs vvs rows rows most next next ∧ optN (atOf rows nm) va) ?_ ?_
    · obtain ⟨rs, Ld⟩ := I5.more [] (fun _ h => nomatch h) (by first | kopn_word | simp)
      have F := I5.fr
      have N := Ld.news
      simp only [List.cons_append, List.nil_append, List.append_nil] at N
      w_strict k_steps
      rename Fr _ _ _ _ => F
      rename News _ _ _ _ => N
      have I5t := I5.step Ld [(L' + 1 + 1 + 1 + 1, _), (L' + 1 + 1 + 1, _), (L' + 1 + 1, _), (L' + 1, _)] F N (fun _ hq => hq) (by rfl) (by exact (all1 ⟨_, by assumption⟩ (all1 ⟨_, by assumption⟩ (all1 ⟨_, by assumption⟩ (all1 ⟨_, by assumption⟩ all0)))))
      clear I5 Ld N F
      have F := I5t.fr
      refine .mk (wpAny_call (at_any (nm := nm) ((M.deeper B F rfl rfl).less (by decide)) I5t.st.view (I5t.off B rfl (by first | kopn_word | simp)) hnv fun va h₃ tk₄ hva C₃ => ?_))
      have I6 := I5t.sameC C₃
      clear I5t F C₃
      try dsimp only
      obtain ⟨rs, Ld⟩ := I6.more [] (fun _ h => nomatch h) (by first | kopn_word | simp)
      have F := I6.fr
      have N := Ld.news
      simp only [List.cons_append, List.nil_append, List.append_nil] at N
      w_strict k_steps
      rename Fr _ _ _ _ => F
      rename News _ _ _ _ => N
      exact .mk (exI4 _ _ _ va ⟨rfl, I6.step Ld [(L' + 1 + 1 + 1 + 1, _), (L' + 1 + 1 + 1, _), (L' + 1 + 1, _), (L' + 1, _)] (fr_kst4 F rfl rfl rfl rfl) N (fun _ hq => hq) (by rfl) (by exact (all1 ⟨_, by assumption⟩ (all1 ⟨_, by assumption⟩ (all1 ⟨_, by assumption⟩ (all1 ⟨_, by assumption⟩ all0))))), hva⟩)
    clear I5
    refine fun s' hz => exE4 hz fun h₂ tk₃ m va hx => ?_
    clear hz
    obtain ⟨rfl, I6, hva⟩ := hx
    obtain ⟨x, rfl⟩ : ∃ x, nm = some x := by cases nm with | none => exact absurd rfl hn4 | some x => exact ⟨x, rfl⟩
    obtain ⟨tx, rfl⟩ : ∃ t, nv = .bytes x t := hnv
    refine cut_next (fun s' => ∃ h tk m, s' = { s with heap := h, toks := tk } ∧ Inn prog w g L' h (kstB m [(Str.ofString "deck", .ref d), (Str.ofString "v", .ref dv), (Str.ofString "way", .int 4 t), (Str.ofString "at", va)]) [(L' + 1 + 1 + 1 + 1, oTi), (L' + 1 + 1 + 1, oNe), (L' + 1 + 1, oKe), (L' + 1, oBu)] qL d l b dx rl dv lv 210 bvs vvs rows rows most next next) ?_ ?_
    · obtain ⟨rs, Ld⟩ := I6.more [] (fun _ h => nomatch h) (by first | kopn_word | simp)
      have F := I6.fr
      have N := Ld.news
      simp only [List.cons_append, List.nil_append, List.append_nil] at N
      w_strict k_steps
      rename Fr _ _ _ _ => F
      rename News _ _ _ _ => N
      exact .mk (exI3 _ _ _ ⟨rfl, I6.step Ld [(L' + 1 + 1 + 1 + 1, _), (L' + 1 + 1 + 1, _), (L' + 1 + 1, _), (L' + 1, _)] (fr_kst4 F rfl rfl rfl rfl) N (fun _ hq => hq) (by rfl) (by exact (all1 ⟨_, by assumption⟩ (all1 ⟨_, by assumption⟩ (all1 ⟨_, by assumption⟩ (all1 ⟨_, by assumption⟩ all0)))))⟩)
    clear I6
    refine fun s' hz => exE3 hz fun h₂ tk₃ m hx => ?_
    clear hz
    obtain ⟨rfl, I6⟩ := hx
    refine cut_next (fun s' => ∃ h tk m, s' = { s with heap := h, toks := tk } ∧ Inn prog w g L' h (kstB m [(Str.ofString "deck", .ref d), (Str.ofString "v", .ref dv), (Str.ofString "way", .int 4 t), (Str.ofString "at", va)]) [(L' + 1 + 1 + 1 + 1, oTi), (L' + 1 + 1 + 1, oNe), (L' + 1 + 1, oKe), (L' + 1, oBu)] qL d l b dx rl dv lv 210 bvs vvs rows rows most next next) ?_ ?_
    · obtain ⟨rs, Ld⟩ := I6.more [] (fun _ h => nomatch h) (by first | kopn_word | simp)
      have F := I6.fr
      have N := Ld.news
      simp only [List.cons_append, List.nil_append, List.append_nil] at N
      w_strict k_steps
      rename Fr _ _ _ _ => F
      rename News _ _ _ _ => N
      exact .mk (exI3 _ _ _ ⟨rfl, I6.step Ld [(L' + 1 + 1 + 1 + 1, _), (L' + 1 + 1 + 1, _), (L' + 1 + 1, _), (L' + 1, _)] (fr_kst4 F rfl rfl rfl rfl) N (fun _ hq => hq) (by rfl) (by exact (all1 ⟨_, by assumption⟩ (all1 ⟨_, by assumption⟩ (all1 ⟨_, by assumption⟩ (all1 ⟨_, by assumption⟩ all0)))))⟩)
    clear I6
    refine fun s' hz => exE3 hz fun h₂ tk₃ m hx => ?_
    clear hz
    obtain ⟨rfl, I6⟩ := hx
    refine cut_next (fun s' => ∃ h tk m oNe nw tw, s' = { s with heap := h, toks := tk } ∧ Inn prog w g L' h (kstB m [(Str.ofString "deck", .ref d), (Str.ofString "v", .ref dv), (Str.ofString "way", .int 4 t), (Str.ofString "at", va)]) [(L' + 1 + 1 + 1 + 1, oTi), (L' + 1 + 1 + 1, oNe), (L' + 1 + 1, oKe), (L' + 1, oBu)] qL d l b dx rl dv lv 210 bvs vvs rows rows most next next ∧ oNe.data = .cell (some (.bytes nw tw)) ∧ nw ∈ titles rows) ?_ ?_
    · obtain ⟨rs, Ld⟩ := I6.more [] (fun _ h => nomatch h) (by first | kopn_word | simp)
      have F := I6.fr
      have N := Ld.news
      simp only [List.cons_append, List.nil_append, List.append_nil] at N
      w_strict k_steps
      rename Fr _ _ _ _ => F
      rename News _ _ _ _ => N
      have I6t := I6.step Ld [(L' + 1 + 1 + 1 + 1, _), (L' + 1 + 1 + 1, _), (L' + 1 + 1, _), (L' + 1, _)] F N (fun _ hq => hq) (by rfl) (by exact (all1 ⟨_, by assumption⟩ (all1 ⟨_, by assumption⟩ (all1 ⟨_, by assumption⟩ (all1 ⟨_, by assumption⟩ all0)))))
      clear I6 Ld N F
      have F := I6t.fr
      refine .mk (wpAny_call (title_spec ((M.deeper B F rfl rfl).less (by decide)) I6t.st.deck I6t.st.view (I6t.off B rfl (by first | kopn_word | simp)) hlt fun nw tw h₃ tk₄ hnw D₃ C₃ => ?_))
      have I7 := I6t.deckC D₃ C₃
      clear I6t F D₃ C₃
      try dsimp only
      obtain ⟨rs, Ld⟩ := I7.more [] (fun _ h => nomatch h) (by first | kopn_word | simp)
      have F := I7.fr
      have N := Ld.news
      simp only [List.cons_append, List.nil_append, List.append_nil] at N
      have hr1x152 : ∀ p ∈ rs, p.1 ≠ L' + 1 + 1 + 1 := Ld.off (by kopn_word)
      w_strict k_steps
      rename _ = Data.cell (some (Value.bytes nw tw)) => dNe2
      rename Fr _ _ _ _ => F
      rename News _ _ _ _ => N
      exact .mk (exI6 _ _ _ _ nw tw ⟨rfl, I7.step Ld [(L' + 1 + 1 + 1 + 1, _), (L' + 1 + 1 + 1, _), (L' + 1 + 1, _), (L' + 1, _)] (fr_kst4 F rfl rfl rfl rfl) N (fun _ hq => hq) (by rfl) (by exact (all1 ⟨_, by assumption⟩ (all1 ⟨_, by assumption⟩ (all1 ⟨_, by assumption⟩ (all1 ⟨_, by assumption⟩ all0))))), dNe2, hnw⟩)
    clear I6
    refine fun s' hz => exE6 hz fun h₂ tk₃ m oNe nw tw hx => ?_
    clear hz
    obtain ⟨rfl, I8, dNe, hnw⟩ := hx
    obtain ⟨ps, hTab⟩ := I8.st.tab
    obtain ⟨rs, Ld⟩ := I8.more [(210, tabObj ps)] (by first | kopn_word | simp [hTab.1]) (by first | kopn_word | simp)
    have F := I8.fr
    have N := Ld.news
    simp only [List.cons_append, List.nil_append] at N
    have hr4x159 : ∀ p ∈ rs, p.1 ≠ 210 := Ld.off (by kopn_word)
    have hy210 : @Ne Nat 210 (L' + 1 + 1 + 1 + 1) ∧ @Ne Nat 210 (L' + 1 + 1 + 1) ∧ @Ne Nat 210 (L' + 1 + 1) ∧ @Ne Nat 210 (L' + 1) := I8.ne4 210 (by first | kopn_word | simp)
    w_strict k_steps
    rename Fr _ _ _ _ => F
    rename News _ _ _ _ => N
    refine .mk (kla_eval rfl ?_)
    refine lam_make2 (qual := qL) (rs := rs) F N T (C.keeps B.stays) rfl (by k_updF) hTab.2.1 (Ld.codeKept I8.fr (fun z hz vs e => by rcases List.mem_append.mp hz with h | h; (obtain ⟨v, hv⟩ := I8.cells z h; rw [hv] at e; cases e); rw [List.mem_singleton.mp h]) hTab) (fun _ q hq => by kopn_word) rfl fun f c' ctv ps' h₃ tk₄ F₃ N₃ hT₃ hRec lf => ?_
    have I9 := I8.stepT Ld F₃ N₃ (by kopn_word) hT₃
    have hf := N₃ _ (.head _)
    clear I8 Ld F N F₃ N₃ hT₃ lf hTab; try clear hy210
    clear ps; try clear rs
    obtain ⟨hb1, x5, ⟨nr, hb3⟩, hbr, hbs⟩ := id I9.st.buf
    refine exE5 x5 fun t1 t2 t3 tm tn hb2 => ?_
    clear x5
    have F := I9.fr
    have N := I9.own
    w_strict k_steps
    have hcT := (I9.own (L' + 1 + 1 + 1 + 1, oTi) (by k_mem))
    have hcN := (I9.own (L' + 1 + 1 + 1, oNe) (by k_mem))
    have hcB := (I9.own (L' + 1, oBu) (by k_mem))
    have hOs : ∀ e : Env, e.frame = some L' → Off base (e :: fs) [L' + 1 + 1 + 1 + 1, L' + 1, b, dx, rl] := fun e he => .cons (off_of B he hcT.2.2 hcT.2.1) (.cons (off_of B he hcB.2.2 hcB.2.1) (I9.off B he (ls := [b, dx, rl]) (by first | kopn_word | simp)))
    have M5 : ∀ e : Env, e.frame = some L' → e.scope.kind = .function → Amb p loose mean mg mb w (dp + 1) gs (un + 3) base (e :: fs) h₃ 35 := fun e h1 h2 => (M.deeper B I9.fr h1 h2).less (by decide)
    clear F N
    cases hi : atOf rows (some x) with
    | none =>
      obtain rfl : va = .none := by rw [hi] at hva; exact hva
      refine .mk (wpAny_call (show codeAny (model prog w) (AA (dp + 1) (_ :: fs) gs (un + 3)) _ _ _ from heard_bad (k := 33) (f := f) (nm := x) (M5 _ rfl rfl) ⟨_, _, _, _, hf.1⟩ ?_ ?_))
      · intro R' s' env' kp henv M' post'
        exact lam_rename_no (M'.less (by decide)) (I9.st.buf.chg (Δ := []) (fun a o e _ => kp a o e) (fun h => nomatch h) (fun h => nomatch h) (fun h => nomatch h) (fun _ h => nomatch h)) (off_push (.cons (off_of B rfl hcT.2.2 hcT.2.1) (.cons (off_of B rfl hcN.2.2 hcN.2.1) ((hOs _ rfl).sub (by simp +contextual)))) (by exact (all1 ⟨_, hcT.1⟩ (all1 ⟨_, hcN.1⟩ (all1 ⟨_, hcB.1⟩ (all1 ⟨_, hb1⟩ (all1 ⟨_, hb2⟩ (all1 ⟨_, hb3⟩ all0))))))) henv) (kp _ _ hcT.1) (kp _ _ hcN.1) (kp _ _ hcB.1) dTi dNe dBu (kp _ _ hf.1) (codeRec_keeps kp hRec) hi post'
      intro Th t₂ t₃ n₂ h₅ tk₅ Sl hTh hTn
      obtain ⟨g', Tg, B', I10, tn⟩ := I9.turned B rfl Sl NF
      have hTg : g'.get? Th = none ∧ Th ≠ L' := have x := fresh_g I9.fr hTn; ⟨Tg.none_ _ x.1, x.2⟩
      clear hcT hcB hOs M5 hf hb1 hb2 hb3 hbr hbs I9 hRec Sl hTn; try clear hcN
      clear tn B X T
      obtain ⟨rs, Ld⟩ := I10.moreX [(Th, tup2 (.str (Str.ofString "none") t₂) (.bytes x t₃) n₂)] (by first | kopn_word | simp [hTh]) (by first | kopn_word | simp [hTg])
      have F := I10.fr
      have N := Ld.news
      simp only [List.cons_append, List.nil_append] at N
      w_strict k_steps
      rename Fr _ _ _ _ => F
      rename News _ _ _ _ => N
      refine .mk ?_
      refine tup_true (N (Th, _) (by k_mem)).1 (N (_, _) (.head _)).1 (by have := M.uni; show un + 3 < 9900; omega) (eqa_str _ _ _) (eqa_bytes _ _ _) ?_
      show R _ _
      exact finT _ _ _ _ _ _ _ _ _ _ _ Tg B' (I10.step Ld [(L' + 1 + 1 + 1 + 1, _), (L' + 1 + 1 + 1, _), (L' + 1 + 1, _), (L' + 1, _)] F N (fun _ hq => .tail _ (hq)) (by rfl) (by exact (all1 ⟨_, by assumption⟩ (all1 ⟨_, by assumption⟩ (all1 ⟨_, by assumption⟩ (all1 ⟨_, by assumption⟩ all0)))))) Out.same
    | some i =>
      obtain ⟨ti, rfl⟩ : ∃ t, va = .int i t := by rw [hi] at hva; exact hva
      obtain ⟨r, hr⟩ := row_at hnd hi
      refine .mk (wpAny_call (show codeAny (model prog w) (AA (dp + 1) (_ :: fs) gs (un + 3)) _ _ _ from heard_ok (k := 33) (f := f) (cells := [(dx, dictOf (bufEs w t1 t2 t3 (.int most tm) (.ref rl) (.int next tn)) 3), (rl, W.listOf bvs.toArray nr)]) (Post := fun v h' => v = .none ∧ ∃ rl' vs', BufAt w h' b dx rl' vs' (renOut rows x nw) most next ∧ (rl' = rl ∨ Heap.get? h₃ rl' = none)) (M5 _ rfl rfl) (by first | kopn_word | simp [hb2, hb3]) (I9.off B rfl (by first | kopn_word | simp)) ⟨_, _, _, _, hf.1⟩ ?_ ?_ ?_))
      · simp only [List.map_cons, List.map_nil, List.mem_cons, List.not_mem_nil, or_false, not_or]
        exact ⟨ne_get hf.1 hb2 (by first | kopn_word | simp), ne_get hf.1 hb3 (by first | kopn_word | simp)⟩
      · intro R' s' env' kp henv M' post'
        exact lam_rename (M'.less (by decide)) (I9.st.buf.chg (Δ := []) (fun a o e _ => kp a o e) (fun h => nomatch h) (fun h => nomatch h) (fun h => nomatch h) (fun _ h => nomatch h)) (off_push (.cons (off_of B rfl hcT.2.2 hcT.2.1) (.cons (off_of B rfl hcN.2.2 hcN.2.1) ((hOs _ rfl).sub (by simp +contextual)))) (by exact (all1 ⟨_, hcT.1⟩ (all1 ⟨_, hcN.1⟩ (all1 ⟨_, hcB.1⟩ (all1 ⟨_, hb1⟩ (all1 ⟨_, hb2⟩ (all1 ⟨_, hb3⟩ all0))))))) henv) (kp _ _ hcT.1) (kp _ _ hcN.1) (kp _ _ hcB.1) dTi dNe dBu (kp _ _ hf.1) (codeRec_keeps kp hRec) hnd hi hr fun h' tk rl' vs' Bu' hrl C => post' _ _ _ ⟨rfl, rl', vs', Bu', hrl.imp id fun e => fresh_back (Δ := []) (fun a o q _ => kp a o q) (fun _ h => nomatch h) e⟩ C
      rintro _ h₄ Th t₂ n₂ h₅ tk₅ ⟨rfl, rl', vs', Bu', hrl'⟩ C1 C2 hTh hTn hD
      have I10 := I9.heardBuf (by first | kopn_word | simp) Bu' hrl' C1 C2 hD
      have hTg := I9.heardT (by first | kopn_word | simp) hTn
      clear hcT hcB hOs M5 hf hb1 hb2 hb3 hbr hbs C1 C2 hD hTn Bu' I9 hRec; try clear hcN
      obtain ⟨⟨od, tm', tn', hv1, hv2⟩, ⟨nl, hv3⟩, hvr, hvn, hvs⟩ := id I10.st.view
      obtain ⟨v0, hv0, hlr⟩ := pr_get hvr i r hr
      obtain ⟨ra, x1, x2, n1, rfl, ha⟩ := id hlr
      have hra : ra ∈ addrs d l b dx rl' dv lv 210 vvs := List.mem_append_right _ (mem_refs (List.mem_of_getElem? hv0))
      have hydv : @Ne Nat dv (L' + 1 + 1 + 1 + 1) ∧ @Ne Nat dv (L' + 1 + 1 + 1) ∧ @Ne Nat dv (L' + 1 + 1) ∧ @Ne Nat dv (L' + 1) := I10.ne4 dv (by first | kopn_word | simp)
      have hylv : @Ne Nat lv (L' + 1 + 1 + 1 + 1) ∧ @Ne Nat lv (L' + 1 + 1 + 1) ∧ @Ne Nat lv (L' + 1 + 1) ∧ @Ne Nat lv (L' + 1) := I10.ne4 lv (by first | kopn_word | simp)
      have hyra : @Ne Nat ra (L' + 1 + 1 + 1 + 1) ∧ @Ne Nat ra (L' + 1 + 1 + 1) ∧ @Ne Nat ra (L' + 1 + 1) ∧ @Ne Nat ra (L' + 1) := I10.ne4 ra hra
      have hqc2 := tup_ne_own hTh (I10.own (L' + 1 + 1, oKe) (by k_mem)).1 dKe
      obtain ⟨rs, Ld⟩ := I10.moreX [(Th, tup2 (.str (Str.ofString "told") t₂) .none n₂), (lv, W.listOf vvs.toArray nl), (dv, od), (ra, W.listOf #[.bytes r.1 x1, .bytes r.2.1 x2, .bool (!r.2.2)] n1)] (by exact (all1 hTh (all1 hv3 (all1 hv1 (all1 ha all0))))) (by exact (all1 hTg (all1 (I10.hid lv (by first | kopn_word | simp)) (all1 (I10.hid dv (by first | kopn_word | simp)) (all1 (I10.hid ra hra) all0)))))
      have F := I10.fr
      have N := Ld.news
      simp only [List.cons_append, List.nil_append] at N
      have hr2x166 : ∀ p ∈ rs, p.1 ≠ L' + 1 + 1 := Ld.off (by kopn_word)
      have hvl : vvs.length ≤ 1000 := by have := hvr.length; omega
      w_strict k_steps
      rename Fr _ _ _ _ => F
      rename News _ _ _ _ => N
      refine .mk (item_at (isl N (by k_mem : (lv, _) ∈ _)) hv0 hvl ?_)
      w_strict k_steps
      rename Fr _ _ _ _ => F
      rename News _ _ _ _ => N
      rename _ = Data.cell (some (Value.ref ra)) => dKe
      obtain ⟨oK2, hoK, dKe⟩ := name_obj dKe
      subst hoK
      obtain ⟨h9, hh9⟩ := name_heap F
      subst hh9
      have hTh' := (N (Th, _) (by k_mem)).1
      have J := I10.step Ld [(L' + 1 + 1 + 1 + 1, _), (L' + 1 + 1 + 1, _), (L' + 1 + 1, _), (L' + 1, _)] F N (fun _ hq => hq) (by rfl) (by exact (all1 ⟨_, by assumption⟩ (all1 ⟨_, by assumption⟩ (all1 ⟨_, by assumption⟩ (all1 ⟨_, by assumption⟩ all0)))))
      clear hv1 hv2 hv3 hvr hvn hvs hlr ha hra hvl hTh Ld N F I10; try clear hq1; try clear hq2; try clear hq3; try clear hq4; try clear hq5; try clear hq6; try clear hydv; try clear hylv; try clear hyra; try clear hqc0; try clear hqc1; try clear hqc2; try clear hqc3
      have hTh := hTh'
      obtain ⟨⟨od, tm', tn', hv1, hv2⟩, ⟨nl, hv3⟩, hvr, hvn, hvs⟩ := id J.st.view
      have hlr := pr_at2 i hvr hv0 hr
      obtain ⟨_, x1, x2, n1, hre, ha⟩ := id hlr
      injection hre with hre
      subst hre
      have hra : ra ∈ addrs d l b dx rl' dv lv 210 vvs := List.mem_append_right _ (mem_refs (List.mem_of_getElem? hv0))
      have hq1 := dict_ne_list hv1 hv2 ha
      have hq2 := row_ne_list ha (fun _ => nofun) hv3 hvr
      have hq3 := dict_ne_list hv1 hv2 hv3
      have hq4 := dict_ne_tup hv1 hv2 hTh
      have hq6 := tup_ne_list hTh ha
      have hydv : @Ne Nat dv (L' + 1 + 1 + 1 + 1) ∧ @Ne Nat dv (L' + 1 + 1 + 1) ∧ @Ne Nat dv (L' + 1 + 1) ∧ @Ne Nat dv (L' + 1) := J.ne4 dv (by first | kopn_word | simp)
      have hyra : @Ne Nat ra (L' + 1 + 1 + 1 + 1) ∧ @Ne Nat ra (L' + 1 + 1 + 1) ∧ @Ne Nat ra (L' + 1 + 1) ∧ @Ne Nat ra (L' + 1) := J.ne4 ra hra
      obtain ⟨rs, Ld⟩ := J.moreX [(Th, tup2 (.str (Str.ofString "told") t₂) .none n₂), (lv, W.listOf vvs.toArray nl), (dv, od), (ra, W.listOf #[.bytes r.1 x1, .bytes r.2.1 x2, .bool (!r.2.2)] n1)] (by exact (all1 hTh (all1 hv3 (all1 hv1 (all1 ha all0))))) (by exact (all1 hTg (all1 (J.hid lv (by first | kopn_word | simp)) (all1 (J.hid dv (by first | kopn_word | simp)) (all1 (J.hid ra hra) all0)))))
      have F := J.fr
      have N := Ld.news
      simp only [List.cons_append, List.nil_append] at N
      have hr6x172 : ∀ p ∈ rs, p.1 ≠ dv := Ld.off (by kopn_word)
      have hr7 : ∀ p ∈ rs, p.1 ≠ ra := Ld.off (by kopn_word)
      have hvl : vvs.length ≤ 1000 := by have := hvr.length; omega
      refine ⟨fun v => decide (v = .ref ra) || pOf h9 (fun q => q.1 != nw) v, fun v y => y = v, lv, vvs, rfl, isl N (by k_mem : (lv, _) ∈ _), hvl, ?_, ?_, ?_⟩
      · intro C v s₃ m₃ E' hvm hn hm hk
        obtain ⟨q, hq, hTq⟩ := pr_mem hvr v hvm
        obtain ⟨a', y1, y2, n', rfl, ha'⟩ := id hTq
        have ha₃ := hk _ _ ha'
        refine tests1 (isTrue_or (wpAny_isTrue_Compare1 ?_ rfl))
        refine wpAny_Name (wpAny_loadName_local rfl rfl hn hm ?_) (by decide)
        refine wpAny_Name (wpAny_loadName_cell rfl rfl rfl ⟨oK2, hk _ _ (N (L' + 1 + 1, oK2) (by k_mem)).1, dKe⟩ ?_) (by decide)
        refine is_rows ha₃ (hk _ _ ha) (wpAny_truthy_bool ?_)
        by_cases e : a' = ra
        · rw [decide_eq_true e, if_pos rfl]
          exact ⟨by simp [e], _, _, rfl, fun _ _ e => e⟩
        · rw [decide_eq_false e, if_neg Bool.false_ne_true]
          refine isTrue_or (wpAny_isTrue_Compare1 ?_ rfl)
          refine ev_row rfl rfl hn hm (.inr (LRow.isList ha₃)) (by decide) (by decide) rfl fun tk => ?_
          refine wpAny_Name (wpAny_loadName_cell rfl rfl rfl ⟨oNe, hk _ _ (N (L' + 1 + 1 + 1, oNe) (by k_mem)).1, dNe⟩ ?_) (by decide)
          refine ne_bytes (wpAny_truthy_bool ?_)
          have hp : (decide (Value.ref a' = .ref ra) || pOf h9 (fun q => q.1 != nw) (.ref a')) = (q.1.toList != nw.toList) := by rw [pOf_l hTq, bne_toList, decide_eq_false (fun z => e (by injection z)), Bool.false_or]
          split
          · rename_i hc; refine ⟨?_, _, _, rfl, fun _ _ e => e⟩; show true = (decide (Value.ref a' = .ref ra) || pOf h9 (fun q => q.1 != nw) (.ref a')); rw [hp, hc]
          · rename_i hc; refine isTrue_or_nil ⟨?_, _, _, rfl, fun _ _ e => e⟩; show false = (decide (Value.ref a' = .ref ra) || pOf h9 (fun q => q.1 != nw) (.ref a')); rw [hp]; exact (Bool.eq_false_iff.mpr hc).symm
      · intro C v s₃ m₃ E' hvm hp hn hm hk
        exact wpAny_Name (wpAny_loadName_local rfl rfl hn hm ⟨rfl, _, _, rfl, fun _ _ e => e⟩) (by decide)
      intro D₁ h' tk' ys n' hD hDn hF hk
      obtain rfl := pr_same hF
      have F' := F.keeps hk
      have N' := news_more N hk hDn hD F
      have en0 := ne_new hD (N (dv, od) (by k_mem)).1
      have en2 := ne_new hD (N (ra, _) (by k_mem)).1
      have hus : ∀ v ∈ vvs.filter (fun v => decide (v = .ref ra) || pOf h9 (fun q => q.1 != nw) v), v ∈ vvs := fun v hv => (List.mem_filter.mp hv).1
      have hul : (vvs.filter (fun v => decide (v = .ref ra) || pOf h9 (fun q => q.1 != nw) v)).length ≤ vvs.length := List.length_filter_le _ _
      generalize hflt : vvs.filter (fun v => decide (v = .ref ra) || pOf h9 (fun q => q.1 != nw) v) = us at *
      clear F N hF hk hDn
      w_strict k_steps
      rename Fr _ _ _ _ => F
      rename News _ _ _ _ => N
      rename Obj.IsDictOf _ _ _ => D₂
      have C9 := J.chgZ (Y := [(Th, tup2 (.str (Str.ofString "told") t₂) .none n₂), (lv, W.listOf vvs.toArray nl)]) (Z := [(dv, od), (ra, W.listOf #[.bytes r.1 x1, .bytes r.2.1 x2, .bool (!r.2.2)] n1)]) Ld F N (by kopn_word)
      have N4 := news4 N (by k_mem : (L' + 1 + 1 + 1 + 1, oTi) ∈ _) (by k_mem : (L' + 1 + 1 + 1, oNe) ∈ _) (by k_mem : (L' + 1 + 1, oK2) ∈ _) (by k_mem : (L' + 1, oBu) ∈ _)
      have P9 : Paired (LRow _) us (renOut rows x nw) := hflt ▸ ren_rep hvr hnd hi hr hv0 (fun a o hm e ne => C9 a o e (fun z => by rcases List.mem_cons.mp z with z | z; exact J.rowsFree a (mem_refs hm) (z ▸ .head _); rcases List.mem_append.mp z with z | z; exact J.rowsFree a (mem_refs hm) (.tail _ (List.mem_append_left _ z)); simp only [List.map_cons, List.map_nil, List.mem_cons, List.not_mem_nil, or_false] at z; rcases z with z | z; exact J.rowsFree a (mem_refs hm) (.tail _ (List.mem_append_right _ (by first | kopn_word | simp [z]))); exact ne z)) ⟨ra, _, _, _, rfl, (N (ra, _) (by k_mem)).1⟩
      have V9 : VAt prog w _ dv D₁ us (renOut rows x nw) most next := ⟨⟨_, _, _, (N (dv, _) (by k_mem)).1, D₂⟩, ⟨_, (N (D₁, _) (by k_mem)).1⟩, P9, hvn, by have := P9.length; omega⟩
      show R (.ok (.ret (.bool (Str.ofString "told" == Str.ofString "told")))) _
      rw [show (Str.ofString "told" == Str.ofString "told") = true by decide]
      exact fin _ _ _ _ _ _ _ _ _ _ (J.stepV C9 (by first | kopn_word | simp [mem_refs (List.mem_of_getElem? hv0)]) F N4 rfl (by exact (all1 ⟨_, by assumption⟩ (all1 ⟨_, by assumption⟩ (all1 ⟨_, by assumption⟩ (all1 ⟨_, by assumption⟩ all0))))) V9 (fun v hv => .inl (hus v hv)) (.inr hD)) (Out.ren i x nw hi hnw)
  · refine cut_next (fun s' => ∃ h tk m, s' = { s with heap := h, toks := tk } ∧ Inn prog w g L' h (kstB m [(Str.ofString "deck", .ref d), (Str.ofString "v", .ref dv), (Str.ofString "way", .int 5 t)]) [(L' + 1 + 1 + 1 + 1, oTi), (L' + 1 + 1 + 1, oNe), (L' + 1 + 1, oKe), (L' + 1, oBu)] qL d l b dx rl dv lv 210 bvs vvs rows rows most next next) ?_ ?_
    · obtain ⟨rs, Ld⟩ := I2.more [] (fun _ h => nomatch h) (by first | kopn_word | simp)
      have F := I2.fr
      have N := Ld.news
      simp only [List.cons_append, List.nil_append, List.append_nil] at N
      w_strict k_steps
      rename Fr _ _ _ _ => F
      rename News _ _ _ _ => N
      exact .mk (exI3 _ _ _ ⟨rfl, I2.step Ld [(L' + 1 + 1 + 1 + 1, _), (L' + 1 + 1 + 1, _), (L' + 1 + 1, _), (L' + 1, _)] (fr_kst3 F rfl rfl rfl) N (fun _ hq => .tail _ (hq)) (by rfl) (by exact (all1 ⟨_, by assumption⟩ (all1 ⟨_, by assumption⟩ (all1 ⟨_, by assumption⟩ (all1 ⟨_, by assumption⟩ all0)))))⟩)
    clear I2
    refine fun s' hz => exE3 hz fun h₂ tk₃ m hx => ?_
    clear hz
    obtain ⟨rfl, I3⟩ := hx
    refine cut_next (fun s' => ∃ h tk m, s' = { s with heap := h, toks := tk } ∧ Inn prog w g L' h (kstB m [(Str.ofString "deck", .ref d), (Str.ofString "v", .ref dv), (Str.ofString "way", .int 5 t)]) [(L' + 1 + 1 + 1 + 1, oTi), (L' + 1 + 1 + 1, oNe), (L' + 1 + 1, oKe), (L' + 1, oBu)] qL d l b dx rl dv lv 210 bvs vvs rows rows most next next) ?_ ?_
    · obtain ⟨rs, Ld⟩ := I3.more [] (fun _ h => nomatch h) (by first | kopn_word | simp)
      have F := I3.fr
      have N := Ld.news
      simp only [List.cons_append, List.nil_append, List.append_nil] at N
      w_strict k_steps
      rename Fr _ _ _ _ => F
      rename News _ _ _ _ => N
      exact .mk (exI3 _ _ _ ⟨rfl, I3.step Ld [(L' + 1 + 1 + 1 + 1, _), (L' + 1 + 1 + 1, _), (L' + 1 + 1, _), (L' + 1, _)] (fr_kst3 F rfl rfl rfl) N (fun _ hq => hq) (by rfl) (by exact (all1 ⟨_, by assumption⟩ (all1 ⟨_, by assumption⟩ (all1 ⟨_, by assumption⟩ (all1 ⟨_, by assumption⟩ all0)))))⟩)
    clear I3
    refine fun s' hz => exE3 hz fun h₂ tk₃ m hx => ?_
    clear hz
    obtain ⟨rfl, I4⟩ := hx
    refine cut_next (fun s' => ∃ h tk m oTi nm nv, s' = { s with heap := h, toks := tk } ∧ Inn prog w g L' h (kstB m [(Str.ofString "deck", .ref d), (Str.ofString "v", .ref dv), (Str.ofString "way", .int 5 t)]) [(L' + 1 + 1 + 1 + 1, oTi), (L' + 1 + 1 + 1, oNe), (L' + 1 + 1, oKe), (L' + 1, oBu)] qL d l b dx rl dv lv 210 bvs vvs rows rows most next next ∧ oTi.data = .cell (some nv) ∧ optV nm nv ∧ (∀ x, nm = some x → x ∈ titles rows)) ?_ ?_
    · obtain ⟨rs, Ld⟩ := I4.more [] (fun _ h => nomatch h) (by first | kopn_word | simp)
      have F := I4.fr
      have N := Ld.news
      simp only [List.cons_append, List.nil_append, List.append_nil] at N
      w_strict k_steps
      rename Fr _ _ _ _ => F
      rename News _ _ _ _ => N
      have I4d := I4.step Ld [(L' + 1 + 1 + 1 + 1, _), (L' + 1 + 1 + 1, _), (L' + 1 + 1, _), (L' + 1, _)] F N (fun _ hq => hq) (by rfl) (by exact (all1 ⟨_, by assumption⟩ (all1 ⟨_, by assumption⟩ (all1 ⟨_, by assumption⟩ (all1 ⟨_, by assumption⟩ all0)))))
      clear I4 Ld N F
      have F := I4d.fr
      refine .mk (wpAny_call (draw_spec (k := 0) ((M.deeper B F rfl rfl).less (by decide)) I4d.st.deck (I4d.off B rfl (by first | kopn_word | simp)) (by decide) (by decide) fun v2 tv h₃ tk₄ hv0 hv6 D₃ C₃ => ?_))
      have I5 := I4d.deckC D₃ C₃
      clear I4d F D₃ C₃
      try dsimp only
      have hv : v2 = 0 ∨ v2 = 1 ∨ v2 = 2 := by omega
      rcases hv with rfl | rfl | rfl
      · obtain ⟨rs, Ld⟩ := I5.more [] (fun _ h => nomatch h) (by first | kopn_word | simp)
        have F := I5.fr
        have N := Ld.news
        simp only [List.cons_append, List.nil_append, List.append_nil] at N
        have hr0x185 : ∀ p ∈ rs, p.1 ≠ L' + 1 + 1 + 1 + 1 := Ld.off (by kopn_word)
        w_strict k_steps
        rename Fr _ _ _ _ => F
        rename News _ _ _ _ => N
        exact .mk (exI6 _ _ _ _ none .none ⟨rfl, I5.step Ld [(L' + 1 + 1 + 1 + 1, _), (L' + 1 + 1 + 1, _), (L' + 1 + 1, _), (L' + 1, _)] (fr_kst3 F rfl rfl rfl) N (fun _ hq => hq) (by rfl) (by exact (all1 ⟨_, by assumption⟩ (all1 ⟨_, by assumption⟩ (all1 ⟨_, by assumption⟩ (all1 ⟨_, by assumption⟩ all0))))), by assumption, rfl, (fun _ h => nomatch h)⟩)
      · obtain ⟨rs, Ld⟩ := I5.more [] (fun _ h => nomatch h) (by first | kopn_word | simp)
        have F := I5.fr
        have N := Ld.news
        simp only [List.cons_append, List.nil_append, List.append_nil] at N
        w_strict k_steps
        rename Fr _ _ _ _ => F
        rename News _ _ _ _ => N
        have I5t := I5.step Ld [(L' + 1 + 1 + 1 + 1, _), (L' + 1 + 1 + 1, _), (L' + 1 + 1, _), (L' + 1, _)] F N (fun _ hq => hq) (by rfl) (by exact (all1 ⟨_, by assumption⟩ (all1 ⟨_, by assumption⟩ (all1 ⟨_, by assumption⟩ (all1 ⟨_, by assumption⟩ all0)))))
        clear I5 Ld N F
        have F := I5t.fr
        refine .mk (wpAny_call (title_spec ((M.deeper B F rfl rfl).less (by decide)) I5t.st.deck I5t.st.view (I5t.off B rfl (by first | kopn_word | simp)) hlt fun nm tn' h₃ tk₄ hnm D₃ C₃ => ?_))
        have I6 := I5t.deckC D₃ C₃
        clear I5t F D₃ C₃
        try dsimp only
        obtain ⟨rs, Ld⟩ := I6.more [] (fun _ h => nomatch h) (by first | kopn_word | simp)
        have F := I6.fr
        have N := Ld.news
        simp only [List.cons_append, List.nil_append, List.append_nil] at N
        have hr0x193 : ∀ p ∈ rs, p.1 ≠ L' + 1 + 1 + 1 + 1 := Ld.off (by kopn_word)
        w_strict k_steps
        rename Fr _ _ _ _ => F
        rename News _ _ _ _ => N
        exact .mk (exI6 _ _ _ _ (some nm) (.bytes nm tn') ⟨rfl, I6.step Ld [(L' + 1 + 1 + 1 + 1, _), (L' + 1 + 1 + 1, _), (L' + 1 + 1, _), (L' + 1, _)] (fr_kst3 F rfl rfl rfl) N (fun _ hq => hq) (by rfl) (by exact (all1 ⟨_, by assumption⟩ (all1 ⟨_, by assumption⟩ (all1 ⟨_, by assumption⟩ (all1 ⟨_, by assumption⟩ all0))))), by assumption, ⟨_, rfl⟩, (fun x e => by cases e; exact hnm)⟩)
      · obtain ⟨rs, Ld⟩ := I5.more [] (fun _ h => nomatch h) (by first | kopn_word | simp)
        have F := I5.fr
        have N := Ld.news
        simp only [List.cons_append, List.nil_append, List.append_nil] at N
        w_strict k_steps
        rename Fr _ _ _ _ => F
        rename News _ _ _ _ => N
        have I5t := I5.step Ld [(L' + 1 + 1 + 1 + 1, _), (L' + 1 + 1 + 1, _), (L' + 1 + 1, _), (L' + 1, _)] F N (fun _ hq => hq) (by rfl) (by exact (all1 ⟨_, by assumption⟩ (all1 ⟨_, by assumption⟩ (all1 ⟨_, by assumption⟩ (all1 ⟨_, by assumption⟩ all0)))))
        clear I5 Ld N F
        have F := I5t.fr
        refine .mk (wpAny_call (title_spec ((M.deeper B F rfl rfl).less (by decide)) I5t.st.deck I5t.st.view (I5t.off B rfl (by first | kopn_word | simp)) hlt fun nm tn' h₃ tk₄ hnm D₃ C₃ => ?_))
        have I6 := I5t.deckC D₃ C₃
        clear I5t F D₃ C₃
        try dsimp only
        obtain ⟨rs, Ld⟩ := I6.more [] (fun _ h => nomatch h) (by first | kopn_word | simp)
        have F := I6.fr
        have N := Ld.news
        simp only [List.cons_append, List.nil_append, List.append_nil] at N
        have hr0x201 : ∀ p ∈ rs, p.1 ≠ L' + 1 + 1 + 1 + 1 := Ld.off (by kopn_word)
        have hr1x202 : ∀ p ∈ rs, p.1 ≠ L' + 1 + 1 + 1 := Ld.off (by kopn_word)
        have hr2x203 : ∀ p ∈ rs, p.1 ≠ L' + 1 + 1 := Ld.off (by kopn_word)
        have hr3x204 : ∀ p ∈ rs, p.1 ≠ L' + 1 := Ld.off (by kopn_word)
        w_strict k_steps
        rename Fr _ _ _ _ => F
        rename News _ _ _ _ => N
        exact .mk (exI6 _ _ _ _ (some nm) (.bytes nm tn') ⟨rfl, I6.step Ld [(L' + 1 + 1 + 1 + 1, _), (L' + 1 + 1 + 1, _), (L' + 1 + 1, _), (L' + 1, _)] (fr_kst3 F rfl rfl rfl) N (fun _ hq => hq) (by rfl) (by exact (all1 ⟨_, by assumption⟩ (all1 ⟨_, by assumption⟩ (all1 ⟨_, by assumption⟩ (all1 ⟨_, by assumption⟩ all0))))), by assumption, ⟨_, rfl⟩, (fun x e => by cases e; exact hnm)⟩)
    clear I4
    skip
    refine fun s' hz => exE6 hz fun h₂ tk₃ m oTi nm nv hx => ?_
    clear hz
    obtain ⟨rfl, I5, dTi, hnv, hnt⟩ := hx
    refine cut_next (fun s' => ∃ h tk m va, s' = { s with heap := h, toks := tk } ∧ Inn prog w g L' h (kstB m [(Str.ofString "deck", .ref d), (Str.ofString "v", .ref dv), (Str.ofString "way", .int 5 t), (Str.ofString "at", va)]) [(L' + 1 + 1 + 1 + 1, oTi), (L' + 1 + 1 + 1, oNe), (L' + 1 + 1, oKe), (L' + 1, oBu)] qL d l b dx rl dv lv 210 bvs vvs rows rows most next next ∧ optN (atOf rows nm) va) ?_ ?_
    · obtain ⟨rs, Ld⟩ := I5.more [] (fun _ h => nomatch h) (by first | kopn_word | simp)
      have F := I5.fr
      have N := Ld.news
      simp only [List.cons_append, List.nil_append, List.append_nil] at N
      w_strict k_steps
      rename Fr _ _ _ _ => F
      rename News _ _ _ _ => N
      have I5t := I5.step Ld [(L' + 1 + 1 + 1 + 1, _), (L' + 1 + 1 + 1, _), (L' + 1 + 1, _), (L' + 1, _)] F N (fun _ hq => hq) (by rfl) (by exact (all1 ⟨_, by assumption⟩ (all1 ⟨_, by assumption⟩ (all1 ⟨_, by assumption⟩ (all1 ⟨_, by assumption⟩ all0)))))
      clear I5 Ld N F
      have F := I5t.fr
      refine .mk (wpAny_call (at_any (nm := nm) ((M.deeper B F rfl rfl).less (by decide)) I5t.st.view (I5t.off B rfl (by first | kopn_word | simp)) hnv fun va h₃ tk₄ hva C₃ => ?_))
      have I6 := I5t.sameC C₃
      clear I5t F C₃
      try dsimp only
      obtain ⟨rs, Ld⟩ := I6.more [] (fun _ h => nomatch h) (by first | kopn_word | simp)
      have F := I6.fr
      have N := Ld.news
      simp only [List.cons_append, List.nil_append, List.append_nil] at N
      w_strict k_steps
      rename Fr _ _ _ _ => F
      rename News _ _ _ _ => N
      exact .mk (exI4 _ _ _ va ⟨rfl, I6.step Ld [(L' + 1 + 1 + 1 + 1, _), (L' + 1 + 1 + 1, _), (L' + 1 + 1, _), (L' + 1, _)] (fr_kst4 F rfl rfl rfl rfl) N (fun _ hq => hq) (by rfl) (by exact (all1 ⟨_, by assumption⟩ (all1 ⟨_, by assumption⟩ (all1 ⟨_, by assumption⟩ (all1 ⟨_, by assumption⟩ all0))))), hva⟩)
    clear I5
    refine fun s' hz => exE4 hz fun h₂ tk₃ m va hx => ?_
    clear hz
    obtain ⟨rfl, I6, hva⟩ := hx
    cases hi : atOf rows nm with
    | none =>
      obtain rfl : va = .none := by rw [hi] at hva; exact hva
      cases nm with
      | none =>
        obtain rfl : nv = .none := hnv
        obtain ⟨rs, Ld⟩ := I6.moreX [] (fun _ h => nomatch h) (fun _ h => nomatch h)
        have F := I6.fr
        have N := Ld.news
        simp only [List.cons_append, List.nil_append] at N
        try simp only [List.append_nil] at N
        w_strict k_steps
        rename Fr _ _ _ _ => F
        rename News _ _ _ _ => N
        obtain ⟨D', hDe, hD⟩ := news_hd N
        subst hDe
        rename Fr _ _ _ _ => F
        rename News _ _ _ _ => N
        have I7 := I6.step Ld [(L' + 1 + 1 + 1 + 1, _), (L' + 1 + 1 + 1, _), (L' + 1 + 1, _), (L' + 1, _)] F N (fun _ hq => .tail _ (hq)) (by rfl) (by exact (all1 ⟨_, by assumption⟩ (all1 ⟨_, by assumption⟩ (all1 ⟨_, by assumption⟩ (all1 ⟨_, by assumption⟩ all0)))))
        clear I6 Ld N F
        obtain ⟨ps, hTab⟩ := I7.st.tab
        obtain ⟨rs, Ld⟩ := I7.more [(210, tabObj ps)] (by first | kopn_word | simp [hTab.1]) (by first | kopn_word | simp)
        have F := I7.fr
        have N := Ld.news
        simp only [List.cons_append, List.nil_append] at N
        have hr4x221 : ∀ p ∈ rs, p.1 ≠ 210 := Ld.off (by kopn_word)
        have hy210 : @Ne Nat 210 (L' + 1 + 1 + 1 + 1) ∧ @Ne Nat 210 (L' + 1 + 1 + 1) ∧ @Ne Nat 210 (L' + 1 + 1) ∧ @Ne Nat 210 (L' + 1) := I7.ne4 210 (by first | kopn_word | simp)
        w_strict k_steps
        rename Fr _ _ _ _ => F
        rename News _ _ _ _ => N
        refine .mk (kla_eval rfl ?_)
        refine lam_make2 (qual := qL) (rs := rs) F N T (C.keeps B.stays) rfl (by k_updF) hTab.2.1 (Ld.codeKept I7.fr (fun z hz vs e => by rcases List.mem_append.mp hz with h | h; (obtain ⟨v, hv⟩ := I7.cells z h; rw [hv] at e; cases e); rw [List.mem_singleton.mp h]) hTab) (fun _ q hq => by kopn_word) rfl fun f c' ctv ps' h₃ tk₄ F₃ N₃ hT₃ hRec lf => ?_
        have I8 := I7.stepT Ld F₃ N₃ (by kopn_word) hT₃
        have hDm := I7.tup_in Ld hD.1 hD.2.1 hD.2.2
        have hD := N₃ _ (.tail _ (.tail _ (.tail _ (.tail _ (.tail _ (.tail _ hDm))))))
        clear hDm
        have hf := N₃ _ (.head _)
        clear I7 Ld F N F₃ N₃ hT₃ lf hTab; try clear hy210
        clear ps; try clear rs
        obtain ⟨hb1, x5, ⟨nr, hb3⟩, hbr, hbs⟩ := id I8.st.buf
        refine exE5 x5 fun t1 t2 t3 tm tn hb2 => ?_
        clear x5
        have F := I8.fr
        have N := I8.own
        w_strict k_steps
        have hcT := (I8.own (L' + 1 + 1 + 1 + 1, oTi) (by k_mem))
        have hcB := (I8.own (L' + 1, oBu) (by k_mem))
        have hOs : ∀ e : Env, e.frame = some L' → Off base (e :: fs) [L' + 1 + 1 + 1 + 1, L' + 1, b, dx, rl] := fun e he => .cons (off_of B he hcT.2.2 hcT.2.1) (.cons (off_of B he hcB.2.2 hcB.2.1) (I8.off B he (ls := [b, dx, rl]) (by first | kopn_word | simp)))
        have M5 : ∀ e : Env, e.frame = some L' → e.scope.kind = .function → Amb p loose mean mg mb w (dp + 1) gs (un + 3) base (e :: fs) h₃ 35 := fun e h1 h2 => (M.deeper B I8.fr h1 h2).less (by decide)
        clear F N
        refine .mk (wpAny_call (show codeAny (model prog w) (AA (dp + 1) (_ :: fs) gs (un + 3)) _ _ _ from heard_ok (k := 33) (f := f) (cells := []) (Post := fun v _ => v = .none) (M5 _ rfl rfl) (fun _ h => nomatch h) off_nil ⟨_, _, _, _, hf.1⟩ (fun h => nomatch h) ?_ ?_))
        · intro R' s' env' kp henv M' post'
          exact lam_paste_bare (M'.less (by decide)) (I8.st.buf.chg (Δ := []) (fun a o e _ => kp a o e) (fun h => nomatch h) (fun h => nomatch h) (fun h => nomatch h) (fun _ h => nomatch h)) (off_push (hOs _ rfl) (by exact (all1 ⟨_, hcT.1⟩ (all1 ⟨_, hcB.1⟩ (all1 ⟨_, hb1⟩ (all1 ⟨_, hb2⟩ (all1 ⟨_, hb3⟩ all0)))))) henv) (kp _ _ hcT.1) (kp _ _ hcB.1) dTi dBu (kp _ _ hf.1) (codeRec_keeps kp hRec) hnd hi fun h' tk C => post' _ _ _ rfl C
        rintro _ h₄ Th t₂ n₂ h₅ tk₅ rfl C1 C2 hTh hTn hDd
        have C9 : Chg [] h₃ h₅ := fun a o e _ => C2 _ _ (C1 a o e (fun h => nomatch h)) (fun hm => absurd (Heap.lt_size e) (List.mem_singleton.mp hm ▸ Nat.lt_irrefl _))
        have I9 := I8.sameC C9
        have hTg := fresh_g I8.fr (Option.eq_none_iff_forall_ne_some.mpr fun o e => nomatch hTn o e)
        have hD := And.intro (C9 _ _ hD.1 (fun h => nomatch h)) hD.2
        clear hcT hcB hOs M5 hf hb1 hb2 hb3 hbr hbs C1 C2 C9 hDd hTn I8 hRec; try clear hcN
        obtain ⟨rs, Ld⟩ := I9.moreX [(Th, tup2 (.str (Str.ofString "told") t₂) .none n₂), (D', _)] (by exact (all1 hTh (all1 hD.1 all0))) (by exact (all1 hTg (all1 ⟨hD.2.2, hD.2.1⟩ all0)))
        have F := I9.fr
        have N := Ld.news
        simp only [List.cons_append, List.nil_append] at N
        w_strict k_steps
        rename Fr _ _ _ _ => F
        rename News _ _ _ _ => N
        refine .mk ?_
        refine tup_true (N (Th, _) (by k_mem)).1 (N (D', _) (by k_mem)).1 (by have := M.uni; show un + 3 < 9900; omega) (eqa_str _ _ _) (PySem.SeqAt.EqAt.same _) ?_
        show R _ _
        exact fin _ _ _ _ _ _ _ _ _ _ (I9.step Ld [(L' + 1 + 1 + 1 + 1, _), (L' + 1 + 1 + 1, _), (L' + 1 + 1, _), (L' + 1, _)] F N (fun _ hq => hq) (by rfl) (by exact (all1 ⟨_, by assumption⟩ (all1 ⟨_, by assumption⟩ (all1 ⟨_, by assumption⟩ (all1 ⟨_, by assumption⟩ all0)))))) Out.same
      | some x =>
        obtain ⟨tx, rfl⟩ : ∃ t, nv = .bytes x t := hnv
        obtain ⟨rs, Ld⟩ := I6.moreX [] (fun _ h => nomatch h) (fun _ h => nomatch h)
        have F := I6.fr
        have N := Ld.news
        simp only [List.cons_append, List.nil_append] at N
        try simp only [List.append_nil] at N
        w_strict k_steps
        rename Fr _ _ _ _ => F
        rename News _ _ _ _ => N
        obtain ⟨D', hDe, hD⟩ := news_hd N
        subst hDe
        rename Fr _ _ _ _ => F
        rename News _ _ _ _ => N
        have I7 := I6.step Ld [(L' + 1 + 1 + 1 + 1, _), (L' + 1 + 1 + 1, _), (L' + 1 + 1, _), (L' + 1, _)] F N (fun _ hq => .tail _ (hq)) (by rfl) (by exact (all1 ⟨_, by assumption⟩ (all1 ⟨_, by assumption⟩ (all1 ⟨_, by assumption⟩ (all1 ⟨_, by assumption⟩ all0)))))
        clear I6 Ld N F
        obtain ⟨ps, hTab⟩ := I7.st.tab
        obtain ⟨rs, Ld⟩ := I7.more [(210, tabObj ps)] (by first | kopn_word | simp [hTab.1]) (by first | kopn_word | simp)
        have F := I7.fr
        have N := Ld.news
        simp only [List.cons_append, List.nil_append] at N
        have hr4x234 : ∀ p ∈ rs, p.1 ≠ 210 := Ld.off (by kopn_word)
        have hy210 : @Ne Nat 210 (L' + 1 + 1 + 1 + 1) ∧ @Ne Nat 210 (L' + 1 + 1 + 1) ∧ @Ne Nat 210 (L' + 1 + 1) ∧ @Ne Nat 210 (L' + 1) := I7.ne4 210 (by first | kopn_word | simp)
        w_strict k_steps
        rename Fr _ _ _ _ => F
        rename News _ _ _ _ => N
        refine .mk (kla_eval rfl ?_)
        refine lam_make2 (qual := qL) (rs := rs) F N T (C.keeps B.stays) rfl (by k_updF) hTab.2.1 (Ld.codeKept I7.fr (fun z hz vs e => by rcases List.mem_append.mp hz with h | h; (obtain ⟨v, hv⟩ := I7.cells z h; rw [hv] at e; cases e); rw [List.mem_singleton.mp h]) hTab) (fun _ q hq => by kopn_word) rfl fun f c' ctv ps' h₃ tk₄ F₃ N₃ hT₃ hRec lf => ?_
        have I8 := I7.stepT Ld F₃ N₃ (by kopn_word) hT₃
        have hDm := I7.tup_in Ld hD.1 hD.2.1 hD.2.2
        have hD := N₃ _ (.tail _ (.tail _ (.tail _ (.tail _ (.tail _ (.tail _ hDm))))))
        clear hDm
        have hf := N₃ _ (.head _)
        clear I7 Ld F N F₃ N₃ hT₃ lf hTab; try clear hy210
        clear ps; try clear rs
        obtain ⟨hb1, x5, ⟨nr, hb3⟩, hbr, hbs⟩ := id I8.st.buf
        refine exE5 x5 fun t1 t2 t3 tm tn hb2 => ?_
        clear x5
        have F := I8.fr
        have N := I8.own
        w_strict k_steps
        have hcT := (I8.own (L' + 1 + 1 + 1 + 1, oTi) (by k_mem))
        have hcB := (I8.own (L' + 1, oBu) (by k_mem))
        have hOs : ∀ e : Env, e.frame = some L' → Off base (e :: fs) [L' + 1 + 1 + 1 + 1, L' + 1, b, dx, rl] := fun e he => .cons (off_of B he hcT.2.2 hcT.2.1) (.cons (off_of B he hcB.2.2 hcB.2.1) (I8.off B he (ls := [b, dx, rl]) (by first | kopn_word | simp)))
        have M5 : ∀ e : Env, e.frame = some L' → e.scope.kind = .function → Amb p loose mean mg mb w (dp + 1) gs (un + 3) base (e :: fs) h₃ 35 := fun e h1 h2 => (M.deeper B I8.fr h1 h2).less (by decide)
        clear F N
        refine .mk (wpAny_call (show codeAny (model prog w) (AA (dp + 1) (_ :: fs) gs (un + 3)) _ _ _ from heard_bad (k := 33) (f := f) (nm := x) (M5 _ rfl rfl) ⟨_, _, _, _, hf.1⟩ ?_ ?_))
        · intro R' s' env' kp henv M' post'
          exact lam_paste_no (M'.less (by decide)) (I8.st.buf.chg (Δ := []) (fun a o e _ => kp a o e) (fun h => nomatch h) (fun h => nomatch h) (fun h => nomatch h) (fun _ h => nomatch h)) (off_push (hOs _ rfl) (by exact (all1 ⟨_, hcT.1⟩ (all1 ⟨_, hcB.1⟩ (all1 ⟨_, hb1⟩ (all1 ⟨_, hb2⟩ (all1 ⟨_, hb3⟩ all0)))))) henv) (kp _ _ hcT.1) (kp _ _ hcB.1) dTi dBu (kp _ _ hf.1) (codeRec_keeps kp hRec) hi post'
        intro Th t₂ t₃ n₂ h₅ tk₅ Sl hTh hTn
        obtain ⟨g', Tg, B', I9, tn⟩ := I8.turned B rfl Sl NF
        have hTg : g'.get? Th = none ∧ Th ≠ L' := have x := fresh_g I8.fr hTn; ⟨Tg.none_ _ x.1, x.2⟩
        have hD := tn [(D', _)] (fun q hq => by rw [List.mem_singleton.mp hq]; exact hD) _ (.head _)
        clear hcT hcB hOs M5 hf hb1 hb2 hb3 hbr hbs I8 hRec Sl hTn; try clear hcN
        clear tn B X T
        obtain ⟨rs, Ld⟩ := I9.moreX [(Th, tup2 (.str (Str.ofString "none") t₂) (.bytes x t₃) n₂), (D', _)] (by exact (all1 hTh (all1 hD.1 all0))) (by exact (all1 hTg (all1 ⟨hD.2.2, hD.2.1⟩ all0)))
        have F := I9.fr
        have N := Ld.news
        simp only [List.cons_append, List.nil_append] at N
        w_strict k_steps
        rename Fr _ _ _ _ => F
        rename News _ _ _ _ => N
        refine .mk ?_
        refine tup_true (N (Th, _) (by k_mem)).1 (N (D', _) (by k_mem)).1 (by have := M.uni; show un + 3 < 9900; omega) (eqa_str _ _ _) (eqa_bytes _ _ _) ?_
        show R _ _
        exact finT _ _ _ _ _ _ _ _ _ _ _ Tg B' (I9.step Ld [(L' + 1 + 1 + 1 + 1, _), (L' + 1 + 1 + 1, _), (L' + 1 + 1, _), (L' + 1, _)] F N (fun _ hq => hq) (by rfl) (by exact (all1 ⟨_, by assumption⟩ (all1 ⟨_, by assumption⟩ (all1 ⟨_, by assumption⟩ (all1 ⟨_, by assumption⟩ all0)))))) Out.same
    | some i =>
      obtain ⟨ti, rfl⟩ : ∃ t, va = .int i t := by rw [hi] at hva; exact hva
      obtain ⟨⟨od, tm', tn', hv1, hv2⟩, ⟨nl, hv3⟩, hvr, hvn, hvs⟩ := id I6.st.view
      obtain ⟨r, hr⟩ := row_at hnd hi
      obtain ⟨v0, hv0, hlr⟩ := pr_get hvr i r hr
      obtain ⟨ra, x1, x2, n1, rfl, ha⟩ := id hlr
      have hra : ra ∈ addrs d l b dx rl dv lv 210 vvs := List.mem_append_right _ (mem_refs (List.mem_of_getElem? hv0))
      obtain ⟨rs, Ld⟩ := I6.moreX [(lv, W.listOf vvs.toArray nl), (dv, od), (ra, W.listOf #[.bytes r.1 x1, .bytes r.2.1 x2, .bool (!r.2.2)] n1)] (by exact (all1 hv3 (all1 hv1 (all1 ha all0)))) (by exact (all1 (I6.hid lv (by first | kopn_word | simp)) (all1 (I6.hid dv (by first | kopn_word | simp)) (all1 (I6.hid ra hra) all0))))
      have F := I6.fr
      have N := Ld.news
      simp only [List.cons_append, List.nil_append] at N
      have hvl : vvs.length ≤ 1000 := by have := hvr.length; omega
      w_strict k_steps
      rename Fr _ _ _ _ => F
      rename News _ _ _ _ => N
      refine .mk (item_at (isl N (by k_mem : (lv, _) ∈ _)) hv0 hvl ?_)
      have hT := LRow.isList (N (ra, _) (by k_mem)).1
      w_strict k_steps
      rename Fr _ _ _ _ => F
      rename News _ _ _ _ => N
      obtain ⟨D', hDe, hD⟩ := news_hd N
      subst hDe
      rename Fr _ _ _ _ => F
      rename News _ _ _ _ => N
      have I7 := I6.step Ld [(L' + 1 + 1 + 1 + 1, _), (L' + 1 + 1 + 1, _), (L' + 1 + 1, _), (L' + 1, _)] F N (fun _ hq => .tail _ (hq)) (by rfl) (by exact (all1 ⟨_, by assumption⟩ (all1 ⟨_, by assumption⟩ (all1 ⟨_, by assumption⟩ (all1 ⟨_, by assumption⟩ all0)))))
      clear I6 Ld N F
      clear hv1 hv2 hv3 hvr hvn hvs hlr ha hT; try clear hq1; try clear hq2; try clear hq3; try clear hydv; try clear hylv; try clear hyra
      obtain ⟨ps, hTab⟩ := I7.st.tab
      obtain ⟨rs, Ld⟩ := I7.more [(210, tabObj ps)] (by first | kopn_word | simp [hTab.1]) (by first | kopn_word | simp)
      have F := I7.fr
      have N := Ld.news
      simp only [List.cons_append, List.nil_append] at N
      have hr4x247 : ∀ p ∈ rs, p.1 ≠ 210 := Ld.off (by kopn_word)
      have hy210 : @Ne Nat 210 (L' + 1 + 1 + 1 + 1) ∧ @Ne Nat 210 (L' + 1 + 1 + 1) ∧ @Ne Nat 210 (L' + 1 + 1) ∧ @Ne Nat 210 (L' + 1) := I7.ne4 210 (by first | kopn_word | simp)
      w_strict k_steps
      rename Fr _ _ _ _ => F
      rename News _ _ _ _ => N
      refine .mk (kla_eval rfl ?_)
      refine lam_make2 (qual := qL) (rs := rs) F N T (C.keeps B.stays) rfl (by k_updF) hTab.2.1 (Ld.codeKept I7.fr (fun z hz vs e => by rcases List.mem_append.mp hz with h | h; (obtain ⟨v, hv⟩ := I7.cells z h; rw [hv] at e; cases e); rw [List.mem_singleton.mp h]) hTab) (fun _ q hq => by kopn_word) rfl fun f c' ctv ps' h₃ tk₄ F₃ N₃ hT₃ hRec lf => ?_
      have I8 := I7.stepT Ld F₃ N₃ (by kopn_word) hT₃
      have hDm := I7.tup_in Ld hD.1 hD.2.1 hD.2.2
      have hD := N₃ _ (.tail _ (.tail _ (.tail _ (.tail _ (.tail _ (.tail _ hDm))))))
      clear hDm
      have hf := N₃ _ (.head _)
      clear I7 Ld F N F₃ N₃ hT₃ lf hTab; try clear hy210
      clear ps; try clear rs
      obtain ⟨hb1, x5, ⟨nr, hb3⟩, hbr, hbs⟩ := id I8.st.buf
      refine exE5 x5 fun t1 t2 t3 tm tn hb2 => ?_
      clear x5
      have F := I8.fr
      have N := I8.own
      w_strict k_steps
      have hcT := (I8.own (L' + 1 + 1 + 1 + 1, oTi) (by k_mem))
      have hcB := (I8.own (L' + 1, oBu) (by k_mem))
      have hOs : ∀ e : Env, e.frame = some L' → Off base (e :: fs) [L' + 1 + 1 + 1 + 1, L' + 1, b, dx, rl] := fun e he => .cons (off_of B he hcT.2.2 hcT.2.1) (.cons (off_of B he hcB.2.2 hcB.2.1) (I8.off B he (ls := [b, dx, rl]) (by first | kopn_word | simp)))
      have M5 : ∀ e : Env, e.frame = some L' → e.scope.kind = .function → Amb p loose mean mg mb w (dp + 1) gs (un + 3) base (e :: fs) h₃ 35 := fun e h1 h2 => (M.deeper B I8.fr h1 h2).less (by decide)
      clear F N
      refine .mk (wpAny_call (show codeAny (model prog w) (AA (dp + 1) (_ :: fs) gs (un + 3)) _ _ _ from heard_ok (k := 33) (f := f) (cells := []) (Post := fun v _ => ∃ t, v = .bytes r.2.1 t) (M5 _ rfl rfl) (fun _ h => nomatch h) off_nil ⟨_, _, _, _, hf.1⟩ (fun h => nomatch h) ?_ ?_))
      · intro R' s' env' kp henv M' post'
        exact lam_paste (M'.less (by decide)) (I8.st.buf.chg (Δ := []) (fun a o e _ => kp a o e) (fun h => nomatch h) (fun h => nomatch h) (fun h => nomatch h) (fun _ h => nomatch h)) (off_push (hOs _ rfl) (by exact (all1 ⟨_, hcT.1⟩ (all1 ⟨_, hcB.1⟩ (all1 ⟨_, hb1⟩ (all1 ⟨_, hb2⟩ (all1 ⟨_, hb3⟩ all0)))))) henv) (kp _ _ hcT.1) (kp _ _ hcB.1) dTi dBu (kp _ _ hf.1) (codeRec_keeps kp hRec) hnd hnv hi hr fun t h' tk C => post' _ _ _ ⟨t, rfl⟩ C
      rintro _ h₄ Th t₂ n₂ h₅ tk₅ ⟨tq, rfl⟩ C1 C2 hTh hTn hDd
      have C9 : Chg [] h₃ h₅ := fun a o e _ => C2 _ _ (C1 a o e (fun h => nomatch h)) (fun hm => absurd (Heap.lt_size e) (List.mem_singleton.mp hm ▸ Nat.lt_irrefl _))
      have I9 := I8.sameC C9
      have hTg := fresh_g I8.fr (Option.eq_none_iff_forall_ne_some.mpr fun o e => nomatch hTn o e)
      have hD := And.intro (C9 _ _ hD.1 (fun h => nomatch h)) hD.2
      clear hcT hcB hOs M5 hf hb1 hb2 hb3 hbr hbs C1 C2 C9 hDd hTn I8 hRec; try clear hcN
      obtain ⟨rs, Ld⟩ := I9.moreX [(Th, tup2 (.str (Str.ofString "told") t₂) (.bytes r.2.1 tq) n₂), (D', _)] (by exact (all1 hTh (all1 hD.1 all0))) (by exact (all1 hTg (all1 ⟨hD.2.2, hD.2.1⟩ all0)))
      have F := I9.fr
      have N := Ld.news
      simp only [List.cons_append, List.nil_append] at N
      w_strict k_steps
      rename Fr _ _ _ _ => F
      rename News _ _ _ _ => N
      refine .mk ?_
      refine tup_true (N (Th, _) (by k_mem)).1 (N (D', _) (by k_mem)).1 (by have := M.uni; show un + 3 < 9900; omega) (eqa_str _ _ _) (eqa_bytes _ _ _) ?_
      show R _ _
      exact fin _ _ _ _ _ _ _ _ _ _ (I9.step Ld [(L' + 1 + 1 + 1 + 1, _), (L' + 1 + 1 + 1, _), (L' + 1 + 1, _), (L' + 1, _)] F N (fun _ hq => hq) (by rfl) (by exact (all1 ⟨_, by assumption⟩ (all1 ⟨_, by assumption⟩ (all1 ⟨_, by assumption⟩ (all1 ⟨_, by assumption⟩ all0)))))) Out.same
end
end
noncomputable def fixedN : List Bts := [#[97], #[98, 117, 102, 102, 101, 114, 48], #[98, 117, 102, 102, 101, 114, 50], #[98]]
noncomputable def cOf (n : Int) : Int := (if 0 < n then 1 else 0) + (if 2 < n then 1 else 0)
noncomputable def NameOk (next : Int) (x : Bts) : Prop := x ∈ fixedN ∨ ∃ i : Int, 0 ≤ i ∧ i < next ∧ x = bufName i
structure PInv (k : Nat) (rows : List Row) (next : Int) : Prop where
  nd : (rows.map (·.1)).Nodup
  len : rows.length ≤ k
  n0 : 0 ≤ next
  nk : next ≤ k + cOf next
  nm : ∀ r ∈ rows, NameOk next r.1
  sz : ∀ r ∈ rows, r.2.1.size ≤ 4 * k
theorem cOf_le (n : Int) : 0 ≤ cOf n ∧ cOf n ≤ 2 := by unfold cOf; split <;> split <;> omega
theorem cOf_mono {a b : Int} (h : a ≤ b) : cOf a ≤ cOf b := by unfold cOf; split <;> split <;> split <;> split <;> omega
theorem bufName_inj {a b : Int} (ha : 0 ≤ a ∧ a ≤ 9) (hb : 0 ≤ b ∧ b ≤ 9) (e : bufName a = bufName b) : a = b := by
  unfold bufName at e
  have e2 := congrArg Array.toList e
  simp only [List.cons.injEq, and_true, true_and] at e2
  have e3 := congrArg UInt8.toNat e2
  simp only [Nat.toUInt8_eq, UInt8.toNat_ofNat'] at e3
  omega
theorem fixed_buf {n : Int} (hn : 0 ≤ n ∧ n ≤ 9) (h : bufName n ∈ fixedN) : n = 0 ∨ n = 2 := by
  obtain ⟨m, rfl⟩ := Int.eq_ofNat_of_zero_le hn.1
  have hm : m ≤ 9 := by omega
  have : m = 0 ∨ m = 1 ∨ m = 2 ∨ m = 3 ∨ m = 4 ∨ m = 5 ∨ m = 6 ∨ m = 7 ∨ m = 8 ∨ m = 9 := by omega
  rcases this with rfl | rfl | rfl | rfl | rfl | rfl | rfl | rfl | rfl | rfl <;> revert h <;> decide
theorem has_zero_two {k : Nat} {rows : List Row} {next n : Int} (P : PInv k rows next) (h1 : next ≤ n) (h2 : n ≤ 9) (h : has rows (bufName n) = true) : n = 0 ∨ n = 2 := by
  obtain ⟨r, hr, e⟩ := List.any_eq_true.mp h
  have e : r.1 = bufName n := by simpa using e
  have n0 := P.n0
  rcases P.nm r hr with h | ⟨i, i0, i1, h⟩
  · rw [e] at h
    exact fixed_buf ⟨by omega, h2⟩ h
  · have := bufName_inj ⟨by omega, by omega⟩ ⟨i0, by omega⟩ (e.symm.trans h)
    omega
theorem fresh_ex {k : Nat} {rows : List Row} {next : Int} (P : PInv k rows next) (hk : k ≤ 7) : ∃ j, Fresh rows next j := by
  have n0 := P.n0
  have nk := P.nk
  have hc := cOf_le next
  cases h : has rows (bufName next) with
  | false => exact ⟨0, fun i hi => absurd hi (Nat.not_lt_zero _), by simpa using h, n0, by simp; omega⟩
  | true =>
    have h02 := has_zero_two P (Int.le_refl _) (by omega) h
    refine ⟨1, fun i hi => ?_, ?_, n0, by simp; omega⟩
    · obtain rfl : i = 0 := by omega
      simpa using h
    · cases h' : has rows (bufName (next + ((1 : Nat) : Int))) with
      | false => rfl
      | true =>
        have := has_zero_two P (n := next + ((1 : Nat) : Int)) (by omega) (by simp; omega) h'
        simp at this
        omega
theorem fresh_le {k : Nat} {rows : List Row} {next : Int} {j : Nat} (P : PInv k rows next) (h : Fresh rows next j) : next + j + 1 ≤ k + 1 + cOf (next + j + 1) := by
  have n0 := P.n0
  have nk := P.nk
  have h9 := h.h9
  have key : ∀ i, i < j → next + (i : Int) = 0 ∨ next + (i : Int) = 2 := fun i hi => has_zero_two P (by omega) (by omega) (h.hin i hi)
  have hj : j ≤ 1 := by
    rcases Nat.lt_or_ge 1 j with h1 | h1
    · have a := key 0 (by omega)
      have b := key 1 h1
      omega
    · exact h1
  rcases Nat.eq_zero_or_pos j with rfl | hp
  · have := cOf_mono (show next ≤ next + ((0 : Nat) : Int) + 1 by omega)
    omega
  · obtain rfl : j = 1 := by omega
    have a := key 0 (by omega)
    simp at a
    rcases a with rfl | rfl
    · show (0 : Int) + ((1 : Nat) : Int) + 1 ≤ k + 1 + cOf (0 + ((1 : Nat) : Int) + 1)
      have : cOf (0 + ((1 : Nat) : Int) + 1) = 1 := by decide
      omega
    · have : cOf (2 + ((1 : Nat) : Int) + 1) = 2 := by decide
      have h2 : cOf 2 = 1 := by decide
      omega
theorem trim_sub {most : Int} : ∀ (rows : List Row) (c : Int), List.Sublist (trimOf most c rows) rows
  | [], _ => .slnil
  | r :: rs, c => by
    unfold trimOf
    generalize (c + if r.2.2 = true then (1 : Int) else 0) = c'
    split
    · exact .cons₂ _ (trim_sub rs _)
    · exact .cons _ (trim_sub rs _)
theorem nameOk_mono {a b : Int} {x : Bts} (h : a ≤ b) (n : NameOk a x) : NameOk b x := n.imp id fun ⟨i, h0, h1, e⟩ => ⟨i, h0, by omega, e⟩
theorem nameOk_title {k : Nat} {rows : List Row} {next : Int} {x : Bts} (P : PInv k rows next) (h : x ∈ titles rows) : NameOk next x := by
  unfold titles at h
  rcases List.mem_append.mp h with h | h
  · obtain ⟨r, hr, rfl⟩ := List.mem_map.mp h
    exact P.nm r hr
  · exact .inl h
theorem PInv.sub {k k' : Nat} {rows rows' : List Row} {next next' : Int} (P : PInv k rows next) (hs : List.Sublist rows' rows) (hk : k ≤ k') (hn : next ≤ next') (hnk : next' ≤ k' + cOf next') : PInv k' rows' next' :=
  ⟨(hs.map _).nodup P.nd, Nat.le_trans hs.length_le (Nat.le_trans P.len hk), Int.le_trans P.n0 hn, hnk, fun r hr => nameOk_mono hn (P.nm r (hs.subset hr)), fun r hr => Nat.le_trans (P.sz r (hs.subset hr)) (by omega)⟩
theorem PInv.same {k : Nat} {rows : List Row} {next : Int} (P : PInv k rows next) : PInv (k + 1) rows next := P.sub (List.Sublist.refl _) (by omega) (Int.le_refl _) (by have := P.nk; omega)
theorem PInv.put {k : Nat} {rows : List Row} {next next' most : Int} {x oc : Bts} {b : Bool} (P : PInv k rows next) (hx : NameOk next' x) (hoc : oc.size ≤ 4) (hn : next ≤ next') (hnk : next' ≤ ((k + 1 : Nat) : Int) + cOf next') :
    PInv (k + 1) (trimOf most 0 ((x, oc, b) :: rows.filter (fun r => r.1 != x))) next' := by
  have hsub := trim_sub (most := most) ((x, oc, b) :: rows.filter (fun r => r.1 != x)) 0
  have Q : PInv (k + 1) ((x, oc, b) :: rows.filter (fun r => r.1 != x)) next' := by
    refine ⟨?_, ?_, Int.le_trans P.n0 hn, hnk, fun r hr => ?_, fun r hr => ?_⟩
    · rw [List.map_cons, List.nodup_cons]
      refine ⟨fun hm => ?_, nodup_filter P.nd⟩
      obtain ⟨r, hr, e⟩ := List.mem_map.mp hm
      have := (List.mem_filter.mp hr).2
      rw [e] at this
      simp at this
    · have := List.length_filter_le (fun r : Row => r.1 != x) rows
      have := P.len
      simp only [List.length_cons]
      omega
    · rcases List.mem_cons.mp hr with rfl | hr
      · exact hx
      · exact nameOk_mono hn (P.nm r (List.mem_filter.mp hr).1)
    · rcases List.mem_cons.mp hr with rfl | hr
      · exact Nat.le_trans hoc (by omega)
      · exact Nat.le_trans (P.sz r (List.mem_filter.mp hr).1) (by omega)
  exact Q.sub hsub (Nat.le_refl _) (Int.le_refl _) hnk
theorem PInv.set {k : Nat} {rows : List Row} {next most : Int} {oc : Bts} {nm : Option Bts} {j : Nat} (P : PInv k rows next) (h1 : oc ∈ menuO) (h2 : ∀ x, nm = some x → x ∈ titles rows) (h3 : nm = none → oc ≠ #[] → Fresh rows next j) :
    PInv (k + 1) (setOut rows most next oc nm j).1 (setOut rows most next oc nm j).2.1 := by
  unfold setOut
  by_cases ho : oc = #[]
  · rw [if_pos ho]
    exact P.same
  · rw [if_neg ho]
    have hnk := P.nk
    cases nm with
    | none =>
      dsimp only
      have hf := h3 rfl ho
      have hle := fresh_le P hf
      have n0 := P.n0
      exact P.put (.inr ⟨next + j, by omega, by omega, rfl⟩) (menu_small h1) (by omega) (by push_cast; omega)
    | some x =>
      dsimp only
      exact P.put (nameOk_title P (h2 x rfl)) (menu_small h1) (Int.le_refl _) (by push_cast; omega)
theorem set_same {α : Type} : ∀ {l : List α} {i : Nat} {a : α}, l[i]? = some a → l.set i a = l
  | [], _, _, h => by simp at h
  | b :: l, 0, a, h => by simp at h; subst h; rfl
  | b :: l, i + 1, a, h => by rw [List.set_cons_succ, set_same (by simpa using h)]
theorem PInv.app {k : Nat} {rows : List Row} {next most : Int} {oc : Bts} {nm : Option Bts} {j : Nat} (P : PInv k rows next) (h1 : oc ∈ menuO) (h2 : ∀ x, nm = some x → x ∈ titles rows) (h3 : nm = none → oc ≠ #[] → Fresh rows next j) :
    PInv (k + 1) (appOut rows most next oc nm j).1 (appOut rows most next oc nm j).2.1 := by
  cases hi : atOf rows nm with
  | none =>
    rw [app_none hi]
    exact P.set h1 h2 h3
  | some i =>
    obtain ⟨r, hr⟩ := row_at P.nd hi
    rw [app_some hi hr]
    have hnm : (rows.set i (r.1, r.2.1 ++ oc, r.2.2)).map (·.1) = rows.map (·.1) := by
      rw [List.map_set]
      exact set_same (by rw [List.getElem?_map, hr]; rfl)
    have hnk := P.nk
    refine ⟨hnm ▸ P.nd, by simp; have := P.len; omega, P.n0, by push_cast; omega, fun q hq => ?_, fun q hq => ?_⟩
    · have : q.1 ∈ rows.map (·.1) := hnm ▸ List.mem_map_of_mem hq
      obtain ⟨q', hq', e⟩ := List.mem_map.mp this
      exact e ▸ P.nm q' hq'
    · rcases List.mem_or_eq_of_mem_set hq with h | rfl
      · exact Nat.le_trans (P.sz q h) (by omega)
      · have a := P.sz r (List.mem_of_getElem? hr)
        have b := menu_small h1
        simp only [Array.size_append]
        omega
theorem ren_nodup {x nw : Bts} : ∀ {l : List Row}, (l.map (·.1)).Nodup → (∀ q ∈ l, renP x nw q = true) → ((l.map (renF x nw)).map (·.1)).Nodup
  | [], _, _ => by simp
  | q :: l, hnd, hp => by
    simp only [List.map_cons, List.nodup_cons] at hnd ⊢
    refine ⟨fun hm => ?_, ren_nodup hnd.2 fun q hq => hp q (.tail _ hq)⟩
    obtain ⟨q', hq', e⟩ := List.mem_map.mp hm
    obtain ⟨q2, hq2, rfl⟩ := List.mem_map.mp hq'
    have hne : q2.1 ≠ q.1 := fun e2 => hnd.1 (e2 ▸ List.mem_map_of_mem hq2)
    have h1 := hp q (.head _)
    have h2 := hp q2 (.tail _ hq2)
    unfold renP at h1 h2
    simp only [Bool.or_eq_true, beq_iff_eq, bne_iff_ne] at h1 h2
    unfold renF at e
    by_cases a : q2.1 = x
    · rw [if_pos a] at e
      by_cases b : q.1 = x
      · exact hne (a.trans b.symm)
      · rw [if_neg b] at e
        exact (h1.resolve_left b) e.symm
    · rw [if_neg a] at e
      by_cases b : q.1 = x
      · rw [if_pos b] at e
        exact (h2.resolve_left a) e
      · rw [if_neg b] at e
        exact hne e
theorem PInv.ren {k : Nat} {rows : List Row} {next : Int} {x nw : Bts} (P : PInv k rows next) (h : nw ∈ titles rows) : PInv (k + 1) (renOut rows x nw) next := by
  rw [renOut_map P.nd]
  have hnk := P.nk
  have hl := List.length_filter_le (renP x nw) rows
  have hlen := P.len
  refine ⟨ren_nodup (nodup_filter P.nd) (fun q hq => (List.mem_filter.mp hq).2), by simp; omega, P.n0, by push_cast; omega, fun q hq => ?_, fun q hq => ?_⟩
  all_goals
    obtain ⟨q', hq', rfl⟩ := List.mem_map.mp hq
    have hm := (List.mem_filter.mp hq').1
    unfold renF
    by_cases a : q'.1 = x
    · rw [if_pos a]
      first
      | exact nameOk_title P h
      | exact Nat.le_trans (P.sz q' hm) (by omega)
    · rw [if_neg a]
      first
      | exact P.nm q' hm
      | exact Nat.le_trans (P.sz q' hm) (by omega)
theorem PInv.step {k : Nat} {rows rows' : List Row} {next next' most : Int} (P : PInv k rows next) (h : Out rows most next rows' next') : PInv (k + 1) rows' next' := by
  cases h with
  | set oc nm j h1 h2 h3 => exact P.set h1 h2 h3
  | app oc nm j h1 h2 h3 => exact P.app h1 h2 h3
  | drop i => exact P.sub (List.eraseIdx_sublist _ _) (by omega) (Int.le_refl _) (by have := P.nk; push_cast; omega)
  | same => exact P.same
  | ren i nm nw h1 h2 => exact P.ren h2
theorem PInv.zero : PInv 0 [] 0 := ⟨by simp, by simp, by decide, by decide, (fun _ h => nomatch h), (fun _ h => nomatch h)⟩
theorem kstB_mem {m : Str → Option Value} : ∀ {kb : List (Str × Value)}, (kb.map (·.1)).Nodup → ∀ q ∈ kb, kstB m kb q.1 = some q.2
  | [], _, _, h => nomatch h
  | p :: r, hn, q, hq => by
    simp only [List.map_cons, List.nodup_cons] at hn
    show (if q.1 = p.1 then some p.2 else kstB m r q.1) = some q.2
    rcases List.mem_cons.mp hq with rfl | hq
    · rw [if_pos rfl]
    · have hne : ¬ q.1 = p.1 := fun e => hn.1 (by rw [← e]; exact List.mem_map_of_mem hq)
      rw [if_neg hne]
      exact kstB_mem hn.2 q hq
section
variable {prog : Program} {w : World} {A : Around} {E : Value → Shared → Prop} {s : Shared} {env : Env} {g : Heap} {m : Str → Option Value} {news : List (Addr × Obj)}
/-- a turn that keeps the names of kb -/
noncomputable def TurnB (g : Heap) (L : Addr) (kb : List (Str × Value)) (news : List (Addr × Obj)) (Pn : Prop) (Q : Flow → Shared → Prop) (s : Shared) (f : Flow) (s₃ : Shared) : Prop :=
  match f with
  | .ret v => Q (.ret v) s₃
  | .brk => Q .next s₃
  | _ => ∃ h' tk' m₂, s₃ = { s with heap := h', toks := tk' } ∧ Fr g L h' (kstB m₂ kb) ∧ News g L h' news ∧ Pn
theorem list3_loopB {x y z : Str} {p1 p2 p3 pt : Pos} {k : Nat} {body : List Stmt} {l : Addr} {vs : List Value} {Q : Flow → Shared → Prop} (kb : List (Str × Value)) (Pre : Nat → Prop) (B : Nat → Value → Value → Value → Prop) (hh : A.handled = none)
    (hx : env.kindOf x = some .local) (hy : env.kindOf y = some .local) (hz : env.kindOf z = some .local) (hp : (env.scope.kind == .class || (env.scope.kind == .module && env.locals != env.globals)) = false)
    (hk0 : ∀ q ∈ kb, m q.1 = some q.2) (hkn : ∀ q ∈ kb, q.1 ≠ x ∧ q.1 ≠ y ∧ q.1 ≠ z) (hkd : (kb.map (·.1)).Nodup) (hxyz : x ≠ y ∧ x ≠ z ∧ y ≠ z)
    (F : Fr g env.locals s.heap m) (N : News g env.locals s.heap news) (h0 : Pre 0) (hl : ∀ h n, Fr g env.locals h n → News g env.locals h news → h.IsList l vs.toArray)
    (it3 : ∀ i v, vs[i]? = some v → ∃ v0 v1 v2, B i v0 v1 v2 ∧ Three g v v0 v1 v2)
    (step : ∀ i v0 v1 v2 h tk own m', i < vs.length → B i v0 v1 v2 → Pre i → Fr g env.locals h (kstB m' ((z, v2) :: (y, v1) :: (x, v0) :: kb)) → News g env.locals h (news ++ own) →
      wpAny (model prog w) A (execs body env) (TurnB g env.locals kb (news ++ own) (Pre (i + 1)) Q s) E { s with heap := h, toks := tk })
    (done : ∀ h tk (m₁ : Str → Option Value), Pre vs.length → Fr g env.locals h (kstB m₁ kb) → News g env.locals h news → Q .next { s with heap := h, toks := tk })
    (hE : PassesOwn (model prog w) A env E := by passes_own) :
    wpAny (model prog w) A (pyIter (.ref l)) (fun it s₂ => At3 prog w A env x y z p1 p2 p3 k pt body Q E it s₂) E s := by
  have hls := hl _ _ F N
  obtain ⟨ol, hol, _⟩ := id hls
  have hlt : l < s.heap.objs.size := Heap.lt_size hol
  have hne : l ≠ s.heap.objs.size := Nat.ne_of_lt hlt
  have hLs : env.locals < s.heap.objs.size := F.ns.lt
  refine wpAny_pyIter_list hls ?_
  have Wk := Walks.list (prog := prog) (w := w) hh s.heap.objs.size l hne vs.toArray
  generalize hI : s.heap.objs.size = I at Wk hne hlt hLs
  have hgI : g.get? I = none := by rw [← hI]; exact next_is_new F
  have hIn : ∀ q ∈ news, q.1 ≠ I := fun q hq e => absurd (Heap.lt_size (N q hq).1) (by rw [e, ← hI]; exact Nat.lt_irrefl _)
  refine codeAny_forLoop_any
    (fun n s' => ∃ h' tk m' i, s' = { s with heap := h', toks := tk } ∧ (h'.IsListIter I l i ∧ h'.IsList l vs.toArray) ∧ Fr g env.locals h' m' ∧ News g env.locals h' news ∧ (∀ q ∈ kb, m' q.1 = some q.2) ∧ Pre i ∧ i ≤ vs.length ∧ n = vs.length + 1 - i) ?_ (vs.length + 1)
    ⟨_, s.toks, m, 0, rfl, ⟨⟨_, by rw [← hI]; exact Heap.get?_push_size _ rfl, rfl, rfl⟩, hls.at fun o e => Heap.get?_push_of_some _ e⟩, F.push _, fun q hq => ⟨Heap.get?_push_of_some _ (N q hq).1, (N q hq).2⟩, hk0, h0, Nat.zero_le _, rfl⟩
  rintro n s' ⟨H, tk, m', i, rfl, hst, F', N', hm', hpre, hi, rfl⟩
  have next : ∀ h₁ : Heap, (∀ b o, b ∉ [I] → H.get? b = some o → h₁.get? b = some o) → Fr g env.locals h₁ m' ∧ News g env.locals h₁ news := fun h₁ hk₁ =>
    ⟨⟨F'.ns.at' fun o e => hk₁ _ o (fun hm => absurd hLs (by rw [List.mem_singleton.mp hm]; exact Nat.lt_irrefl _)) e, fun b o e => hk₁ b o (fun hm => by rw [List.mem_singleton.mp hm, hgI] at e; cases e) (F'.keep b o e), F'.above⟩,
      fun q hq => ⟨hk₁ _ _ (fun hm => hIn q hq (List.mem_singleton.mp hm)) (N' q hq).1, (N' q hq).2⟩⟩
  have hlen : vs.toArray.size = vs.length := by simp
  by_cases hlt2 : i < vs.length
  · refine Wk.item i _ _ _ (by rw [hlen]; exact hlt2) hst fun v h₁ tk₁ hv hst₁ hk₁ => ?_
    have hv' : vs[i]? = some v := by simpa using hv
    obtain ⟨F₁, N₁⟩ := next h₁ hk₁
    obtain ⟨v0, v1, v2, hB, T⟩ := it3 i v hv'
    obtain ⟨aT, rfl, _⟩ := id T
    refine wpAny_letOwnedTupleGo_listiter (s := { s with heap := h₁, toks := tk₁ }) hst₁.1 ?_
    obtain ⟨oI, hoI, hoc, hod⟩ := id hst₁.1
    have N₁' : News g env.locals h₁ (news ++ [(I, oI)]) := fun q hq => by
      rcases List.mem_append.mp hq with hq | hq
      · exact N₁ q hq
      · rw [List.mem_singleton.mp hq]
        exact ⟨hoI, fun e => absurd hLs (by rw [← e]; exact Nat.lt_irrefl _), hgI⟩
    refine assign3 (s := { s with heap := h₁, toks := tk₁ }) hh hx hy hz hp F₁ N₁' (T.keep F₁.keep) fun h₂ tk₂ F₂ N₂ => ?_
    have F₃ := fr_kst ((z, v2) :: (y, v1) :: (x, v0) :: kb) F₂ (fun q hq => by
      rcases List.mem_cons.mp hq with rfl | hq
      · exact if_pos rfl
      · rcases List.mem_cons.mp hq with rfl | hq
        · rw [if_neg hxyz.2.2, if_pos rfl]
        · rcases List.mem_cons.mp hq with rfl | hq
          · rw [if_neg hxyz.2.1, if_neg hxyz.1, if_pos rfl]
          · rw [if_neg (hkn q hq).2.2, if_neg (hkn q hq).2.1, if_neg (hkn q hq).1]
            exact hm' q hq)
    refine wpAny_passesOwn hE (wpAny_mono (step i v0 v1 v2 h₂ tk₂ [(I, oI)] _ hlt2 hB hpre F₃ N₂) (fun f s₃ q => ?_) fun _ _ e => e)
    have fin : (∃ h' tk' m₂, s₃ = { s with heap := h', toks := tk' } ∧ Fr g env.locals h' (kstB m₂ kb) ∧ News g env.locals h' (news ++ [(I, oI)]) ∧ Pre (i + 1)) →
        ∃ n, n < vs.length + 1 - i ∧ ∃ h' tk m' i, s₃ = { s with heap := h', toks := tk } ∧ (h'.IsListIter I l i ∧ h'.IsList l vs.toArray) ∧ Fr g env.locals h' m' ∧ News g env.locals h' news ∧ (∀ q ∈ kb, m' q.1 = some q.2) ∧ Pre i ∧ i ≤ vs.length ∧ n = vs.length + 1 - i := by
      rintro ⟨h', tk', m₂, rfl, F₃, N₃, hp₃⟩
      have N₄ : News g env.locals h' news := fun q hq => N₃ q (List.mem_append.mpr (.inl hq))
      exact ⟨vs.length + 1 - (i + 1), by omega, h', tk', _, i + 1, rfl, ⟨⟨oI, (N₃ _ (List.mem_append.mpr (.inr (.head _)))).1, hoc, hod⟩, hl _ _ F₃ N₄⟩, F₃, N₄, kstB_mem hkd, hp₃, hlt2, rfl⟩
    cases f with
    | ret v => exact q
    | brk => exact q
    | next => exact fin q
    | cont => exact fin q
  · have hin : i = vs.length := by omega
    subst hin
    refine Wk.done _ _ _ (by rw [hlen]; exact hst) fun h₁ tk₁ hk₁ => wpAny_execs_nil ?_
    obtain ⟨F₁, N₁⟩ := next h₁ hk₁
    exact done h₁ tk₁ m' hpre (fr_kst kb F₁ hm') N₁
end
section
variable {prog : Program} {w : World} {A : Around} {E : Value → Shared → Prop} {s : Shared} {env : Env} {g : Heap} {m : Str → Option Value}
noncomputable def At1 (prog : Program) (w : World) (A : Around) (env : Env) (x : Str) (p1 : Pos) (body : List Stmt) (Q : Flow → Shared → Prop) (E : Value → Shared → Prop) (it : Value) (s₂ : Shared) : Prop :=
  codeAny (model prog w) A (.forLoop (.Name x p1) it body [] env) (fun r s' => match r with | .ok f => Q f s' | .error e => cameBackBy (model prog w) A env E e s') s₂
theorem For1 {x : Str} {p1 pos : Pos} {iter : Expr} {body : List Stmt} {Q : Flow → Shared → Prop}
    (h : wpAny (model prog w) A (eval iter env) (fun xv s₁ => wpAny (model prog w) A (pyIter xv) (fun it s₂ => At1 prog w A env x p1 body Q E it s₂) E s₁) E s)
    (hs : ∀ x, foldedSetIterable iter env x = pure x := by intro _; rfl) :
    wpAny (model prog w) A (exec (.For (.Name x p1) iter body [] pos) env) Q E s := wpAny_For h hs
noncomputable def TurnD (g : Heap) (L : Addr) (HI : Heap → Prop) (J : (Str → Option Value) → Prop) (St : Heap → Prop) (Q : Flow → Shared → Prop) (s : Shared) (f : Flow) (s₃ : Shared) : Prop :=
  match f with
  | .ret v => Q (.ret v) s₃
  | .brk => Q .next s₃
  | _ => ∃ h' tk' m₂, s₃ = { s with heap := h', toks := tk' } ∧ Fr g L h' m₂ ∧ HI h' ∧ J m₂ ∧ St h'
theorem for1 {x : Str} {px : Pos} {body : List Stmt} {I : Addr} {fp wr : List Addr} {n : Nat} {P : Nat → Value → Prop} {St : Nat → Heap → Prop} {Q : Flow → Shared → Prop} (HI : Nat → Heap → Prop) (J : Nat → (Str → Option Value) → Prop)
    (Wk : Walks prog w A I fp wr n P St) (hx : env.kindOf x = some .local) (hp : (env.scope.kind == .class || (env.scope.kind == .module && env.locals != env.globals)) = false)
    (hwr : ∀ b ∈ wr, g.get? b = none ∧ b ≠ env.locals) (hLf : env.locals ∉ fp)
    {IO : Obj → Prop} (hio : ∀ i h, St i h → ∀ b ∈ wr, ∀ o, h.get? b = some o → IO o) (mv : ∀ i h h' m, HI i h → Fr g env.locals h m → (∀ b ∈ wr, ∀ o, h.get? b = some o → IO o) → (∀ b o, b ∉ env.locals :: wr → h.get? b = some o → h'.get? b = some o) → HI i h')
    (F : Fr g env.locals s.heap m) (h0 : HI 0 s.heap) (j0 : J 0 m) (s0 : St 0 s.heap)
    (step : ∀ i v h tk m', i < n → P i v → HI i h → J i m' → St (i + 1) h → Fr g env.locals h (fun y => if y = x then some v else m' y) →
      wpAny (model prog w) A (execs body env) (TurnD g env.locals (HI (i + 1)) (J (i + 1)) (St (i + 1)) Q s) E { s with heap := h, toks := tk })
    (done : ∀ h tk m', HI n h → J n m' → Fr g env.locals h m' → Q .next { s with heap := h, toks := tk })
    (hE : PassesOwn (model prog w) A env E := by passes_own) :
    At1 prog w A env x px body Q E (.ref I) s := by
  refine codeAny_forLoop_any
    (fun k s' => ∃ h' tk m' i, s' = { s with heap := h', toks := tk } ∧ Fr g env.locals h' m' ∧ HI i h' ∧ J i m' ∧ St i h' ∧ i ≤ n ∧ k = n + 1 - i) ?_ (n + 1)
    ⟨s.heap, s.toks, m, 0, rfl, F, h0, j0, s0, Nat.zero_le _, rfl⟩
  rintro k s' ⟨H, tk, m', i, rfl, F', hHI, hJ, hst, hi, rfl⟩
  have next : ∀ h₁ : Heap, (∀ b o, b ∉ wr → H.get? b = some o → h₁.get? b = some o) → Fr g env.locals h₁ m' ∧ HI i h₁ := fun h₁ hk₁ =>
    ⟨⟨F'.ns.at' fun o e => hk₁ _ o (fun hm => (hwr _ hm).2 rfl) e, fun b o e => hk₁ b o (fun hm => by rw [(hwr _ hm).1] at e; cases e) (F'.keep b o e), F'.above⟩,
      mv _ _ _ _ hHI F' (hio _ _ hst) fun b o hb e => hk₁ b o (fun hm => hb (.tail _ hm)) e⟩
  by_cases hlt2 : i < n
  · refine Wk.item i _ _ _ hlt2 hst fun v h₁ tk₁ hv hst₁ hk₁ => ?_
    obtain ⟨F₁, H₁⟩ := next h₁ hk₁
    refine (show wpAny (model prog w) A (pure ()) _ _ _ from wpAny_pure ?_)
    refine wpAny_assign_Name (wpAny_storeName_local (s := { s with heap := h₁, toks := tk₁ }) hx F₁.ns (fun h₂ hn₂ hs₂ => ?_) hp)
    have F₂ := F₁.set hn₂ hs₂
    have up₂ : ∀ b o, b ≠ env.locals → h₁.get? b = some o → h₂.get? b = some o := fun b o hb e => hs₂.extBut b o hb e
    have H₂ : HI i h₂ := mv _ _ _ _ H₁ F₁ (hio _ _ hst₁) fun b o hb e => up₂ b o (fun q => hb (q ▸ .head _)) e
    have S₂ : St (i + 1) h₂ := Wk.frame _ _ _ hst₁ fun b hb o e => up₂ b o (fun q => hLf (q ▸ hb)) e
    refine wpAny_passesOwn hE (wpAny_mono (step i v h₂ _ m' hlt2 hv H₂ hJ S₂ F₂) (fun f s₃ q => ?_) fun _ _ e => e)
    have fin : (∃ h' tk' m₂, s₃ = { s with heap := h', toks := tk' } ∧ Fr g env.locals h' m₂ ∧ HI (i + 1) h' ∧ J (i + 1) m₂ ∧ St (i + 1) h') →
        ∃ k, k < n + 1 - i ∧ ∃ h' tk m' i, s₃ = { s with heap := h', toks := tk } ∧ Fr g env.locals h' m' ∧ HI i h' ∧ J i m' ∧ St i h' ∧ i ≤ n ∧ k = n + 1 - i := by
      rintro ⟨h', tk', m₂, rfl, F₃, H₃, J₃, S₃⟩
      exact ⟨n + 1 - (i + 1), by omega, h', tk', m₂, i + 1, rfl, F₃, H₃, J₃, S₃, hlt2, rfl⟩
    cases f with
    | ret v => exact q
    | brk => exact q
    | next => exact fin q
    | cont => exact fin q
  · have hin : i = n := by omega
    subst hin
    refine Wk.done _ _ _ hst fun h₁ tk₁ hk₁ => wpAny_execs_nil ?_
    obtain ⟨F₁, H₁⟩ := next h₁ hk₁
    exact done h₁ tk₁ m' H₁ hJ F₁
end
noncomputable def RngObj (o : Obj) : Prop := ∃ x y z : Int, o.data = .fields #[rawInt x, rawInt y, rawInt z]
section
variable {prog : Program} {w : World} {g h h' : Heap} {L : Addr} {q : Str} {d l b dx rl dv lv P I : Addr} {bvs vvs : List Value} {rb rv : List Row} {most nb nv : Int}
theorem AllAt.noFields (x : AllAt prog w h q d l b dx rl dv lv P bvs vvs rb rv most nb nv) : ∀ a ∈ addrs d l b dx rl dv lv P vvs, a ≠ P → ∀ o v, h.get? a = some o → o.data ≠ .fields v := fun a ha hne o v e ec => by
  obtain ⟨od, vs, ns, mx, n, t, d1, d2, l1, _⟩ := x.deck
  obtain ⟨h1, x5, ⟨nr, h3⟩, _, _⟩ := x.buf
  refine exE5 x5 fun t1 t2 t3 tm tn h2 => ?_
  clear x5
  obtain ⟨⟨od', tm, tn, hd1, hd2⟩, ⟨n, hl1⟩, hrows, lo, hsm⟩ := x.view
  rcases List.mem_append.mp ha with ha | ha
  · simp only [List.mem_cons, List.not_mem_nil, or_false] at ha
    rcases ha with rfl | rfl | rfl | rfl | rfl | rfl | rfl | rfl
    · rw [d1] at e; cases e; obtain ⟨es, ep, _, h2, _⟩ := d2; rw [ec] at h2; cases h2
    · rw [l1] at e; cases e; cases ec
    · rw [h1] at e; cases e; cases ec
    · rw [h2] at e; cases e; cases ec
    · rw [h3] at e; cases e; cases ec
    · rw [hd1] at e; cases e; obtain ⟨es, ep, _, h2, _⟩ := hd2; rw [ec] at h2; cases h2
    · rw [hl1] at e; cases e; cases ec
    · exact hne rfl
  · obtain ⟨r, _, a', _, _, _, e', ho⟩ := pr_mem hrows _ (of_refs ha)
    cases e'
    rw [ho] at e; cases e; cases ec
theorem AllAt.notRng (x : AllAt prog w h q d l b dx rl dv lv P bvs vvs rb rv most nb nv) (hP : I ≠ P) (hI : ∀ o, h.get? I = some o → RngObj o) : I ∉ addrs d l b dx rl dv lv P vvs := fun ha => by
  obtain ⟨o, ho⟩ := x.there I ha
  obtain ⟨_, _, _, e⟩ := hI o ho
  exact x.noFields I ha hP o _ ho e
theorem AllAt.chgR {Δ : List Addr} (x : AllAt prog w h q d l b dx rl dv lv P bvs vvs rb rv most nb nv) (C : Chg Δ h h') (hn : ∀ a ∈ Δ, a ∉ [d, l, b, dx, rl, dv, lv, P]) (hp : ∀ a ∈ Δ, ∀ o, h.get? a = some o → Plain o ∨ RngObj o) :
    AllAt prog w h' q d l b dx rl dv lv P bvs vvs rb rv most nb nv := by
  have hn' : ∀ a ∈ [d, l, b, dx, rl, dv, lv, P], a ∉ Δ := fun a ha hm => hn a hm ha
  obtain ⟨ps, t⟩ := x.tab
  refine ⟨x.deck.chg C (hn' _ (by first | kopn_word | simp)) (hn' _ (by first | kopn_word | simp)), x.buf.chgT C (hn' _ (by first | kopn_word | simp)) (hn' _ (by first | kopn_word | simp)) (hn' _ (by first | kopn_word | simp)) (fun a ha o e y1 y2 y3 n e2 => ?_),
    x.view.chgT C (hn' _ (by first | kopn_word | simp)) (hn' _ (by first | kopn_word | simp)) (fun a ha o e e2 => ?_), ⟨ps, C _ _ t.1 (hn' _ (by first | kopn_word | simp)), t.2.1, fun pos v e => ?_⟩, x.nd⟩
  · rcases hp a ha o e with p | ⟨_, _, _, p⟩
    · exact p.1 _ _ _ _ e2
    · rw [e2] at p
      cases p
  · rcases hp a ha o e with p | ⟨_, _, _, p⟩
    · exact p.2.1 e2
    · obtain ⟨_, _, _, _, _, e2⟩ := e2
      rw [e2] at p
      cases p
  · obtain ⟨c', rfl, hne, hrec⟩ := t.2.2 pos v e
    obtain ⟨c, oc, vs, tk, e1, hoc, hd, hv⟩ := hrec
    cases e1
    refine ⟨c', rfl, hne, c', oc, vs, tk, rfl, C _ _ hoc fun hm => ?_, hd, hv⟩
    rcases hp c' hm oc hoc with p | ⟨x1, x2, x3, p⟩
    · exact p.2.2 vs hd
    · rw [hd] at p
      injection p with p
      rw [p] at hv
      simp [rawInt] at hv
noncomputable def LawHI (prog : Program) (w : World) (g : Heap) (L d ll b dx dv : Addr) (most : Int) (i : Nat) (h : Heap) : Prop :=
  ∃ rl lv bvs vvs rows next, AllAt prog w h qL d ll b dx rl dv lv 210 bvs vvs rows rows most next next ∧ (∀ a ∈ addrs d ll b dx rl dv lv 210 vvs, g.get? a = none ∧ a ≠ L) ∧ PInv i rows next
noncomputable abbrev hiOf {ll : Addr} {m : Str → Option Value} (_ : AllAt prog w h q d ll b dx rl dv lv P bvs vvs rb rv most nb nv) (_ : Fr g L h m) : Nat → Heap → Prop := LawHI prog w g L d ll b dx dv most
theorem LawHI.mv {m : Str → Option Value} {ll : Addr} {i : Nat} (x : LawHI prog w g L d ll b dx dv most i h) (F : Fr g L h m) (hI : I ≠ 210) (hio : ∀ o, h.get? I = some o → RngObj o) (C : ∀ a o, a ∉ [L, I] → h.get? a = some o → h'.get? a = some o) : LawHI prog w g L d ll b dx dv most i h' := by
  obtain ⟨rl, lv, bvs, vvs, rows, next, S, hid, P⟩ := x
  refine ⟨rl, lv, bvs, vvs, rows, next, S.chgR (Δ := [L, I]) (fun a o e n => C a o n e) (fun a ha hm => ?_) (fun a ha o e => ?_), hid, P⟩
  · rcases List.mem_cons.mp ha with rfl | ha
    · exact (hid _ (List.mem_append_left _ hm)).2 rfl
    · rw [List.mem_singleton.mp ha] at hm
      exact S.notRng hI hio (List.mem_append_left _ hm)
  · rcases List.mem_cons.mp ha with rfl | ha
    · obtain ⟨oL, es, ep, hL, hd, _⟩ := F.ns
      rw [hL] at e
      cases e
      exact .inl (plain_data hd)
    · rw [List.mem_singleton.mp ha] at e
      exact .inr (hio o e)
/-- the frame stays behind slots that turned, where no frame lies below -/
theorem fr_slt {dp un : Nat} {gs : Option (List Code)} {base : Heap} {env : Env} {m : Str → Option Value} {Δ : List Addr} (B : Below (AA dp [] gs un) base [] g) (F : Fr g L h m) (hf : env.frame = some L) (S : Slt [env] Δ h h') (hΔ : ∀ a ∈ Δ, g.get? a = none ∧ a ≠ L) : Fr g L h' m := by
  obtain ⟨g', T, F', _⟩ := turn B F hf S hΔ
  exact ⟨F'.ns, fun b o e => F'.keep b o (T.other b o e (fun h => nomatch h)), by rw [← T.size]; exact F'.above⟩
theorem range_facts {v : Int} : ∃ n : Nat, Builtin.Range.rangeSize 0 (1 + (v + 3).fmod 8) 1 = (n : Int) ∧ n ≤ 8 ∧ Builtin.Range.small 0 (1 + (v + 3).fmod 8) 1 = true := by
  have h1 := Int.fmod_nonneg_of_pos (v + 3) (show (0 : Int) < 8 by decide)
  have h2 := Int.fmod_lt_of_pos (v + 3) (show (0 : Int) < 8 by decide)
  generalize (v + 3).fmod 8 = y at *
  have : y = 0 ∨ y = 1 ∨ y = 2 ∨ y = 3 ∨ y = 4 ∨ y = 5 ∨ y = 6 ∨ y = 7 := by omega
  rcases this with rfl | rfl | rfl | rfl | rfl | rfl | rfl | rfl
  · exact ⟨1, by decide, by decide, by decide⟩
  · exact ⟨2, by decide, by decide, by decide⟩
  · exact ⟨3, by decide, by decide, by decide⟩
  · exact ⟨4, by decide, by decide, by decide⟩
  · exact ⟨5, by decide, by decide, by decide⟩
  · exact ⟨6, by decide, by decide, by decide⟩
  · exact ⟨7, by decide, by decide, by decide⟩
  · exact ⟨8, by decide, by decide, by decide⟩
end
section
section
variable {p : Program} {loose : List Str} {mean : ExcName → Option Value} {mg mb : Str → Option Value} {prog : Program} {w : World} {dp un : Nat} {gs : Option (List Code)} {R : Result → Shared → Prop} {s : Shared} {base : Heap} {fs : List Env} {k : Nat}
local macro_rules | `(tactic| walk_at "eval ListComp") => `(tactic| (k_here; (with_reducible show wpAny _ _ (eval (Expr.ListComp (Expr.IfExp _ _ _ _) _ _ _) _) _ _ _); (with_unfolding_all refine' LCB ?a1 ?a2 ?a3 ?a4 ?a5 ?a6 ?a7 ?_; (case a1 => rfl); (case a2 => rfl); (case a3 => decide); (case a4 => rfl); (case a5 => decide); (case a6 => rfl); (case a7 => intro _; rfl))))
local macro_rules | `(tactic| walk_at "eval ListComp") => `(tactic| (k_here; (with_reducible show wpAny _ _ (eval (Expr.ListComp (Expr.Subscript _ _ _) _ _ _) _) _ _ _); (with_unfolding_all refine' LC ?a1 ?a2 ?a3 ?a4 ?a5 ?a6 ?a7 ?_; (case a1 => rfl); (case a2 => rfl); (case a3 => decide); (case a4 => rfl); (case a5 => decide); (case a6 => rfl); (case a7 => intro _; rfl))))
local macro_rules | `(tactic| walk_at "compareOp NotEq ref ref") => `(tactic| refine hold_elim ?_)
open PySem.SeqAt in
theorem lists_ne_false {A : Around} {E : Value → Shared → Prop} {Q : Value → Shared → Prop} {a b : Addr} {us ws : List Value} {zs : List Bts} (ha : s.heap.IsList a us.toArray) (hb : s.heap.IsList b ws.toArray) (hu : A.units < cLine)
    (P : Paired (fun v x => ∃ t, v = .bytes x t) us zs) (P' : Paired (fun v x => ∃ t, v = .bytes x t) ws zs) (h : Q (.bool false) s) : wpAny (model prog w) A (compareOp .NotEq (.ref a) (.ref b)) Q E s := by
  have l1 := P.length
  have l2 := P'.length
  have key := RcNeAt.lists (A := A) (s := s) (e := fun _ => true) ha hb (by simp; omega) hu (fun j h1 h2 => by
    have h1' : j < us.length := by simpa using h1
    have h2' : j < ws.length := by simpa using h2
    have h3 : j < zs.length := by omega
    obtain ⟨t, e1⟩ := pr_at2 j P (List.getElem?_eq_getElem h1') (List.getElem?_eq_getElem h3)
    obtain ⟨t', e2⟩ := pr_at2 j P' (List.getElem?_eq_getElem h2') (List.getElem?_eq_getElem h3)
    rw [show us.toArray[j] = us[j] by simp, show ws.toArray[j] = ws[j] by simp, e1, e2]
    exact eqa_bytes _ _ _)
  rw [show (!(List.range us.toArray.size).all fun _ => true) = false by simp] at key
  exact key prog w E Q h
theorem pr_map1 {us : List Value} {rows : List Row} (x : Paired (fun v r => ∃ t, v = .bytes r.1 t) us rows) : Paired (fun v x => ∃ t, v = .bytes x t) us (rows.map (·.1)) := by
  induction x with
  | nil => exact .nil
  | cons h t ih => exact .cons h ih
local macro_rules | `(tactic| walk_at "compareOp NotEq bytes bytes") => `(tactic| refine hold_elim ?_)
theorem news5 {g h : Heap} {L : Addr} {news : List (Addr × Obj)} {a b c e f : Addr × Obj} (N : News g L h news) (m1 : a ∈ news) (m2 : b ∈ news) (m3 : c ∈ news) (m4 : e ∈ news) (m5 : f ∈ news) : News g L h [a, b, c, e, f] := fun q hq => by
  rcases List.mem_cons.mp hq with rfl | hq
  · exact N _ m1
  · exact news4 N m2 m3 m4 m5 q hq
theorem stands_spec {b dx rl dv lv : Addr} {bvs vvs : List Value} {rows : List Row} {most next next' : Int} (M : Amb p loose mean mg mb w dp gs un base fs s.heap 30) (Bu : BufAt w s.heap b dx rl bvs rows most next) (V : VAt prog w s.heap dv lv vvs rows most next') (O : Off base fs [b, dx, rl, dv, lv])
    (hnd : (rows.map (·.1)).Nodup) (hsz : ∀ r ∈ rows, r.2.1.size ≤ 900)
    (post : ∀ h' tk, Chg [] s.heap h' → R (.ok (.ret (.bool true))) { s with heap := h', toks := tk }) :
    codeAny (model prog w) (AA dp fs gs un) (.call (.ref 218) ⟨[.ref b, .ref dv], []⟩) R s := by
  obtain ⟨hb1, x5, ⟨nr, hb3⟩, hbr, hbs⟩ := id Bu
  refine exE5 x5 fun t1 t2 t3 tm tn hb2 => ?_
  clear x5
  obtain ⟨⟨od, tm', tn', hv1, hv2⟩, ⟨nl, hv3⟩, hvr, hvn, hvs⟩ := id V
  w_on
  have hcs : ∀ q ∈ [(b, instObj 154 dx), (dx, dictOf (bufEs w t1 t2 t3 (.int most tm) (.ref rl) (.int next tn)) 3), (rl, W.listOf bvs.toArray nr), (dv, od), (lv, W.listOf vvs.toArray nl)], s.heap.get? q.1 = some q.2 := by
    simp only [List.forall_mem_cons]; exact ⟨hb1, hb2, hb3, hv1, hv3, fun _ h => nomatch h⟩
  refine enterH M [(b, instObj 154 dx), (dx, dictOf (bufEs w t1 t2 t3 (.int most tm) (.ref rl) (.int next tn)) 3), (rl, W.listOf bvs.toArray nr), (dv, od), (lv, W.listOf vvs.toArray nl)] hcs O ?_
  intro g L' h₁ F N B X T hg hg' hL'
  have hbg : Paired (TupAt g) bvs rows := rows_gP hg hcs (fun q hq => by
    simp only [List.mem_cons, List.not_mem_nil, or_false] at hq
    rcases hq with rfl | rfl | rfl | rfl | rfl
    · intro x y z n e
      cases congrArg Obj.data e
    · intro x y z n e
      cases congrArg Obj.data e
    · intro x y z n e
      have := congrArg Obj.cls e
      simp at this
    · exact (plain_dict hv2).1
    · intro x y z n e
      have := congrArg Obj.cls e
      simp at this) hbr
  have hvg : Paired (LRow g) vvs rows := lrows_at hg (fun a ha o ho => by
    simp only [List.map_cons, List.map_nil, List.mem_cons, List.not_mem_nil, or_false] at ha
    rcases ha with rfl | rfl | rfl | rfl | rfl
    · rw [hb1] at ho; cases ho; rintro ⟨_, _, _, _, _, e⟩; cases congrArg Obj.data e
    · rw [hb2] at ho; cases ho; rintro ⟨_, _, _, _, _, e⟩; cases congrArg Obj.data e
    · rw [hb3] at ho; cases ho; exact rowObj_list (tups_noBytes hbr)
    · rw [hv1] at ho; cases ho; exact rowObj_dict hv2
    · rw [hv3] at ho; cases ho; exact rowObj_list (lrows_noBytes hvr)) hvr
  have hbl := hbr.length
  have hvl := hvr.length
  show wpAny _ _ _ _ _ _
  k_fold
  refine cut_next (fun s' => ∃ h tk m, s' = { s with heap := h, toks := tk } ∧ Fr g L' h (kstB m [(Str.ofString "buffers", .ref b), (Str.ofString "v", .ref dv)]) ∧ News g L' h [(b, instObj 154 dx), (dx, dictOf (bufEs w t1 t2 t3 (.int most tm) (.ref rl) (.int next tn)) 3), (rl, W.listOf bvs.toArray nr), (dv, od), (lv, W.listOf vvs.toArray nl)]) ?_ ?_
  · w_strict k_steps
    refine wpAny_call (names_spec ((M.deeper B F rfl rfl).less (by decide)) (buf_news F N (by k_mem) (by k_mem) (by k_mem) hbg hbs) (.cons (off1 B N rfl (by k_mem : (b, _) ∈ _)) (.cons (off1 B N rfl (by k_mem : (dx, _) ∈ _)) (.cons (off1 B N rfl (by k_mem : (rl, _) ∈ _)) off_nil))) fun D₁ us n₁ h₂ tk₂ hD₁n hD₁ P₁ C₂ => ?_)
    have F₂ := fr_chg0 F C₂
    have N₂ := news_cons (news_chg0 N C₂) hD₁ (fresh_g F hD₁n).2 (fresh_g F hD₁n).1
    clear F N C₂ hD₁n
    try dsimp only
    w_strict k_steps
    have hul := P₁.length
    refine kup_listOf (zs := us) F₂ N₂ (.head _) (by first | kopn_word | simp) (fun D₂ c₂ h₃ F₃ N₃ l₂ => ?_) (by rw [sizeLine_eq]; simp; omega)
    k_lt l₂
    clear F₂ N₂
    w_strict k_steps
    rename Fr _ _ _ _ => F
    rename News _ _ _ _ => N
    refine ⟨fun _ => true, fun v y => ∃ r t t', LRow g v r ∧ y = .bytes r.1 t ∧ t = t', lv, vvs, rfl, isl N (by k_mem : (lv, _) ∈ _), by omega, ?_, ?_, ?_⟩
    · intro C v s₃ m₃ E' _ _ _ _
      exact tests0 ⟨rfl, _, _, rfl, fun _ _ e => e⟩
    · intro C v s₃ m₃ E' hvm _ hn hm hk
      obtain ⟨q, hq, hTq⟩ := pr_mem hvg v hvm
      obtain ⟨a', y1, y2, n', rfl, ha'⟩ := hTq
      have ha₃ := hk _ _ (F.keep _ _ ha')
      refine ev_row rfl rfl hn hm (.inr (LRow.isList ha₃)) (by decide) (by decide) rfl fun tk => ?_
      exact ⟨⟨q, _, _, ⟨a', y1, y2, n', rfl, ha'⟩, rfl, rfl⟩, _, _, rfl, fun _ _ e => e⟩
    intro D₃ h' tk' ys n' hD hDn hF hk
    rw [List.filter_eq_self.mpr (fun _ _ => rfl)] at hF
    have hPn : Paired (fun v r => ∃ t, v = .bytes r t) ys (rows.map (·.1)) := pr_names hF hvg
    clear hF
    have F' := F.keeps hk
    have N' := news_more N hk hDn hD F
    clear F N hk hD hDn
    w_strict k_steps
    refine .mk ?_
    refine lists_ne_false (isl N' (by k_mem : (D₂, _) ∈ _)) (isl N' (by k_mem : (D₃, _) ∈ _)) (by have := M.uni; show un + 3 < 9900; omega) (pr_map1 P₁) hPn ?_
    w_strict k_steps
    rename Fr _ _ _ _ => F
    rename News _ _ _ _ => N
    first | exact .mk (exI3 _ _ _ ⟨rfl, fr_kst2 F rfl rfl, news5 N (by k_mem : (b, _) ∈ _) (by k_mem : (dx, _) ∈ _) (by k_mem : (rl, _) ∈ _) (by k_mem : (dv, od) ∈ _) (by k_mem : (lv, _) ∈ _)⟩) | exact ⟨_, _, _, rfl, fr_kst2 F rfl rfl, news5 N (by k_mem : (b, _) ∈ _) (by k_mem : (dx, _) ∈ _) (by k_mem : (rl, _) ∈ _) (by k_mem : (dv, od) ∈ _) (by k_mem : (lv, _) ∈ _)⟩
  clear F N
  refine fun s' hz => exE3 hz fun h₂ tk₂ m hx => ?_
  clear hz
  obtain ⟨rfl, F, N⟩ := hx
  refine cut_next (fun s' => ∃ h tk m va, s' = { s with heap := h, toks := tk } ∧ Fr g L' h (kstB m [(Str.ofString "buffers", .ref b), (Str.ofString "v", .ref dv), (Str.ofString "at", va)]) ∧ News g L' h [(b, instObj 154 dx), (dx, dictOf (bufEs w t1 t2 t3 (.int most tm) (.ref rl) (.int next tn)) 3), (rl, W.listOf bvs.toArray nr), (dv, od), (lv, W.listOf vvs.toArray nl)] ∧ optN (atOf rows none) va) ?_ ?_
  · w_strict k_steps
    refine wpAny_call (at_none ((M.deeper B F rfl rfl).less (by decide)) ⟨⟨od, tm', tn', (N (dv, od) (by k_mem)).1, hv2⟩, ⟨nl, (N (lv, _) (by k_mem)).1⟩, hvg.mono fun _ _ x => x.keep F.keep, hvn, hvs⟩ (.cons (off1 B N rfl (by k_mem : (dv, _) ∈ _)) (.cons (off1 B N rfl (by k_mem : (lv, _) ∈ _)) off_nil)) fun va h₅ tk₅ hva C₅ => ?_)
    have F₅ := fr_chg0 F C₅
    have N₅ := news_chg0 N C₅
    clear F N C₅
    try dsimp only
    w_strict k_steps
    rename Fr _ _ _ _ => F
    rename News _ _ _ _ => N
    first | exact .mk (exI4 _ _ _ va ⟨rfl, fr_kst3 F rfl rfl rfl, news5 N (by k_mem : (b, _) ∈ _) (by k_mem : (dx, _) ∈ _) (by k_mem : (rl, _) ∈ _) (by k_mem : (dv, od) ∈ _) (by k_mem : (lv, _) ∈ _), hva⟩) | exact ⟨_, _, _, va, rfl, fr_kst3 F rfl rfl rfl, news5 N (by k_mem : (b, _) ∈ _) (by k_mem : (dx, _) ∈ _) (by k_mem : (rl, _) ∈ _) (by k_mem : (dv, od) ∈ _) (by k_mem : (lv, _) ∈ _), hva⟩
  clear F N
  refine fun s' hz => exE4 hz fun h₂ tk₂ m va hx => ?_
  clear hz
  obtain ⟨rfl, F, N, hva⟩ := hx
  refine cut_next (fun s' => ∃ h tk m, s' = { s with heap := h, toks := tk } ∧ Fr g L' h (kstB m [(Str.ofString "buffers", .ref b), (Str.ofString "v", .ref dv)]) ∧ News g L' h [(b, instObj 154 dx), (dx, dictOf (bufEs w t1 t2 t3 (.int most tm) (.ref rl) (.int next tn)) 3), (rl, W.listOf bvs.toArray nr), (dv, od), (lv, W.listOf vvs.toArray nl)]) ?_ ?_
  · w_strict k_steps
    refine wpAny_call (newest_spec ((M.deeper B F rfl rfl).less (by decide)) (buf_news F N (by k_mem) (by k_mem) (by k_mem) hbg hbs) (.cons (off1 B N rfl (by k_mem : (b, _) ∈ _)) (.cons (off1 B N rfl (by k_mem : (dx, _) ∈ _)) (.cons (off1 B N rfl (by k_mem : (rl, _) ∈ _)) off_nil))) fun v h₅ tk₅ hv C₅ => ?_)
    have F₅ := fr_chg0 F C₅
    have N₅ := news_chg0 N C₅
    clear F N C₅
    try dsimp only
    cases hi : atOf rows none with
    | none =>
      rw [hi] at hva
      obtain rfl : va = .none := hva
      rw [(at_no hi).2] at hv
      obtain rfl : v = .none := hv
      w_strict k_steps
      rename Fr _ _ _ _ => F
      rename News _ _ _ _ => N
      first | exact .mk (exI3 _ _ _ ⟨rfl, fr_kst2 F rfl rfl, news5 N (by k_mem : (b, _) ∈ _) (by k_mem : (dx, _) ∈ _) (by k_mem : (rl, _) ∈ _) (by k_mem : (dv, od) ∈ _) (by k_mem : (lv, _) ∈ _)⟩) | exact ⟨_, _, _, rfl, fr_kst2 F rfl rfl, news5 N (by k_mem : (b, _) ∈ _) (by k_mem : (dx, _) ∈ _) (by k_mem : (rl, _) ∈ _) (by k_mem : (dv, od) ∈ _) (by k_mem : (lv, _) ∈ _)⟩
    | some i =>
      rw [hi] at hva
      obtain ⟨ti, rfl⟩ : ∃ t, va = .int i t := hva
      obtain ⟨r, hr, _, hnw, _⟩ := at_newest hnd hi
      rw [hnw] at hv
      obtain ⟨tv, rfl⟩ : ∃ t, v = .bytes r.1 t := hv
      obtain ⟨v0, hv0, ra, x1, x2, n1, rfl, ha⟩ := pr_get hvg i r hr
      w_strict k_steps
      rename Fr _ _ _ _ => F
      rename News _ _ _ _ => N
      refine item_at (isl N (by k_mem : (lv, _) ∈ _)) hv0 (by omega) ?_
      have hT := LRow.isList (F.keep _ _ ha)
      w_strict k_steps
      refine .mk (ne_bytes ?_)
      rw [show (r.1.toList != r.1.toList) = false by simp]
      w_strict k_steps
      rename Fr _ _ _ _ => F
      rename News _ _ _ _ => N
      first | exact .mk (exI3 _ _ _ ⟨rfl, fr_kst2 F rfl rfl, news5 N (by k_mem : (b, _) ∈ _) (by k_mem : (dx, _) ∈ _) (by k_mem : (rl, _) ∈ _) (by k_mem : (dv, od) ∈ _) (by k_mem : (lv, _) ∈ _)⟩) | exact ⟨_, _, _, rfl, fr_kst2 F rfl rfl, news5 N (by k_mem : (b, _) ∈ _) (by k_mem : (dx, _) ∈ _) (by k_mem : (rl, _) ∈ _) (by k_mem : (dv, od) ∈ _) (by k_mem : (lv, _) ∈ _)⟩
  clear F N hva
  refine fun s' hz => exE3 hz fun h₂ tk₂ m hx => ?_
  clear hz
  obtain ⟨rfl, F, N⟩ := hx
  w_strict k_steps
  refine For3 ?_
  w_strict k_steps
  try dsimp only
  rename Fr _ _ _ _ => F
  rename News _ _ _ _ => N
  refine list3_loopB [(Str.ofString "buffers", .ref b)] (fun _ => True) (fun j v0 v1 v2 => ∃ r ta tb, rows[j]? = some r ∧ v0 = .bytes r.1 ta ∧ v1 = .bytes r.2.1 tb ∧ v2 = .bool (!r.2.2)) rfl rfl rfl rfl rfl (by exact (all1 rfl all0)) (by exact (all1 (by dsimp only; decide) all0)) (by first | kopn_word | simp) (by decide) F N trivial (fun _ _ _ N' => isl N' (by k_mem : (lv, _) ∈ _)) ?_ ?_ ?_
  · intro j v hv
    obtain ⟨r, hr, a, x1, x2, n1, rfl, ha⟩ := pr_get (pr_flip hvg) j v hv
    exact ⟨_, _, _, ⟨r, x1, x2, hr, rfl, rfl, rfl⟩, a, rfl, .inr ⟨_, ha, rfl, _, rfl⟩⟩
  · rintro j _ _ _ h tk own m' hj ⟨r, ta, tb, hr, rfl, rfl, rfl⟩ _ F N
    have hrs : r.2.1.size ≤ 900 := hsz r (List.mem_of_getElem? hr)
    simp only [List.cons_append, List.nil_append] at N
    w_strict k_steps
    rename Fr _ _ _ _ => F
    rename News _ _ _ _ => N
    refine KBc.slice_K (s := ⟨_, _, _, _, _⟩) (ks := KBw.bInts r.2.1) (lo := none) (hi := some 3) F N rfl (by constructor) (by constructor) (by rw [KBw.ints_length]; omega) ?_
    intro h₆ t₆ tk₆ F₆ N₆ _
    rw [picked3]
    clear F N
    w_strict k_steps
    rename Fr _ _ _ _ => F
    rename News _ _ _ _ => N
    refine ⟨SeenAs, _, _, rfl, by simp; omega, ?_, ?_⟩
    · intro C c u s₃ m₃ E' hn hm hk
      w_strict k_steps
      all_goals first | exact ⟨_, _, rfl, fun _ _ e => e⟩ | exact seen_own (by omega) (by omega) | exact seen_low (by omega) | exact seen_del (by omega)
    intro D h' tk' ys n' hD hDn hF hk
    have F' := F.keeps hk
    have N' : News g L' h' _ := fun q hq => ⟨hk _ _ (N q hq).1, (N q hq).2⟩
    clear F N
    w_strict k_steps
    have P : Paired SeenAs (r.2.1.toList.take 3) ys := by simpa using hF
    refine call_bytes_ints (isl_at hDn) (seen_ints P) seen_in (by have := P.length; rw [sizeLine_eq]; simp at this; omega) rfl fun h₇ t₇ k₇ hk₇ => ?_
    try dsimp only
    rw [seen_arr]
    have F := F'.keeps hk₇
    have N : News g L' h₇ _ := fun q hq => ⟨hk₇ _ _ (N' q hq).1, (N' q hq).2⟩
    clear F' N' hk hk₇ hD hDn
    w_strict k_steps
    rename Fr _ _ _ _ => F
    rename News _ _ _ _ => N
    refine wpAny_call (paste_some ((M.deeper B F rfl rfl).less (by decide)) (buf_news F N (by k_mem) (by k_mem) (by k_mem) hbg hbs) (.cons (off1 B N rfl (by k_mem : (b, _) ∈ _)) (.cons (off1 B N rfl (by k_mem : (dx, _) ∈ _)) (.cons (off1 B N rfl (by k_mem : (rl, _) ∈ _)) off_nil))) (idx_of hnd hr) hr fun t₈ h₈ tk₈ C₈ => ?_)
    have F₈ := fr_chg0 F C₈
    have N₈ := news_chg0 N C₈
    clear F N C₈
    try dsimp only
    w_strict k_steps
    refine .mk (ne_bytes ?_)
    rw [show (r.2.1.toList != r.2.1.toList) = false by simp]
    w_strict k_steps
    rename Fr _ _ _ _ => F
    rename News _ _ _ _ => N
    refine wpAny_call (sample_some ((M.deeper B F rfl rfl).less (by decide)) (buf_news F N (by k_mem) (by k_mem) (by k_mem) hbg hbs) (.cons (off1 B N rfl (by k_mem : (b, _) ∈ _)) (.cons (off1 B N rfl (by k_mem : (dx, _) ∈ _)) (.cons (off1 B N rfl (by k_mem : (rl, _) ∈ _)) off_nil))) (idx_of hnd hr) hr (by omega) fun t₉ h₉ tk₉ C₉ => ?_)
    have F₉ := fr_chg0 F C₉
    have N₉ := news_chg0 N C₉
    clear F N C₉
    try dsimp only
    w_strict k_steps
    refine .mk (ne_bytes ?_)
    rw [show ∀ z : Bts, z = shown r.2.1 → ((shown r.2.1).toList != z.toList) = false from fun z e => by rw [e]; simp]
    · w_strict k_steps
      rename Fr _ _ _ _ => F
      rename News _ _ _ _ => N
      exact ⟨_, _, _, rfl, fr_kst [(Str.ofString "buffers", .ref b)] F (by exact (all1 rfl all0)), N, trivial⟩
    · rfl
  · intro h tk m₁ _ F N
    w_strict k_steps
    rename Fr _ _ _ _ => F
    rename News _ _ _ _ => N
    show R _ _
    exact post _ _ (chg_sub hg hcs F N (fun q hq => .inr hq))
end
end
section
section
variable {p : Program} {loose : List Str} {mean : ExcName → Option Value} {mg mb : Str → Option Value} {prog : Program} {w : World} {dp un : Nat} {gs : Option (List Code)} {R : Result → Shared → Prop} {s : Shared} {base : Heap} {fs : List Env} {k : Nat}
local macro_rules | `(tactic| walk_at "exec For Name Name cons nil") => `(tactic| refine hold_elim ?_)
local macro_rules | `(tactic| walk_at "exec For Name") => `(tactic| refine hold_elim ?_)
theorem ints_mem {vs : List Value} {ns : List Int} (P : IntsAre vs ns) : ∀ v ∈ vs, ∃ n t, v = .int n t := fun v hv => by
  induction P with
  | nil => cases hv
  | cons i u _ ih =>
    rcases List.mem_cons.mp hv with rfl | hv
    · exact ⟨i, u, rfl⟩
    · exact ih hv
noncomputable abbrev SmallI (_ y : Value) : Prop := ∃ n t, y = .int n t ∧ 0 ≤ n ∧ n < 1000003
theorem small_ints : ∀ {us ys : List Value}, Paired SmallI us ys → ∃ ns, IntsAre ys ns ∧ (∀ x ∈ ns, 0 ≤ x ∧ x < 1000003) ∧ ns.length = us.length
  | _, _, .nil => ⟨[], .nil, (fun _ h => nomatch h), rfl⟩
  | _, _, .cons ⟨n, t, e, h⟩ r => by
    obtain ⟨ns, h1, h2, h3⟩ := small_ints r
    subst e
    exact ⟨n :: ns, .cons n t h1, fun x hx => by rcases List.mem_cons.mp hx with rfl | hx; exact h; exact h2 x hx, by simp [h3]⟩
theorem deck_spec {l : Addr} {vs : List Value} {ns : List Int} (M : Amb p loose mean mg mb w dp gs un base fs s.heap 10) (hl : base.IsList l vs.toArray) (hi : IntsAre vs ns) (hlen : ns.length ≤ 63)
    (post : ∀ d ll h' tk, DeckAt prog w h' d ll → s.heap.get? d = none → s.heap.get? ll = none → @Ne Nat d ll → Chg [] s.heap h' → R (.ok (.ret (.ref d))) { s with heap := h', toks := tk }) :
    codeAny (model prog w) (AA dp fs gs un) (.call (.ref 163) ⟨[.ref l], []⟩) R s := by
  w_on
  refine enterH M [] (fun _ h => nomatch h) off_nil ?_
  intro g L' h₁ F N B X T hg hg' hL'
  have hlg : g.IsList l vs.toArray := by obtain ⟨o, e, r⟩ := hl; exact ⟨o, B.stays _ _ e, r⟩
  have hvl : vs.length ≤ 63 := by have := hi.length; omega
  show wpAny _ _ _ _ _ _
  k_fold
  w_strict k_steps
  rename Fr _ _ _ _ => F
  rename News _ _ _ _ => N
  rename IntsAre _ (List.take 40 ns) => hI
  obtain ⟨D₁, hDe, hD1⟩ := news_hd N
  subst hDe
  have hwl := hI.length
  refine ⟨fun _ => true, SmallI, D₁, _, rfl, isl N (.head _), by rw [hwl]; simp; omega, ?_, ?_, ?_⟩
  · intro C v s₃ m₃ E' _ _ _ _
    exact tests0 ⟨rfl, _, _, rfl, fun _ _ e => e⟩
  · intro C v s₃ m₃ E' hvm _ hn hm hk
    obtain ⟨n, t, rfl⟩ := ints_mem hI v hvm
    w_strict k_steps
    all_goals first | exact ⟨_, _, rfl, Int.fmod_nonneg_of_pos _ (by decide), Int.fmod_lt_of_pos _ (by decide)⟩ | exact ⟨_, _, rfl, fun _ _ e => e⟩
  intro D₂ h' tk' ys n' hD hDn hF hk
  rw [List.filter_eq_self.mpr (fun _ _ => rfl)] at hF
  obtain ⟨zs, hz, hz2, hz3⟩ := small_ints hF
  have F' := F.keeps hk
  have N' := news_more N hk hDn hD F
  clear F N hF
  w_strict k_steps
  refine .mk (For1 ?_)
  w_strict k_steps
  rename Fr _ _ _ _ => F
  rename News _ _ _ _ => N
  have hls := isl N (by k_mem : (D₂, _) ∈ _)
  obtain ⟨h9, hh9⟩ := name_heap F
  subst hh9
  have hD₂ := (N (D₂, _) (by k_mem))
  have hlt : D₂ < h9.objs.size := Heap.lt_size hD₂.1
  have hLs : L' < h9.objs.size := F.ns.lt
  have hI2 : g.get? h9.objs.size = none := next_is_new F
  refine wpAny_pyIter_list hls ?_
  refine for1 (HI := fun _ h => News g L' h [(D₂, W.listOf ys.toArray n')]) (J := fun _ m => m (Str.ofString "left") = some (.ref D₂) ∧ ∃ mx t, m (Str.ofString "mixed") = some (.int mx t) ∧ 0 ≤ mx ∧ mx < 1000003)
    (Walks.list rfl h9.objs.size D₂ (Nat.ne_of_lt hlt) ys.toArray) rfl rfl ?_ ?_ (IO := fun _ => True) (fun _ _ _ _ _ _ _ => trivial) ?_ (F.push _) ?_ ⟨rfl, _, _, rfl, by decide, by decide⟩ ⟨⟨_, Heap.get?_push_size _ rfl, rfl, rfl⟩, hls.at fun o e => Heap.get?_push_of_some _ e⟩ ?_ ?_
  · intro b hb
    rw [List.mem_singleton.mp hb]
    exact ⟨hI2, Nat.ne_of_gt hLs⟩
  · intro hm
    rcases List.mem_cons.mp hm with e | hm
    · exact Nat.ne_of_lt hLs e
    · exact hD₂.2.1 (List.mem_singleton.mp hm).symm
  · intro i h h'' _ hN _ _ hk q hq
    have := hN q hq
    refine ⟨hk _ _ (fun hm => ?_) this.1, this.2⟩
    rw [List.mem_singleton.mp hq] at hm
    rcases List.mem_cons.mp hm with e | hm
    · exact hD₂.2.1 e
    · exact Nat.ne_of_lt hlt (List.mem_singleton.mp hm)
  · intro q hq
    rw [List.mem_singleton.mp hq]
    exact ⟨Heap.get?_push_of_some _ hD₂.1, hD₂.2⟩
  · rintro i v h tk m' hi' hv hN ⟨hj1, mx, t, hj2, hmx⟩ ⟨hit, hls'⟩ F
    obtain ⟨n, tn, rfl⟩ := ints_mem hz v (by simpa using List.mem_of_getElem? (i := i) (by simpa using hv))
    obtain ⟨oI, hoI, hoc, hod⟩ := hit
    have F := fr_kst3 (a := (Str.ofString "cell", .int n tn)) (b := (Str.ofString "left", .ref D₂)) (c := (Str.ofString "mixed", .int mx t)) F rfl hj1 hj2
    have N : News g L' h [(D₂, W.listOf ys.toArray n'), (h9.objs.size, oI)] := fun q hq => by
      rcases List.mem_cons.mp hq with rfl | hq
      · exact hN _ (.head _)
      · rw [List.mem_singleton.mp hq]
        exact ⟨hoI, Nat.ne_of_gt hLs, hI2⟩
    w_strict k_steps
    rename Fr _ _ _ _ => F
    rename News _ _ _ _ => N
    exact ⟨_, _, _, rfl, F, fun q hq => N q (by rw [List.mem_singleton.mp hq]; exact .head _), ⟨rfl, _, _, rfl, Int.fmod_nonneg_of_pos _ (by decide), Int.fmod_lt_of_pos _ (by decide)⟩, ⟨oI, (N (h9.objs.size, oI) (by k_mem)).1, hoc, hod⟩, isl N (by k_mem : (D₂, _) ∈ _)⟩
  · rintro h tk m' N ⟨hj1, mx, t, hj2, hmx⟩ F
    have F := fr_kst2 (a := (Str.ofString "left", .ref D₂)) (b := (Str.ofString "mixed", .int mx t)) F hj1 hj2
    w_strict k_steps
    rename Fr _ _ _ _ => F
    rename News _ _ _ _ => N
    rename Obj.IsDictOf _ _ _ => Dd
    rename (_ == sysModules) = false => lo
    have back : ∀ a, g.get? a = none → s.heap.get? a = none := fun a e => by
      cases q : s.heap.get? a with
      | none => rfl
      | some o =>
        rw [hg _ o q (fun h => nomatch h)] at e
        cases e
    show R _ _
    refine post _ D₂ _ _ ⟨_, ys, zs, mx, n', _, (N _ (.head _)).1, Dd, (N (D₂, _) (by k_mem)).1, hz, lo, hz2, by rw [hz3, hwl]; simp; omega, hmx⟩ (back _ (N _ (.head _)).2.2) (back _ hD₂.2.2) (Nat.ne_of_gt (by assumption)) (chg_sub hg (by first | kopn_word | simp) F N (fun _ h => nomatch h))
end
end
section
local macro_rules | `(tactic| walk_at "exec For Name Call cons nil") => `(tactic| refine hold_elim ?_)
theorem news_nil {g h : Heap} {L : Addr} : News g L h [] := fun _ h => nomatch h
theorem news_nilF {g h : Heap} {L : Addr} {m : Str → Option Value} (_ : Fr g L h m) : News g L h [] := fun _ h => nomatch h
theorem law_names {g h : Heap} {L a0 lv dv rl b dx : Addr} {o0 o1 o2 o3 o4 o5 : Obj} {r : List (Addr × Obj)} (_ : News g L h ((a0, o0) :: (lv, o1) :: (dv, o2) :: (rl, o3) :: (b, o4) :: (dx, o5) :: r)) :
    ∃ lv' dv' rl' b' dx', lv' = lv ∧ dv' = dv ∧ rl' = rl ∧ b' = b ∧ dx' = dx := ⟨_, _, _, _, _, rfl, rfl, rfl, rfl, rfl⟩
theorem tab_nil {q : Str} {h : Heap} {P : Addr} (e : h.get? P = some (tabObj #[])) : TabOk q h P #[] := ⟨e, trivial, fun pos v e => by cases e⟩
local macro_rules | `(tactic| walk_at "call ref") => `(tactic| ((fail_if_success (with_reducible show wpAny _ _ (call (Value.ref 154) _) _ _ _)); refine hold_elim ?_))
theorem main0 : PySem.Challenge.rw_og0236_01.Holds := hd (by
  w_on
  w_strict k_go0
  rename Below _ _ _ _ => K
  rename (Mine.hd.heap_1 _).In _ => X
  rename Top _ _ _ _ _ _ => T
  rename Fr _ _ _ _ => F
  rename News _ _ _ _ => N
  rename IntsAre _ _ => hI
  rename ¬ _ < _ => hlen
  clear hT8 hT9
  have M : Amb _ _ _ _ _ _ (1 + claimMargin) (some []) 4 _ [] _ 60 := ⟨K, X, T, by decide, by decide⟩
  show wpAny _ _ _ _ _ _
  k_fold
  w_strict k_steps
  have hlen' : (List.length _ : Nat) ≤ 63 := Nat.le_of_not_lt (fun h => hlen (Int.ofNat_lt.mpr h))
  refine .mk (wpAny_call (deck_spec ((M.deeper K F rfl rfl).less (by decide)) lifted hI hlen' fun d ll h₂ tk₂ D₂ hdn hln hdl C₂ => ?_))
  have F₂ := fr_chg0 F C₂
  have hd0 := fresh_g F hdn
  have hl0 := fresh_g F hln
  obtain ⟨odk, lik, e1, e2, ek2, hne, _, _⟩ := D₂.apart
  have n210 : @Ne Nat d 210 ∧ @Ne Nat ll 210 := ⟨ne_new hdn (N (210, _) (by k_mem)).1, ne_new hln (N (210, _) (by k_mem)).1⟩
  have N₂ := news_cons (news_cons (news_chg0 N C₂) e2 hl0.2 hl0.1) e1 hd0.2 hd0.1
  clear F N C₂
  try dsimp only
  w_strict k_steps
  rename Fr _ _ _ _ => F
  rename News _ _ _ _ => N
  refine .mk (wpAny_call (draw_spec (k := 0) ((M.deeper K F rfl rfl).less (by decide)) (ek2 _ (N (d, _) (by k_mem)).1 (N (ll, _) (by k_mem)).1) (.cons (off1 K N rfl (by k_mem : (d, _) ∈ _)) (.cons (off1 K N rfl (by k_mem : (ll, _) ∈ _)) off_nil)) (by decide) (by decide) fun v1 t1 h₃ tk₃ hv0 hv4 D₃ C₃ => ?_))
  have F₃ := fr_chg F C₃ (off_fr2 N (by k_mem : (d, _) ∈ _) (by k_mem : (ll, _) ∈ _))
  have h210 := C₃ _ _ (N (210, _) (by k_mem)).1 (by simp only [List.mem_cons, List.not_mem_nil, or_false, not_or]; exact ⟨n210.1.symm, n210.2.symm⟩)
  have h210' := (N (210, _) (by k_mem)).2
  clear D₂ ek2 e1 e2
  obtain ⟨odk, lik, e1, e2, ek2, _, _, _⟩ := D₃.apart
  have N₃ := news_cons (news_cons (news_cons news_nil h210 h210'.1 h210'.2) e2 hl0.2 hl0.1) e1 hd0.2 hd0.1
  clear F N C₃
  try dsimp only
  w_strict k_steps
  rename Fr _ _ _ _ => F
  rename News _ _ _ _ => N
  obtain ⟨lv, dv, rl, b, dx, q1, q2, q3, q4, q5⟩ := law_names N
  subst q1 q2 q3 q4 q5
  obtain ⟨h9, hh9⟩ := name_heap F
  subst hh9
  have D9 := ek2 h9 (N (d, _) (by k_mem)).1 (N (ll, _) (by k_mem)).1
  have B9 : BufAt _ h9 b dx rl [] [] (1 + v1) 0 := ⟨(N (b, _) (by k_mem)).1, ⟨_, _, _, _, _, (N (dx, _) (by k_mem)).1⟩, ⟨_, (N (rl, _) (by k_mem)).1⟩, .nil, by simp⟩
  have V9 : VAt _ _ h9 dv lv [] [] (1 + v1) 0 := ⟨⟨_, _, _, (N (dv, _) (by k_mem)).1, by assumption⟩, ⟨_, (N (lv, _) (by k_mem)).1⟩, .nil, by assumption, by simp⟩
  have hdl' : @Ne Nat d ll := hdl
  have hbx := ne_get (N (b, _) (by k_mem)).1 (N (dx, _) (by k_mem)).1 (by first | kopn_word | simp)
  have nd9 : ([d, ll, b, dx, rl, dv, lv, 210] : List Nat).Nodup := by
    simp only [List.nodup_cons, List.mem_cons, List.not_mem_nil, or_false, not_or, List.nodup_nil, and_true, not_false_eq_true]
    omega
  have S9 : AllAt _ _ h9 qL d ll b dx rl dv lv 210 [] [] [] [] (1 + v1) 0 0 := ⟨D9, B9, V9, ⟨_, tab_nil (N (210, _) (by k_mem)).1⟩, nd9⟩
  have H9 : ∀ a ∈ addrs d ll b dx rl dv lv 210 [], Heap.get? _ a = none ∧ a ≠ _ := fun a ha => by
    simp only [addrs, refs, List.filterMap_nil, List.append_nil, List.mem_cons, List.not_mem_nil, or_false] at ha
    rcases ha with rfl | rfl | rfl | rfl | rfl | rfl | rfl | rfl
    · exact (N (a, _) (by k_mem)).2.symm
    all_goals exact ⟨(N (_, _) (by k_mem)).2.2, (N (_, _) (by k_mem)).2.1⟩
  clear B9 V9 D9 ek2 e1 e2 D₃ h210 h210'
  have ndl : @Ne Nat d 210 ∧ @Ne Nat ll 210 := n210
  refine .mk (For1 ?_)
  clear N
  have N := news_nilF F
  w_strict k_steps
  rename Fr _ _ _ _ => F
  rename News _ _ _ _ => N
  refine .mk (wpAny_call (draw_spec (k := 0) ((M.deeper K F rfl rfl).less (by decide)) S9.deck (.cons (off_of K rfl (H9 d (by first | kopn_word | simp)).1 (H9 d (by first | kopn_word | simp)).2) (.cons (off_of K rfl (H9 ll (by first | kopn_word | simp)).1 (H9 ll (by first | kopn_word | simp)).2) off_nil)) (by decide) (by decide) fun v2 t2 h₄ tk₄ hw0 hw8 D₄ C₄ => ?_))
  have F₄ := fr_chg F C₄ (by exact (all1 (H9 d (by first | kopn_word | simp)) (all1 (H9 ll (by first | kopn_word | simp)) all0)))
  have S₄ := S9.deckC D₄ C₄
  have N₄ := news_nilF F₄
  clear F N S9 D₄ C₄
  try dsimp only
  w_strict k_steps
  rename IsRange _ _ _ _ _ _ _ _ => hR
  rename Fr _ _ _ _ => F
  rename News _ _ _ _ => N
  rename (∀ (b : Addr) (o : Obj), Heap.get? _ b = some o → Heap.get? _ b = some o) => hkeep
  obtain ⟨h5, hh5⟩ := name_heap F
  subst hh5
  have S₅ := S₄.chg (Δ := []) (fun a o e _ => hkeep a o e) (fun _ h => nomatch h) (fun _ h => nomatch h)
  obtain ⟨n, hn, hn8, hsm⟩ := range_facts (v := v2)
  have hLs := F.ns.lt
  have hI2 := next_is_new F
  have h210s : 210 < h5.objs.size := by obtain ⟨_, t, _⟩ := S₅.tab; exact Heap.lt_size t
  clear S₄ hkeep N
  refine wpAny_pyIter_range hR hsm ?_
  refine for1 (HI := hiOf S₅ F) (J := fun _ m => m (Str.ofString "deck") = some (.ref d) ∧ m (Str.ofString "buffers") = some (.ref b) ∧ m (Str.ofString "v") = some (.ref dv)) (IO := RngObj)
    (Walks.range rfl h5.objs.size 0 1 n) rfl rfl ?_ ?_ ?_ ?_ (F.push _) ?_ ⟨rfl, rfl, rfl⟩ ?_ ?_ ?_
  · intro b hb
    rw [List.mem_singleton.mp hb]
    exact ⟨hI2, Nat.ne_of_gt hLs⟩
  · intro hm
    exact Nat.ne_of_lt hLs (List.mem_singleton.mp hm)
  · intro i h hst b hb o e
    have hst : Heap.get? h _ = some _ := hst
    rw [List.mem_singleton.mp hb, hst] at e
    cases e
    exact ⟨_, _, _, rfl⟩
  · intro i h h' m hH F hio C
    exact hH.mv F (Nat.ne_of_gt h210s) (fun o e => hio _ (.head _) o e) (fun a o n e => C a o n e)
  · exact ⟨rl, lv, [], [], [], 0, S₅.chg (Δ := []) (fun a o e _ => Heap.get?_push_of_some _ e) (fun _ h => nomatch h) (fun _ h => nomatch h), H9, PInv.zero⟩
  · show IsRangeIter _ _ _ _ _
    rw [hn]
    first | exact Heap.get?_push_size _ rfl | simpa using Heap.get?_push_size _ rfl
  · rintro i v h tk m' hi hv hH ⟨j1, j2, j3⟩ hst F
    obtain ⟨rl₁, lv₁, bvs, vvs, rows, next, S, hid, P⟩ := hH
    have F := fr_kst3 (a := (Str.ofString "deck", .ref d)) (b := (Str.ofString "buffers", .ref b)) (c := (Str.ofString "v", .ref dv)) F j1 j2 j3
    have N := news_nilF F
    have hst : Heap.get? h _ = some _ := hst
    have hnr := S.notRng (I := h5.objs.size) (Nat.ne_of_gt h210s) (fun o e => by rw [hst] at e; cases e; exact ⟨_, _, _, rfl⟩)
    w_strict k_steps
    rename Fr _ _ _ _ => F
    rename News _ _ _ _ => N
    refine .mk (wpAny_call (deed_spec (tk0 := 0) ((M.deeper K F rfl rfl).less (by decide)) codeHd S (fun a ha => off_of K rfl (hid a ha).1 (hid a ha).2) P.nd (by have := P.len; omega) (by omega) (fresh_ex P (by omega)) (fun r hr => by have := P.sz r hr; omega) (fun a ha => ?_) fun h₆ tk₆ rl' lv' bvs' vvs' rows' next' S₆ O₆ ho Sl => ?_))
    · rw [frs_cons rfl] at ha
      rcases List.mem_cons.mp ha with rfl | ha
      · obtain ⟨oL, es, ep, hL, hd, _⟩ := F.ns
        exact ⟨oL, es, ep, hL, hd⟩
      · cases ha
    have F₆ := fr_slt K F rfl Sl hid
    have P₆ := P.step ho
    have hid₆ : ∀ a ∈ addrs d ll b dx rl' dv lv' 210 vvs', Heap.get? _ a = none ∧ a ≠ _ := fun a ha => ⟨(O₆ a ha).1, fun e => (O₆ a ha).2 (by show a ∈ frs _; rw [frs_cons rfl, e]; exact .head _)⟩
    have hst₆ := Sl.1 _ _ hst hnr (fun hm => by rw [frs_cons rfl] at hm; rcases List.mem_cons.mp hm with e | hm; exact Nat.ne_of_gt hLs e; cases hm)
    have N₆ := news_nilF F₆
    clear F N S hid P hst hnr Sl ho O₆
    try dsimp only
    w_strict k_steps
    rename Fr _ _ _ _ => F
    rename News _ _ _ _ => N
    refine .mk (wpAny_call (stands_spec ((M.deeper K F rfl rfl).less (by decide)) S₆.buf S₆.view (fun a ha => off_of K rfl (hid₆ a (by simp only [List.mem_cons, List.not_mem_nil, or_false] at ha; rcases ha with rfl | rfl | rfl | rfl | rfl <;> simp)).1 (hid₆ a (by simp only [List.mem_cons, List.not_mem_nil, or_false] at ha; rcases ha with rfl | rfl | rfl | rfl | rfl <;> simp)).2) P₆.nd (fun r hr => by have := P₆.sz r hr; omega) fun h₇ tk₇ C₇ => ?_))
    have F₇ := fr_chg0 F C₇
    have S₇ := S₆.chg (Δ := []) C₇ (fun _ h => nomatch h) (fun _ h => nomatch h)
    have hst₇ := C₇ _ _ hst₆ (fun h => nomatch h)
    have N₇ := news_nilF F₇
    clear F N S₆ hst₆ C₇
    try dsimp only
    w_strict k_steps
    rename Fr _ _ _ _ => F
    exact ⟨_, _, _, rfl, F, ⟨rl', lv', bvs', vvs', rows', next', S₇, hid₆, P₆⟩, ⟨rfl, rfl, rfl⟩, hst₇⟩
  · rintro h tk m' ⟨rl', lv', bvs', vvs', rows', next', S, hid, P⟩ ⟨j1, j2, j3⟩ F
    obtain ⟨ps, t1, t2, t3⟩ := S.tab
    have N := news_cons (news_nilF F) t1 (hid 210 (by first | kopn_word | simp)).2 (hid 210 (by first | kopn_word | simp)).1
    w_strict k_steps)
end
end Mine
theorem PySem.Challenge.cw_og0236_01_holds : PySem.Challenge.rw_og0236_01.Holds :=
  Mine.main0
