import PyProof.Rows.All
import Wide.All
import OpenK.AllK
import Wide.FinOn
import Lean
import PySem.Challenge.RW_nt0177_01
set_option Elab.async false
set_option linter.unusedVariables false
set_option linter.unusedSimpArgs false
set_option maxRecDepth 100000
namespace Mine
section
open PySem PySem.W PyProof.Rows
/-! Head1 -/
/-- the run of the top over a tree heap -/
noncomputable def runG (ok : Thread → Bool) (st : SharedT → Thread → Option (SharedT × Thread)) (n : Nat) : SharedT → Thread → Option SharedT :=
  @Nat.rec (fun _ => SharedT → Thread → Option SharedT) (fun _ _ => none) (fun _ ih s t =>
    @Bool.rec (fun _ => Option SharedT)
      (@Bool.rec (fun _ => Option SharedT) none (@Option.rec (SharedT × Thread) (fun _ => Option SharedT) none (fun r => ih r.1 r.2) (st s t)) (ok t))
      (some s) (through t)) n

theorem runG_spec {p : Program} {w : World} {n₀ : Nat} {ann : Option Value} {tb : String → Option Builtin} : ∀ (n : Nat) (s : SharedT) (t : Thread) (r : SharedT),
    runG (stepOk n₀ ann) (stepT (denote tb) p w) n s t = some r → topRun tb p w n₀ ann n s.abs t = some r.abs
  | 0, _, _, _, h => by cases h
  | n + 1, s, t, r, h => by
    unfold topRun
    have h' : @Bool.rec (fun _ => Option SharedT)
      (@Bool.rec (fun _ => Option SharedT) none (@Option.rec (SharedT × Thread) (fun _ => Option SharedT) none (fun r => runG (stepOk n₀ ann) (stepT (denote tb) p w) n r.1 r.2) (stepT (denote tb) p w s t)) (stepOk n₀ ann t))
      (some s) (through t) = some r := h
    cases ht : through t with
    | true => rw [ht] at h'; cases h'; rfl
    | false =>
      rw [ht] at h'
      cases hk : stepOk n₀ ann t with
      | false => rw [hk] at h'; cases h'
      | true =>
        rw [hk] at h'
        cases hs : stepT (denote tb) p w s t with
        | none => rw [hs] at h'; cases h'
        | some x =>
          obtain ⟨s₂, t₂⟩ := x
          rw [hs] at h'
          dsimp only
          rw [stepT_spec hs]
          exact runG_spec n s₂ t₂ r h'

noncomputable def bootTree (P : Params) : BT := .node (boot_o_0 P) (.node (boot_o_1 P) (.node (boot_o_3 P) (.node (boot_o_7 P) .nil .nil) .nil) (.node (boot_o_5 P) (.node (boot_o_9 P) .nil .nil) .nil)) (.node (boot_o_2 P) (.node (boot_o_4 P) (.node (boot_o_8 P) .nil .nil) .nil) (.node (boot_o_6 P) (.node (boot_o_10 P) .nil .nil) .nil))
theorem boot_abs (P : Params) : absHeap (bootTree P) 11 {} = boot_heap P := by
  rfl

theorem left_of_tree {p q : Program} {loose : List Str} {Xt : Shared → Bool} {α : Type} {Yf : Shared → α} {Ya : World → α} {N M m₀ : Nat} {ann : Option Value}
    (e : opening p = plainProg p.main.scope.names) (hN : Nat.ble 600 N = true) (f : ∀ s, fenceModules? p s = some s)
    (size : ∀ P : Params, ((boot_heap P).isNs mainGlobals, (boot_heap P).objs.size, (boot_heap P).nsMap mainGlobals "__annotations__") = (true, m₀, ann))
    (le : Nat.ble M N = true)
    (run : ∀ (w : World) (os : OsState), (runG (stepOk m₀ ann) (stepT (denote treeTable) p w) M ⟨bootTree w.params, 11, {}, #[], boot_drawn, boot_toks, os⟩ (topStub p)).map (fun s =>
        (staticsOk (importedModules p.main.body) (boot_heap w.params) s.abs.heap && namesBound p s.abs.heap && gensDone s.abs && laidKept (boot_heap w.params) s.abs.heap,
         openSeen q loose (importedModules p.main.body) Xt true s.abs, Yf s.abs)) = some (true, openGood q loose, Ya w)) : LeftO p q loose Xt Yf Ya N true := fun w => by
  obtain ⟨⟨h, gs, d, k, os⟩, e1, e'⟩ := Option.map_eq_some_iff.mp (boot_open e hN f w)
  obtain ⟨rfl, rfl, rfl, rfl⟩ : h = boot_heap w.params ∧ gs = Array.mk [] ∧ d = boot_drawn ∧ k = boot_toks := by simpa using e'
  obtain ⟨z1, z2, z3⟩ : _ ∧ _ ∧ _ := by simpa only [Prod.mk.injEq] using size w.params
  obtain ⟨s', h1, h2⟩ := Option.map_eq_some_iff.mp (run w os)
  obtain ⟨l1, l2, l3⟩ : _ ∧ _ ∧ _ := by simpa only [Prod.mk.injEq] using h2
  have r := topRun_mono (N - M) _ _ _ _ (runG_spec _ _ _ _ h1)
  rw [show M + (N - M) = N by have := Nat.le_of_ble_eq_true le; omega] at r
  have a : SharedT.abs ⟨bootTree w.params, 11, {}, #[], boot_drawn, boot_toks, os⟩ = ⟨boot_heap w.params, Array.mk [], boot_drawn, boot_toks, os⟩ := by
    unfold SharedT.abs; rw [boot_abs]
  rw [a] at r
  have t : topFrom treeTable p w N ⟨boot_heap w.params, Array.mk [], boot_drawn, boot_toks, os⟩ = some s'.abs := by
    unfold topFrom
    dsimp only
    rw [z1, z2, z3, r]
    show (match staticsOk (importedModules p.main.body) (boot_heap w.params) s'.abs.heap && namesBound p s'.abs.heap && gensDone s'.abs && laidKept (boot_heap w.params) s'.abs.heap with | true => _ | false => _) = _
    rw [l1]
  unfold openEnds
  rw [e1]
  show (topFrom treeTable p w N _).map _ = _
  rw [t]
  exact congrArg some (Prod.ext l2 l3)
end
section
open PySem PySem.W PyProof.Rows
open PySem.Challenge
/-! Head2 -/
noncomputable def looseL : List Str := (["_wall", "CONST", "LOCAL", "GLOBAL", "SET_LOCAL", "SET_GLOBAL", "DEFINE", "IF"] : List Str) ++ (["LAMBDA", "CALL", "SEQ", "PRIM", "FIX", "Node", "Const", "Local"] : List Str) ++ (["Global", "SetLocal", "SetGlobal", "Define", "If", "Lambda", "Call", "Seq"] : List Str) ++ (["Prim", "Fix", "is_let", "TOP", "Facts", "count_in", "note_node", "facts_of"] : List Str) ++ (["LIST", "_law_draw", "_law_deck_of", "_law_one", "_law_new", "_law_lam", "_law_node_of", "_law_is_own_let"] : List Str) ++ (["_law_walk", "_law_count", "_law_taken", "_law_is_caught"] : List Str)
theorem and_t {a b : Bool} (x : a = true) (y : b = true) : (a && b) = true := by rw [x, y]; rfl
theorem said : rw_nt0177_01.wellSaid = true := by
  delta OpenLaw.wellSaid
  repeat' with_reducible refine and_t ?_ ?_
  delta OpenRow.wellSaid
  repeat' with_reducible refine and_t ?_ ?_
  delta OpenRow.partSaid
  repeat' with_reducible refine and_t ?_ ?_
  delta looksOpen
  repeat' with_reducible refine and_t ?_ ?_
  all_goals decide +kernel
noncomputable def theView : Program := view (rw_nt0177_01.row.toRowW.prog) [47]
/-! Kdef -/
/-- the text's statements, as the top's run meets them -/
noncomputable def tProg : Program := rw_nt0177_01.row.toRowW.prog
noncomputable def dAt (i : Nat) : Stmt := (tProg.main.body[i]?).getD (.Pass default)
noncomputable def inCls : Stmt → List Stmt
  | .ClassDef _ _ _ b _ _ _ _ _ _ _ => b
  | _ => []
noncomputable def mAt (i j : Nat) : Stmt := ((inCls (dAt i))[j]?).getD (.Pass default)
noncomputable def fdA : Stmt → Arguments
  | .FunctionDef _ a _ _ _ _ _ _ _ _ => a
  | _ => default
noncomputable def fdB : Stmt → List Stmt
  | .FunctionDef _ _ b _ _ _ _ _ _ _ => b
  | _ => []
noncomputable def fdS : Stmt → Scope
  | .FunctionDef _ _ _ _ _ _ sc _ _ _ => sc
  | _ => default
noncomputable def q_claim_cut_py : Str := ⟨#[47, 99, 108, 97, 105, 109, 47, 99, 117, 116, 46, 112, 121]⟩
noncomputable def q_CALL : Str := ⟨#[67, 65, 76, 76]⟩
noncomputable def q_CONST : Str := ⟨#[67, 79, 78, 83, 84]⟩
noncomputable def q_Call : Str := ⟨#[67, 97, 108, 108]⟩
noncomputable def q_Call_U__initUU : Str := ⟨#[67, 97, 108, 108, 46, 95, 95, 105, 110, 105, 116, 95, 95]⟩
noncomputable def q_Call_parts : Str := ⟨#[67, 97, 108, 108, 46, 112, 97, 114, 116, 115]⟩
noncomputable def q_Const : Str := ⟨#[67, 111, 110, 115, 116]⟩
noncomputable def q_Const_U__initUU : Str := ⟨#[67, 111, 110, 115, 116, 46, 95, 95, 105, 110, 105, 116, 95, 95]⟩
noncomputable def q_DEFINE : Str := ⟨#[68, 69, 70, 73, 78, 69]⟩
noncomputable def q_Define : Str := ⟨#[68, 101, 102, 105, 110, 101]⟩
noncomputable def q_Define_U__initUU : Str := ⟨#[68, 101, 102, 105, 110, 101, 46, 95, 95, 105, 110, 105, 116, 95, 95]⟩
noncomputable def q_Define_parts : Str := ⟨#[68, 101, 102, 105, 110, 101, 46, 112, 97, 114, 116, 115]⟩
noncomputable def q_FIX : Str := ⟨#[70, 73, 88]⟩
noncomputable def q_Facts : Str := ⟨#[70, 97, 99, 116, 115]⟩
noncomputable def q_Facts_U__initUU : Str := ⟨#[70, 97, 99, 116, 115, 46, 95, 95, 105, 110, 105, 116, 95, 95]⟩
noncomputable def q_Facts_free : Str := ⟨#[70, 97, 99, 116, 115, 46, 102, 114, 101, 101]⟩
noncomputable def q_Facts_is_set : Str := ⟨#[70, 97, 99, 116, 115, 46, 105, 115, 95, 115, 101, 116]⟩
noncomputable def q_Facts_is_set_global : Str := ⟨#[70, 97, 99, 116, 115, 46, 105, 115, 95, 115, 101, 116, 95, 103, 108, 111, 98, 97, 108]⟩
noncomputable def q_Facts_meet : Str := ⟨#[70, 97, 99, 116, 115, 46, 109, 101, 101, 116]⟩
noncomputable def q_Facts_times_called : Str := ⟨#[70, 97, 99, 116, 115, 46, 116, 105, 109, 101, 115, 95, 99, 97, 108, 108, 101, 100]⟩
noncomputable def q_Facts_times_read : Str := ⟨#[70, 97, 99, 116, 115, 46, 116, 105, 109, 101, 115, 95, 114, 101, 97, 100]⟩
noncomputable def q_Fix : Str := ⟨#[70, 105, 120]⟩
noncomputable def q_Fix_U__initUU : Str := ⟨#[70, 105, 120, 46, 95, 95, 105, 110, 105, 116, 95, 95]⟩
noncomputable def q_Fix_parts : Str := ⟨#[70, 105, 120, 46, 112, 97, 114, 116, 115]⟩
noncomputable def q_GLOBAL : Str := ⟨#[71, 76, 79, 66, 65, 76]⟩
noncomputable def q_Global : Str := ⟨#[71, 108, 111, 98, 97, 108]⟩
noncomputable def q_Global_U__initUU : Str := ⟨#[71, 108, 111, 98, 97, 108, 46, 95, 95, 105, 110, 105, 116, 95, 95]⟩
noncomputable def q_IF : Str := ⟨#[73, 70]⟩
noncomputable def q_If : Str := ⟨#[73, 102]⟩
noncomputable def q_If_U__initUU : Str := ⟨#[73, 102, 46, 95, 95, 105, 110, 105, 116, 95, 95]⟩
noncomputable def q_If_parts : Str := ⟨#[73, 102, 46, 112, 97, 114, 116, 115]⟩
noncomputable def q_LAMBDA : Str := ⟨#[76, 65, 77, 66, 68, 65]⟩
noncomputable def q_LIST : Str := ⟨#[76, 73, 83, 84]⟩
noncomputable def q_LOCAL : Str := ⟨#[76, 79, 67, 65, 76]⟩
noncomputable def q_Lambda : Str := ⟨#[76, 97, 109, 98, 100, 97]⟩
noncomputable def q_Lambda_U__initUU : Str := ⟨#[76, 97, 109, 98, 100, 97, 46, 95, 95, 105, 110, 105, 116, 95, 95]⟩
noncomputable def q_Lambda_binders : Str := ⟨#[76, 97, 109, 98, 100, 97, 46, 98, 105, 110, 100, 101, 114, 115]⟩
noncomputable def q_Lambda_parts : Str := ⟨#[76, 97, 109, 98, 100, 97, 46, 112, 97, 114, 116, 115]⟩
noncomputable def q_Local : Str := ⟨#[76, 111, 99, 97, 108]⟩
noncomputable def q_Local_U__initUU : Str := ⟨#[76, 111, 99, 97, 108, 46, 95, 95, 105, 110, 105, 116, 95, 95]⟩
noncomputable def q_Node : Str := ⟨#[78, 111, 100, 101]⟩
noncomputable def q_Node_parts : Str := ⟨#[78, 111, 100, 101, 46, 112, 97, 114, 116, 115]⟩
noncomputable def q_PRIM : Str := ⟨#[80, 82, 73, 77]⟩
noncomputable def q_Prim : Str := ⟨#[80, 114, 105, 109]⟩
noncomputable def q_Prim_U__initUU : Str := ⟨#[80, 114, 105, 109, 46, 95, 95, 105, 110, 105, 116, 95, 95]⟩
noncomputable def q_Prim_parts : Str := ⟨#[80, 114, 105, 109, 46, 112, 97, 114, 116, 115]⟩
noncomputable def q_SEQ : Str := ⟨#[83, 69, 81]⟩
noncomputable def q_SET_GLOBAL : Str := ⟨#[83, 69, 84, 95, 71, 76, 79, 66, 65, 76]⟩
noncomputable def q_SET_LOCAL : Str := ⟨#[83, 69, 84, 95, 76, 79, 67, 65, 76]⟩
noncomputable def q_Seq : Str := ⟨#[83, 101, 113]⟩
noncomputable def q_Seq_U__initUU : Str := ⟨#[83, 101, 113, 46, 95, 95, 105, 110, 105, 116, 95, 95]⟩
noncomputable def q_Seq_parts : Str := ⟨#[83, 101, 113, 46, 112, 97, 114, 116, 115]⟩
noncomputable def q_SetGlobal : Str := ⟨#[83, 101, 116, 71, 108, 111, 98, 97, 108]⟩
noncomputable def q_SetGlobal_U__initUU : Str := ⟨#[83, 101, 116, 71, 108, 111, 98, 97, 108, 46, 95, 95, 105, 110, 105, 116, 95, 95]⟩
noncomputable def q_SetGlobal_parts : Str := ⟨#[83, 101, 116, 71, 108, 111, 98, 97, 108, 46, 112, 97, 114, 116, 115]⟩
noncomputable def q_SetLocal : Str := ⟨#[83, 101, 116, 76, 111, 99, 97, 108]⟩
noncomputable def q_SetLocal_U__initUU : Str := ⟨#[83, 101, 116, 76, 111, 99, 97, 108, 46, 95, 95, 105, 110, 105, 116, 95, 95]⟩
noncomputable def q_SetLocal_parts : Str := ⟨#[83, 101, 116, 76, 111, 99, 97, 108, 46, 112, 97, 114, 116, 115]⟩
noncomputable def q_TOP : Str := ⟨#[84, 79, 80]⟩
noncomputable def q_U_annotationsUU : Str := ⟨#[95, 95, 97, 110, 110, 111, 116, 97, 116, 105, 111, 110, 115, 95, 95]⟩
noncomputable def q_U_builtinsUU : Str := ⟨#[95, 95, 98, 117, 105, 108, 116, 105, 110, 115, 95, 95]⟩
noncomputable def q_U_cachedUU : Str := ⟨#[95, 95, 99, 97, 99, 104, 101, 100, 95, 95]⟩
noncomputable def q_U_dictUU : Str := ⟨#[95, 95, 100, 105, 99, 116, 95, 95]⟩
noncomputable def q_U_docUU : Str := ⟨#[95, 95, 100, 111, 99, 95, 95]⟩
noncomputable def q_U_fileUU : Str := ⟨#[95, 95, 102, 105, 108, 101, 95, 95]⟩
noncomputable def q_U_firstlinenoUU : Str := ⟨#[95, 95, 102, 105, 114, 115, 116, 108, 105, 110, 101, 110, 111, 95, 95]⟩
noncomputable def q_U_initUU : Str := ⟨#[95, 95, 105, 110, 105, 116, 95, 95]⟩
noncomputable def q_U_loaderUU : Str := ⟨#[95, 95, 108, 111, 97, 100, 101, 114, 95, 95]⟩
noncomputable def q_U_moduleUU : Str := ⟨#[95, 95, 109, 111, 100, 117, 108, 101, 95, 95]⟩
noncomputable def q_U_nameUU : Str := ⟨#[95, 95, 110, 97, 109, 101, 95, 95]⟩
noncomputable def q_U_packageUU : Str := ⟨#[95, 95, 112, 97, 99, 107, 97, 103, 101, 95, 95]⟩
noncomputable def q_U_specUU : Str := ⟨#[95, 95, 115, 112, 101, 99, 95, 95]⟩
noncomputable def q_U_static_attributesUU : Str := ⟨#[95, 95, 115, 116, 97, 116, 105, 99, 95, 97, 116, 116, 114, 105, 98, 117, 116, 101, 115, 95, 95]⟩
noncomputable def q_U_weakrefUU : Str := ⟨#[95, 95, 119, 101, 97, 107, 114, 101, 102, 95, 95]⟩
noncomputable def q_law_count : Str := ⟨#[95, 108, 97, 119, 95, 99, 111, 117, 110, 116]⟩
noncomputable def q_law_deck_of : Str := ⟨#[95, 108, 97, 119, 95, 100, 101, 99, 107, 95, 111, 102]⟩
noncomputable def q_law_draw : Str := ⟨#[95, 108, 97, 119, 95, 100, 114, 97, 119]⟩
noncomputable def q_law_is_caught : Str := ⟨#[95, 108, 97, 119, 95, 105, 115, 95, 99, 97, 117, 103, 104, 116]⟩
noncomputable def q_law_is_own_let : Str := ⟨#[95, 108, 97, 119, 95, 105, 115, 95, 111, 119, 110, 95, 108, 101, 116]⟩
noncomputable def q_law_lam : Str := ⟨#[95, 108, 97, 119, 95, 108, 97, 109]⟩
noncomputable def q_law_new : Str := ⟨#[95, 108, 97, 119, 95, 110, 101, 119]⟩
noncomputable def q_law_node_of : Str := ⟨#[95, 108, 97, 119, 95, 110, 111, 100, 101, 95, 111, 102]⟩
noncomputable def q_law_one : Str := ⟨#[95, 108, 97, 119, 95, 111, 110, 101]⟩
noncomputable def q_law_taken : Str := ⟨#[95, 108, 97, 119, 95, 116, 97, 107, 101, 110]⟩
noncomputable def q_law_walk : Str := ⟨#[95, 108, 97, 119, 95, 119, 97, 108, 107]⟩
noncomputable def q_wall : Str := ⟨#[95, 119, 97, 108, 108]⟩
noncomputable def q_binders : Str := ⟨#[98, 105, 110, 100, 101, 114, 115]⟩
noncomputable def q_count_in : Str := ⟨#[99, 111, 117, 110, 116, 95, 105, 110]⟩
noncomputable def q_facts_of : Str := ⟨#[102, 97, 99, 116, 115, 95, 111, 102]⟩
noncomputable def q_free : Str := ⟨#[102, 114, 101, 101]⟩
noncomputable def q_is_let : Str := ⟨#[105, 115, 95, 108, 101, 116]⟩
noncomputable def q_is_set : Str := ⟨#[105, 115, 95, 115, 101, 116]⟩
noncomputable def q_is_set_global : Str := ⟨#[105, 115, 95, 115, 101, 116, 95, 103, 108, 111, 98, 97, 108]⟩
noncomputable def q_kind : Str := ⟨#[107, 105, 110, 100]⟩
noncomputable def q_law : Str := ⟨#[108, 97, 119]⟩
noncomputable def q_law_nt0177_01 : Str := ⟨#[108, 97, 119, 95, 110, 116, 48, 49, 55, 55, 95, 48, 49]⟩
noncomputable def q_meet : Str := ⟨#[109, 101, 101, 116]⟩
noncomputable def q_note_node : Str := ⟨#[110, 111, 116, 101, 95, 110, 111, 100, 101]⟩
noncomputable def q_parts : Str := ⟨#[112, 97, 114, 116, 115]⟩
noncomputable def q_scheme_core : Str := ⟨#[115, 99, 104, 101, 109, 101, 46, 99, 111, 114, 101]⟩
noncomputable def q_scheme_facts : Str := ⟨#[115, 99, 104, 101, 109, 101, 46, 102, 97, 99, 116, 115]⟩
noncomputable def q_takes : Str := ⟨#[116, 97, 107, 101, 115]⟩
noncomputable def q_times_called : Str := ⟨#[116, 105, 109, 101, 115, 95, 99, 97, 108, 108, 101, 100]⟩
noncomputable def q_times_read : Str := ⟨#[116, 105, 109, 101, 115, 95, 114, 101, 97, 100]⟩
noncomputable def q_with_parts : Str := ⟨#[119, 105, 116, 104, 95, 112, 97, 114, 116, 115]⟩
noncomputable def ob3 (P : Params) : Obj := ⟨(.type "dict"), .none, (.dict #[⟨PyData.keyHash P q_U_nameUU, (.str q_U_nameUU 165), (.str q_law_nt0177_01 877)⟩, ⟨PyData.keyHash P q_U_docUU, (.str q_U_docUU 166), .none⟩, ⟨PyData.keyHash P q_U_packageUU, (.str q_U_packageUU 167), .none⟩, ⟨PyData.keyHash P q_U_loaderUU, (.str q_U_loaderUU 168), (.builtin "__main__.__loader__#opaque")⟩, ⟨PyData.keyHash P q_U_specUU, (.str q_U_specUU 169), .none⟩, ⟨PyData.keyHash P q_U_annotationsUU, (.str q_U_annotationsUU 170), (.ref 6)⟩, ⟨PyData.keyHash P q_U_builtinsUU, (.str q_U_builtinsUU 171), (.ref 4)⟩, ⟨PyData.keyHash P q_U_fileUU, (.str q_U_fileUU 173), (.str q_claim_cut_py 172)⟩, ⟨PyData.keyHash P q_U_cachedUU, (.str q_U_cachedUU 174), .none⟩, ⟨PyData.keyHash P q_wall, (.str q_wall 193), (.ref 21)⟩, ⟨PyData.keyHash P q_CONST, (.str q_CONST 197), (.int (0) 196)⟩, ⟨PyData.keyHash P q_LOCAL, (.str q_LOCAL 199), (.int (1) 198)⟩, ⟨PyData.keyHash P q_GLOBAL, (.str q_GLOBAL 201), (.int (2) 200)⟩, ⟨PyData.keyHash P q_SET_LOCAL, (.str q_SET_LOCAL 203), (.int (3) 202)⟩, ⟨PyData.keyHash P q_SET_GLOBAL, (.str q_SET_GLOBAL 205), (.int (4) 204)⟩, ⟨PyData.keyHash P q_DEFINE, (.str q_DEFINE 207), (.int (5) 206)⟩, ⟨PyData.keyHash P q_IF, (.str q_IF 209), (.int (6) 208)⟩, ⟨PyData.keyHash P q_LAMBDA, (.str q_LAMBDA 211), (.int (7) 210)⟩, ⟨PyData.keyHash P q_CALL, (.str q_CALL 213), (.int (8) 212)⟩, ⟨PyData.keyHash P q_SEQ, (.str q_SEQ 215), (.int (9) 214)⟩, ⟨PyData.keyHash P q_PRIM, (.str q_PRIM 217), (.int (10) 216)⟩, ⟨PyData.keyHash P q_FIX, (.str q_FIX 219), (.int (11) 218)⟩, ⟨PyData.keyHash P q_Node, (.str q_Node 257), (.ref 45)⟩, ⟨PyData.keyHash P q_Const, (.str q_Const 283), (.ref 66)⟩, ⟨PyData.keyHash P q_Local, (.str q_Local 309), (.ref 85)⟩, ⟨PyData.keyHash P q_Global, (.str q_Global 335), (.ref 104)⟩, ⟨PyData.keyHash P q_SetLocal, (.str q_SetLocal 378), (.ref 137)⟩, ⟨PyData.keyHash P q_SetGlobal, (.str q_SetGlobal 421), (.ref 170)⟩, ⟨PyData.keyHash P q_Define, (.str q_Define 464), (.ref 203)⟩, ⟨PyData.keyHash P q_If, (.str q_If 509), (.ref 236)⟩, ⟨PyData.keyHash P q_Lambda, (.str q_Lambda 571), (.ref 283)⟩, ⟨PyData.keyHash P q_Call, (.str q_Call 614), (.ref 316)⟩, ⟨PyData.keyHash P q_Seq, (.str q_Seq 655), (.ref 349)⟩, ⟨PyData.keyHash P q_Prim, (.str q_Prim 698), (.ref 382)⟩, ⟨PyData.keyHash P q_Fix, (.str q_Fix 743), (.ref 415)⟩, ⟨PyData.keyHash P q_is_let, (.str q_is_let 750), (.ref 424)⟩, ⟨PyData.keyHash P q_TOP, (.str q_TOP 755), (.int (-1) 754)⟩, ⟨PyData.keyHash P q_Facts, (.str q_Facts 842), (.ref 483)⟩, ⟨PyData.keyHash P q_count_in, (.str q_count_in 850), (.ref 494)⟩, ⟨PyData.keyHash P q_note_node, (.str q_note_node 860), (.ref 501)⟩, ⟨PyData.keyHash P q_facts_of, (.str q_facts_of 874), (.ref 508)⟩, ⟨PyData.keyHash P q_LIST, (.str q_LIST 876), (.int (46) 875)⟩, ⟨PyData.keyHash P q_law_draw, (.str q_law_draw 887), (.ref 515)⟩, ⟨PyData.keyHash P q_law_deck_of, (.str q_law_deck_of 893), (.ref 520)⟩, ⟨PyData.keyHash P q_law_one, (.str q_law_one 901), (.ref 527)⟩, ⟨PyData.keyHash P q_law_new, (.str q_law_new 909), (.ref 534)⟩, ⟨PyData.keyHash P q_law_lam, (.str q_law_lam 915), (.ref 539)⟩, ⟨PyData.keyHash P q_law_node_of, (.str q_law_node_of 921), (.ref 544)⟩, ⟨PyData.keyHash P q_law_is_own_let, (.str q_law_is_own_let 928), (.ref 551)⟩, ⟨PyData.keyHash P q_law_walk, (.str q_law_walk 942), (.ref 558)⟩, ⟨PyData.keyHash P q_law_count, (.str q_law_count 948), (.ref 563)⟩, ⟨PyData.keyHash P q_law_taken, (.str q_law_taken 961), (.ref 570)⟩, ⟨PyData.keyHash P q_law_is_caught, (.str q_law_is_caught 967), (.ref 575)⟩, ⟨PyData.keyHash P q_law, (.str q_law 992), (.ref 582)⟩] 54), #[]⟩
noncomputable def ob34 (P : Params) : Obj := ⟨(.type "code"), .none, (.fields #[(.str q_parts 235), (.str q_Node_parts 236), (.str q_claim_cut_py 237), (.int (20) 0), (.int (1) 0), (.int (0) 0), (.int (0) 0), (.int (3) 0), (.ref 29), (.bool true), (.int (181) 0), (.ref 30), .none, (.ref 31), (.ref 32), (.ref 33), (.int (239) 0), (.int (20) 0), (.str q_claim_cut_py 240)]), #[]⟩
noncomputable def ob35 (P : Params) : Obj := ⟨(.type "function"), .none, (.func { name := q_parts, qualname := q_Node_parts, params := (fdA (mAt 14 1)), body := .stmts (fdB (mAt 14 1)), scope := (fdS (mAt 14 1)), globals := 3, closure := [], defaults := .none, kwdefaults := .none, doc := .none, pyModule := (.str q_scheme_core 194), annotations := .none, code := (.ref 34), closureTuple := .none, builtins := 0 }), #[]⟩
noncomputable def ob44 (P : Params) : Obj := ⟨(.type "dict"), .none, (.dict #[⟨PyData.keyHash P q_U_moduleUU, (.str q_U_moduleUU 227), (.str q_scheme_core 194)⟩, ⟨PyData.keyHash P q_U_firstlinenoUU, (.str q_U_firstlinenoUU 231), (.int (17) 230)⟩, ⟨PyData.keyHash P q_kind, (.str q_kind 234), (.int (-1) 233)⟩, ⟨PyData.keyHash P q_parts, (.str q_parts 241), (.ref 35)⟩, ⟨PyData.keyHash P q_with_parts, (.str q_with_parts 249), (.ref 42)⟩, ⟨PyData.keyHash P q_U_static_attributesUU, (.str q_U_static_attributesUU 250), (.ref 43)⟩, ⟨PyData.keyHash P q_U_dictUU, (.str q_U_dictUU 252), (.ref 46)⟩, ⟨PyData.keyHash P q_U_weakrefUU, (.str q_U_weakrefUU 254), (.ref 47)⟩, ⟨PyData.keyHash P q_U_docUU, (.str q_U_docUU 255), .none⟩] 4), #[]⟩
noncomputable def ob45 (P : Params) : Obj := ⟨(.type "type"), .none, (.cls { name := q_Node, bases := [(.type "object")], mro := [(.ref 45), (.type "object")], ns := 44, qualname := q_Node, hasDict := true, slotNames := [], subclasses := [(.ref 66), (.ref 85), (.ref 104), (.ref 137), (.ref 170), (.ref 203), (.ref 236), (.ref 283), (.ref 316), (.ref 349), (.ref 382), (.ref 415)], abstract := false, collection := .none, hasDel := false }), #[.none, .none, .some (.str q_Node 220), .some (.str q_Node 228), .some (.builtin "object.__new__"), .some (.bool true)]⟩
noncomputable def ob62 (P : Params) : Obj := ⟨(.type "code"), .none, (.fields #[(.str q_U_initUU 271), (.str q_Const_U__initUU 272), (.str q_claim_cut_py 273), (.int (28) 0), (.int (2) 0), (.int (0) 0), (.int (0) 0), (.int (3) 0), (.ref 57), (.bool true), (.int (181) 0), (.ref 58), .none, (.ref 59), (.ref 60), (.ref 61), (.int (276) 0), (.int (28) 0), (.str q_claim_cut_py 277)]), #[]⟩
noncomputable def ob63 (P : Params) : Obj := ⟨(.type "function"), .none, (.func { name := q_U_initUU, qualname := q_Const_U__initUU, params := (fdA (mAt 15 1)), body := .stmts (fdB (mAt 15 1)), scope := (fdS (mAt 15 1)), globals := 3, closure := [], defaults := .none, kwdefaults := .none, doc := .none, pyModule := (.str q_scheme_core 194), annotations := .none, code := (.ref 62), closureTuple := .none, builtins := 0 }), #[]⟩
noncomputable def ob65 (P : Params) : Obj := ⟨(.type "dict"), .none, (.dict #[⟨PyData.keyHash P q_U_moduleUU, (.str q_U_moduleUU 265), (.str q_scheme_core 194)⟩, ⟨PyData.keyHash P q_U_firstlinenoUU, (.str q_U_firstlinenoUU 269), (.int (25) 268)⟩, ⟨PyData.keyHash P q_kind, (.str q_kind 270), (.int (0) 196)⟩, ⟨PyData.keyHash P q_U_initUU, (.str q_U_initUU 278), (.ref 63)⟩, ⟨PyData.keyHash P q_U_static_attributesUU, (.str q_U_static_attributesUU 280), (.ref 64)⟩, ⟨PyData.keyHash P q_U_docUU, (.str q_U_docUU 281), .none⟩] 2), #[]⟩
noncomputable def ob66 (P : Params) : Obj := ⟨(.type "type"), .none, (.cls { name := q_Const, bases := [(.ref 45)], mro := [(.ref 66), (.ref 45), (.type "object")], ns := 65, qualname := q_Const, hasDict := true, slotNames := [], subclasses := [], abstract := false, collection := .none, hasDel := false }), #[.some (.ref 50), .none, .some (.str q_Const 258), .some (.str q_Const 266), .some (.builtin "object.__new__"), .some (.bool true)]⟩
noncomputable def ob81 (P : Params) : Obj := ⟨(.type "code"), .none, (.fields #[(.str q_U_initUU 297), (.str q_Local_U__initUU 298), (.str q_claim_cut_py 299), (.int (33) 0), (.int (2) 0), (.int (0) 0), (.int (0) 0), (.int (3) 0), (.ref 76), (.bool true), (.int (181) 0), (.ref 77), .none, (.ref 78), (.ref 79), (.ref 80), (.int (302) 0), (.int (33) 0), (.str q_claim_cut_py 303)]), #[]⟩
noncomputable def ob82 (P : Params) : Obj := ⟨(.type "function"), .none, (.func { name := q_U_initUU, qualname := q_Local_U__initUU, params := (fdA (mAt 16 1)), body := .stmts (fdB (mAt 16 1)), scope := (fdS (mAt 16 1)), globals := 3, closure := [], defaults := .none, kwdefaults := .none, doc := .none, pyModule := (.str q_scheme_core 194), annotations := .none, code := (.ref 81), closureTuple := .none, builtins := 0 }), #[]⟩
noncomputable def ob84 (P : Params) : Obj := ⟨(.type "dict"), .none, (.dict #[⟨PyData.keyHash P q_U_moduleUU, (.str q_U_moduleUU 291), (.str q_scheme_core 194)⟩, ⟨PyData.keyHash P q_U_firstlinenoUU, (.str q_U_firstlinenoUU 295), (.int (30) 294)⟩, ⟨PyData.keyHash P q_kind, (.str q_kind 296), (.int (1) 198)⟩, ⟨PyData.keyHash P q_U_initUU, (.str q_U_initUU 304), (.ref 82)⟩, ⟨PyData.keyHash P q_U_static_attributesUU, (.str q_U_static_attributesUU 306), (.ref 83)⟩, ⟨PyData.keyHash P q_U_docUU, (.str q_U_docUU 307), .none⟩] 2), #[]⟩
noncomputable def ob85 (P : Params) : Obj := ⟨(.type "type"), .none, (.cls { name := q_Local, bases := [(.ref 45)], mro := [(.ref 85), (.ref 45), (.type "object")], ns := 84, qualname := q_Local, hasDict := true, slotNames := [], subclasses := [], abstract := false, collection := .none, hasDel := false }), #[.some (.ref 69), .none, .some (.str q_Local 284), .some (.str q_Local 292), .some (.builtin "object.__new__"), .some (.bool true)]⟩
noncomputable def ob100 (P : Params) : Obj := ⟨(.type "code"), .none, (.fields #[(.str q_U_initUU 323), (.str q_Global_U__initUU 324), (.str q_claim_cut_py 325), (.int (38) 0), (.int (2) 0), (.int (0) 0), (.int (0) 0), (.int (3) 0), (.ref 95), (.bool true), (.int (181) 0), (.ref 96), .none, (.ref 97), (.ref 98), (.ref 99), (.int (328) 0), (.int (38) 0), (.str q_claim_cut_py 329)]), #[]⟩
noncomputable def ob101 (P : Params) : Obj := ⟨(.type "function"), .none, (.func { name := q_U_initUU, qualname := q_Global_U__initUU, params := (fdA (mAt 17 1)), body := .stmts (fdB (mAt 17 1)), scope := (fdS (mAt 17 1)), globals := 3, closure := [], defaults := .none, kwdefaults := .none, doc := .none, pyModule := (.str q_scheme_core 194), annotations := .none, code := (.ref 100), closureTuple := .none, builtins := 0 }), #[]⟩
noncomputable def ob103 (P : Params) : Obj := ⟨(.type "dict"), .none, (.dict #[⟨PyData.keyHash P q_U_moduleUU, (.str q_U_moduleUU 317), (.str q_scheme_core 194)⟩, ⟨PyData.keyHash P q_U_firstlinenoUU, (.str q_U_firstlinenoUU 321), (.int (35) 320)⟩, ⟨PyData.keyHash P q_kind, (.str q_kind 322), (.int (2) 200)⟩, ⟨PyData.keyHash P q_U_initUU, (.str q_U_initUU 330), (.ref 101)⟩, ⟨PyData.keyHash P q_U_static_attributesUU, (.str q_U_static_attributesUU 332), (.ref 102)⟩, ⟨PyData.keyHash P q_U_docUU, (.str q_U_docUU 333), .none⟩] 2), #[]⟩
noncomputable def ob104 (P : Params) : Obj := ⟨(.type "type"), .none, (.cls { name := q_Global, bases := [(.ref 45)], mro := [(.ref 104), (.ref 45), (.type "object")], ns := 103, qualname := q_Global, hasDict := true, slotNames := [], subclasses := [], abstract := false, collection := .none, hasDel := false }), #[.some (.ref 88), .none, .some (.str q_Global 310), .some (.str q_Global 318), .some (.builtin "object.__new__"), .some (.bool true)]⟩
noncomputable def ob119 (P : Params) : Obj := ⟨(.type "code"), .none, (.fields #[(.str q_U_initUU 349), (.str q_SetLocal_U__initUU 350), (.str q_claim_cut_py 351), (.int (43) 0), (.int (3) 0), (.int (0) 0), (.int (0) 0), (.int (3) 0), (.ref 114), (.bool true), (.int (181) 0), (.ref 115), .none, (.ref 116), (.ref 117), (.ref 118), (.int (355) 0), (.int (43) 0), (.str q_claim_cut_py 356)]), #[]⟩
noncomputable def ob120 (P : Params) : Obj := ⟨(.type "function"), .none, (.func { name := q_U_initUU, qualname := q_SetLocal_U__initUU, params := (fdA (mAt 18 1)), body := .stmts (fdB (mAt 18 1)), scope := (fdS (mAt 18 1)), globals := 3, closure := [], defaults := .none, kwdefaults := .none, doc := .none, pyModule := (.str q_scheme_core 194), annotations := .none, code := (.ref 119), closureTuple := .none, builtins := 0 }), #[]⟩
noncomputable def ob126 (P : Params) : Obj := ⟨(.type "code"), .none, (.fields #[(.str q_parts 358), (.str q_SetLocal_parts 359), (.str q_claim_cut_py 360), (.int (47) 0), (.int (1) 0), (.int (0) 0), (.int (0) 0), (.int (3) 0), (.ref 121), (.bool true), (.int (181) 0), (.ref 122), .none, (.ref 123), (.ref 124), (.ref 125), (.int (362) 0), (.int (47) 0), (.str q_claim_cut_py 363)]), #[]⟩
noncomputable def ob127 (P : Params) : Obj := ⟨(.type "function"), .none, (.func { name := q_parts, qualname := q_SetLocal_parts, params := (fdA (mAt 18 2)), body := .stmts (fdB (mAt 18 2)), scope := (fdS (mAt 18 2)), globals := 3, closure := [], defaults := .none, kwdefaults := .none, doc := .none, pyModule := (.str q_scheme_core 194), annotations := .none, code := (.ref 126), closureTuple := .none, builtins := 0 }), #[]⟩
noncomputable def ob136 (P : Params) : Obj := ⟨(.type "dict"), .none, (.dict #[⟨PyData.keyHash P q_U_moduleUU, (.str q_U_moduleUU 343), (.str q_scheme_core 194)⟩, ⟨PyData.keyHash P q_U_firstlinenoUU, (.str q_U_firstlinenoUU 347), (.int (40) 346)⟩, ⟨PyData.keyHash P q_kind, (.str q_kind 348), (.int (3) 202)⟩, ⟨PyData.keyHash P q_U_initUU, (.str q_U_initUU 357), (.ref 120)⟩, ⟨PyData.keyHash P q_parts, (.str q_parts 364), (.ref 127)⟩, ⟨PyData.keyHash P q_with_parts, (.str q_with_parts 372), (.ref 134)⟩, ⟨PyData.keyHash P q_U_static_attributesUU, (.str q_U_static_attributesUU 375), (.ref 135)⟩, ⟨PyData.keyHash P q_U_docUU, (.str q_U_docUU 376), .none⟩] 2), #[]⟩
noncomputable def ob137 (P : Params) : Obj := ⟨(.type "type"), .none, (.cls { name := q_SetLocal, bases := [(.ref 45)], mro := [(.ref 137), (.ref 45), (.type "object")], ns := 136, qualname := q_SetLocal, hasDict := true, slotNames := [], subclasses := [], abstract := false, collection := .none, hasDel := false }), #[.some (.ref 107), .none, .some (.str q_SetLocal 336), .some (.str q_SetLocal 344), .some (.builtin "object.__new__"), .some (.bool true)]⟩
noncomputable def ob152 (P : Params) : Obj := ⟨(.type "code"), .none, (.fields #[(.str q_U_initUU 392), (.str q_SetGlobal_U__initUU 393), (.str q_claim_cut_py 394), (.int (55) 0), (.int (3) 0), (.int (0) 0), (.int (0) 0), (.int (3) 0), (.ref 147), (.bool true), (.int (181) 0), (.ref 148), .none, (.ref 149), (.ref 150), (.ref 151), (.int (398) 0), (.int (55) 0), (.str q_claim_cut_py 399)]), #[]⟩
noncomputable def ob153 (P : Params) : Obj := ⟨(.type "function"), .none, (.func { name := q_U_initUU, qualname := q_SetGlobal_U__initUU, params := (fdA (mAt 19 1)), body := .stmts (fdB (mAt 19 1)), scope := (fdS (mAt 19 1)), globals := 3, closure := [], defaults := .none, kwdefaults := .none, doc := .none, pyModule := (.str q_scheme_core 194), annotations := .none, code := (.ref 152), closureTuple := .none, builtins := 0 }), #[]⟩
noncomputable def ob159 (P : Params) : Obj := ⟨(.type "code"), .none, (.fields #[(.str q_parts 401), (.str q_SetGlobal_parts 402), (.str q_claim_cut_py 403), (.int (59) 0), (.int (1) 0), (.int (0) 0), (.int (0) 0), (.int (3) 0), (.ref 154), (.bool true), (.int (181) 0), (.ref 155), .none, (.ref 156), (.ref 157), (.ref 158), (.int (405) 0), (.int (59) 0), (.str q_claim_cut_py 406)]), #[]⟩
noncomputable def ob160 (P : Params) : Obj := ⟨(.type "function"), .none, (.func { name := q_parts, qualname := q_SetGlobal_parts, params := (fdA (mAt 19 2)), body := .stmts (fdB (mAt 19 2)), scope := (fdS (mAt 19 2)), globals := 3, closure := [], defaults := .none, kwdefaults := .none, doc := .none, pyModule := (.str q_scheme_core 194), annotations := .none, code := (.ref 159), closureTuple := .none, builtins := 0 }), #[]⟩
noncomputable def ob169 (P : Params) : Obj := ⟨(.type "dict"), .none, (.dict #[⟨PyData.keyHash P q_U_moduleUU, (.str q_U_moduleUU 386), (.str q_scheme_core 194)⟩, ⟨PyData.keyHash P q_U_firstlinenoUU, (.str q_U_firstlinenoUU 390), (.int (52) 389)⟩, ⟨PyData.keyHash P q_kind, (.str q_kind 391), (.int (4) 204)⟩, ⟨PyData.keyHash P q_U_initUU, (.str q_U_initUU 400), (.ref 153)⟩, ⟨PyData.keyHash P q_parts, (.str q_parts 407), (.ref 160)⟩, ⟨PyData.keyHash P q_with_parts, (.str q_with_parts 415), (.ref 167)⟩, ⟨PyData.keyHash P q_U_static_attributesUU, (.str q_U_static_attributesUU 418), (.ref 168)⟩, ⟨PyData.keyHash P q_U_docUU, (.str q_U_docUU 419), .none⟩] 2), #[]⟩
noncomputable def ob170 (P : Params) : Obj := ⟨(.type "type"), .none, (.cls { name := q_SetGlobal, bases := [(.ref 45)], mro := [(.ref 170), (.ref 45), (.type "object")], ns := 169, qualname := q_SetGlobal, hasDict := true, slotNames := [], subclasses := [], abstract := false, collection := .none, hasDel := false }), #[.some (.ref 140), .none, .some (.str q_SetGlobal 379), .some (.str q_SetGlobal 387), .some (.builtin "object.__new__"), .some (.bool true)]⟩
noncomputable def ob185 (P : Params) : Obj := ⟨(.type "code"), .none, (.fields #[(.str q_U_initUU 435), (.str q_Define_U__initUU 436), (.str q_claim_cut_py 437), (.int (67) 0), (.int (3) 0), (.int (0) 0), (.int (0) 0), (.int (3) 0), (.ref 180), (.bool true), (.int (181) 0), (.ref 181), .none, (.ref 182), (.ref 183), (.ref 184), (.int (441) 0), (.int (67) 0), (.str q_claim_cut_py 442)]), #[]⟩
noncomputable def ob186 (P : Params) : Obj := ⟨(.type "function"), .none, (.func { name := q_U_initUU, qualname := q_Define_U__initUU, params := (fdA (mAt 20 1)), body := .stmts (fdB (mAt 20 1)), scope := (fdS (mAt 20 1)), globals := 3, closure := [], defaults := .none, kwdefaults := .none, doc := .none, pyModule := (.str q_scheme_core 194), annotations := .none, code := (.ref 185), closureTuple := .none, builtins := 0 }), #[]⟩
noncomputable def ob192 (P : Params) : Obj := ⟨(.type "code"), .none, (.fields #[(.str q_parts 444), (.str q_Define_parts 445), (.str q_claim_cut_py 446), (.int (71) 0), (.int (1) 0), (.int (0) 0), (.int (0) 0), (.int (3) 0), (.ref 187), (.bool true), (.int (181) 0), (.ref 188), .none, (.ref 189), (.ref 190), (.ref 191), (.int (448) 0), (.int (71) 0), (.str q_claim_cut_py 449)]), #[]⟩
noncomputable def ob193 (P : Params) : Obj := ⟨(.type "function"), .none, (.func { name := q_parts, qualname := q_Define_parts, params := (fdA (mAt 20 2)), body := .stmts (fdB (mAt 20 2)), scope := (fdS (mAt 20 2)), globals := 3, closure := [], defaults := .none, kwdefaults := .none, doc := .none, pyModule := (.str q_scheme_core 194), annotations := .none, code := (.ref 192), closureTuple := .none, builtins := 0 }), #[]⟩
noncomputable def ob202 (P : Params) : Obj := ⟨(.type "dict"), .none, (.dict #[⟨PyData.keyHash P q_U_moduleUU, (.str q_U_moduleUU 429), (.str q_scheme_core 194)⟩, ⟨PyData.keyHash P q_U_firstlinenoUU, (.str q_U_firstlinenoUU 433), (.int (64) 432)⟩, ⟨PyData.keyHash P q_kind, (.str q_kind 434), (.int (5) 206)⟩, ⟨PyData.keyHash P q_U_initUU, (.str q_U_initUU 443), (.ref 186)⟩, ⟨PyData.keyHash P q_parts, (.str q_parts 450), (.ref 193)⟩, ⟨PyData.keyHash P q_with_parts, (.str q_with_parts 458), (.ref 200)⟩, ⟨PyData.keyHash P q_U_static_attributesUU, (.str q_U_static_attributesUU 461), (.ref 201)⟩, ⟨PyData.keyHash P q_U_docUU, (.str q_U_docUU 462), .none⟩] 2), #[]⟩
noncomputable def ob203 (P : Params) : Obj := ⟨(.type "type"), .none, (.cls { name := q_Define, bases := [(.ref 45)], mro := [(.ref 203), (.ref 45), (.type "object")], ns := 202, qualname := q_Define, hasDict := true, slotNames := [], subclasses := [], abstract := false, collection := .none, hasDel := false }), #[.some (.ref 173), .none, .some (.str q_Define 422), .some (.str q_Define 430), .some (.builtin "object.__new__"), .some (.bool true)]⟩
noncomputable def ob218 (P : Params) : Obj := ⟨(.type "code"), .none, (.fields #[(.str q_U_initUU 478), (.str q_If_U__initUU 479), (.str q_claim_cut_py 480), (.int (79) 0), (.int (4) 0), (.int (0) 0), (.int (0) 0), (.int (3) 0), (.ref 213), (.bool true), (.int (181) 0), (.ref 214), .none, (.ref 215), (.ref 216), (.ref 217), (.int (485) 0), (.int (79) 0), (.str q_claim_cut_py 486)]), #[]⟩
noncomputable def ob219 (P : Params) : Obj := ⟨(.type "function"), .none, (.func { name := q_U_initUU, qualname := q_If_U__initUU, params := (fdA (mAt 21 1)), body := .stmts (fdB (mAt 21 1)), scope := (fdS (mAt 21 1)), globals := 3, closure := [], defaults := .none, kwdefaults := .none, doc := .none, pyModule := (.str q_scheme_core 194), annotations := .none, code := (.ref 218), closureTuple := .none, builtins := 0 }), #[]⟩
noncomputable def ob225 (P : Params) : Obj := ⟨(.type "code"), .none, (.fields #[(.str q_parts 488), (.str q_If_parts 489), (.str q_claim_cut_py 490), (.int (84) 0), (.int (1) 0), (.int (0) 0), (.int (0) 0), (.int (3) 0), (.ref 220), (.bool true), (.int (181) 0), (.ref 221), .none, (.ref 222), (.ref 223), (.ref 224), (.int (492) 0), (.int (84) 0), (.str q_claim_cut_py 493)]), #[]⟩
noncomputable def ob226 (P : Params) : Obj := ⟨(.type "function"), .none, (.func { name := q_parts, qualname := q_If_parts, params := (fdA (mAt 21 2)), body := .stmts (fdB (mAt 21 2)), scope := (fdS (mAt 21 2)), globals := 3, closure := [], defaults := .none, kwdefaults := .none, doc := .none, pyModule := (.str q_scheme_core 194), annotations := .none, code := (.ref 225), closureTuple := .none, builtins := 0 }), #[]⟩
noncomputable def ob235 (P : Params) : Obj := ⟨(.type "dict"), .none, (.dict #[⟨PyData.keyHash P q_U_moduleUU, (.str q_U_moduleUU 472), (.str q_scheme_core 194)⟩, ⟨PyData.keyHash P q_U_firstlinenoUU, (.str q_U_firstlinenoUU 476), (.int (76) 475)⟩, ⟨PyData.keyHash P q_kind, (.str q_kind 477), (.int (6) 208)⟩, ⟨PyData.keyHash P q_U_initUU, (.str q_U_initUU 487), (.ref 219)⟩, ⟨PyData.keyHash P q_parts, (.str q_parts 494), (.ref 226)⟩, ⟨PyData.keyHash P q_with_parts, (.str q_with_parts 502), (.ref 233)⟩, ⟨PyData.keyHash P q_U_static_attributesUU, (.str q_U_static_attributesUU 506), (.ref 234)⟩, ⟨PyData.keyHash P q_U_docUU, (.str q_U_docUU 507), .none⟩] 2), #[]⟩
noncomputable def ob236 (P : Params) : Obj := ⟨(.type "type"), .none, (.cls { name := q_If, bases := [(.ref 45)], mro := [(.ref 236), (.ref 45), (.type "object")], ns := 235, qualname := q_If, hasDict := true, slotNames := [], subclasses := [], abstract := false, collection := .none, hasDel := false }), #[.some (.ref 206), .none, .some (.str q_If 465), .some (.str q_If 473), .some (.builtin "object.__new__"), .some (.bool true)]⟩
noncomputable def ob251 (P : Params) : Obj := ⟨(.type "code"), .none, (.fields #[(.str q_U_initUU 523), (.str q_Lambda_U__initUU 524), (.str q_claim_cut_py 525), (.int (92) 0), (.int (5) 0), (.int (0) 0), (.int (0) 0), (.int (3) 0), (.ref 246), (.bool true), (.int (181) 0), (.ref 247), .none, (.ref 248), (.ref 249), (.ref 250), (.int (531) 0), (.int (92) 0), (.str q_claim_cut_py 532)]), #[]⟩
noncomputable def ob252 (P : Params) : Obj := ⟨(.type "function"), .none, (.func { name := q_U_initUU, qualname := q_Lambda_U__initUU, params := (fdA (mAt 22 1)), body := .stmts (fdB (mAt 22 1)), scope := (fdS (mAt 22 1)), globals := 3, closure := [], defaults := .none, kwdefaults := .none, doc := .none, pyModule := (.str q_scheme_core 194), annotations := .none, code := (.ref 251), closureTuple := .none, builtins := 0 }), #[]⟩
noncomputable def ob258 (P : Params) : Obj := ⟨(.type "code"), .none, (.fields #[(.str q_parts 534), (.str q_Lambda_parts 535), (.str q_claim_cut_py 536), (.int (98) 0), (.int (1) 0), (.int (0) 0), (.int (0) 0), (.int (3) 0), (.ref 253), (.bool true), (.int (181) 0), (.ref 254), .none, (.ref 255), (.ref 256), (.ref 257), (.int (538) 0), (.int (98) 0), (.str q_claim_cut_py 539)]), #[]⟩
noncomputable def ob259 (P : Params) : Obj := ⟨(.type "function"), .none, (.func { name := q_parts, qualname := q_Lambda_parts, params := (fdA (mAt 22 2)), body := .stmts (fdB (mAt 22 2)), scope := (fdS (mAt 22 2)), globals := 3, closure := [], defaults := .none, kwdefaults := .none, doc := .none, pyModule := (.str q_scheme_core 194), annotations := .none, code := (.ref 258), closureTuple := .none, builtins := 0 }), #[]⟩
noncomputable def ob272 (P : Params) : Obj := ⟨(.type "code"), .none, (.fields #[(.str q_binders 549), (.str q_Lambda_binders 550), (.str q_claim_cut_py 551), (.int (104) 0), (.int (1) 0), (.int (0) 0), (.int (0) 0), (.int (3) 0), (.ref 267), (.bool true), (.int (181) 0), (.ref 268), .none, (.ref 269), (.ref 270), (.ref 271), (.int (553) 0), (.int (104) 0), (.str q_claim_cut_py 554)]), #[]⟩
noncomputable def ob273 (P : Params) : Obj := ⟨(.type "function"), .none, (.func { name := q_binders, qualname := q_Lambda_binders, params := (fdA (mAt 22 4)), body := .stmts (fdB (mAt 22 4)), scope := (fdS (mAt 22 4)), globals := 3, closure := [], defaults := .none, kwdefaults := .none, doc := .none, pyModule := (.str q_scheme_core 194), annotations := .none, code := (.ref 272), closureTuple := .none, builtins := 0 }), #[]⟩
noncomputable def ob282 (P : Params) : Obj := ⟨(.type "dict"), .none, (.dict #[⟨PyData.keyHash P q_U_moduleUU, (.str q_U_moduleUU 517), (.str q_scheme_core 194)⟩, ⟨PyData.keyHash P q_U_firstlinenoUU, (.str q_U_firstlinenoUU 521), (.int (89) 520)⟩, ⟨PyData.keyHash P q_kind, (.str q_kind 522), (.int (7) 210)⟩, ⟨PyData.keyHash P q_U_initUU, (.str q_U_initUU 533), (.ref 252)⟩, ⟨PyData.keyHash P q_parts, (.str q_parts 540), (.ref 259)⟩, ⟨PyData.keyHash P q_with_parts, (.str q_with_parts 548), (.ref 266)⟩, ⟨PyData.keyHash P q_binders, (.str q_binders 555), (.ref 273)⟩, ⟨PyData.keyHash P q_takes, (.str q_takes 563), (.ref 280)⟩, ⟨PyData.keyHash P q_U_static_attributesUU, (.str q_U_static_attributesUU 568), (.ref 281)⟩, ⟨PyData.keyHash P q_U_docUU, (.str q_U_docUU 569), .none⟩] 2), #[]⟩
noncomputable def ob283 (P : Params) : Obj := ⟨(.type "type"), .none, (.cls { name := q_Lambda, bases := [(.ref 45)], mro := [(.ref 283), (.ref 45), (.type "object")], ns := 282, qualname := q_Lambda, hasDict := true, slotNames := [], subclasses := [], abstract := false, collection := .none, hasDel := false }), #[.some (.ref 239), .none, .some (.str q_Lambda 510), .some (.str q_Lambda 518), .some (.builtin "object.__new__"), .some (.bool true)]⟩
noncomputable def ob298 (P : Params) : Obj := ⟨(.type "code"), .none, (.fields #[(.str q_U_initUU 585), (.str q_Call_U__initUU 586), (.str q_claim_cut_py 587), (.int (112) 0), (.int (3) 0), (.int (0) 0), (.int (0) 0), (.int (3) 0), (.ref 293), (.bool true), (.int (181) 0), (.ref 294), .none, (.ref 295), (.ref 296), (.ref 297), (.int (591) 0), (.int (112) 0), (.str q_claim_cut_py 592)]), #[]⟩
noncomputable def ob299 (P : Params) : Obj := ⟨(.type "function"), .none, (.func { name := q_U_initUU, qualname := q_Call_U__initUU, params := (fdA (mAt 23 1)), body := .stmts (fdB (mAt 23 1)), scope := (fdS (mAt 23 1)), globals := 3, closure := [], defaults := .none, kwdefaults := .none, doc := .none, pyModule := (.str q_scheme_core 194), annotations := .none, code := (.ref 298), closureTuple := .none, builtins := 0 }), #[]⟩
noncomputable def ob305 (P : Params) : Obj := ⟨(.type "code"), .none, (.fields #[(.str q_parts 594), (.str q_Call_parts 595), (.str q_claim_cut_py 596), (.int (116) 0), (.int (1) 0), (.int (0) 0), (.int (0) 0), (.int (3) 0), (.ref 300), (.bool true), (.int (181) 0), (.ref 301), .none, (.ref 302), (.ref 303), (.ref 304), (.int (598) 0), (.int (116) 0), (.str q_claim_cut_py 599)]), #[]⟩
noncomputable def ob306 (P : Params) : Obj := ⟨(.type "function"), .none, (.func { name := q_parts, qualname := q_Call_parts, params := (fdA (mAt 23 2)), body := .stmts (fdB (mAt 23 2)), scope := (fdS (mAt 23 2)), globals := 3, closure := [], defaults := .none, kwdefaults := .none, doc := .none, pyModule := (.str q_scheme_core 194), annotations := .none, code := (.ref 305), closureTuple := .none, builtins := 0 }), #[]⟩
noncomputable def ob315 (P : Params) : Obj := ⟨(.type "dict"), .none, (.dict #[⟨PyData.keyHash P q_U_moduleUU, (.str q_U_moduleUU 579), (.str q_scheme_core 194)⟩, ⟨PyData.keyHash P q_U_firstlinenoUU, (.str q_U_firstlinenoUU 583), (.int (109) 582)⟩, ⟨PyData.keyHash P q_kind, (.str q_kind 584), (.int (8) 212)⟩, ⟨PyData.keyHash P q_U_initUU, (.str q_U_initUU 593), (.ref 299)⟩, ⟨PyData.keyHash P q_parts, (.str q_parts 600), (.ref 306)⟩, ⟨PyData.keyHash P q_with_parts, (.str q_with_parts 608), (.ref 313)⟩, ⟨PyData.keyHash P q_U_static_attributesUU, (.str q_U_static_attributesUU 611), (.ref 314)⟩, ⟨PyData.keyHash P q_U_docUU, (.str q_U_docUU 612), .none⟩] 2), #[]⟩
noncomputable def ob316 (P : Params) : Obj := ⟨(.type "type"), .none, (.cls { name := q_Call, bases := [(.ref 45)], mro := [(.ref 316), (.ref 45), (.type "object")], ns := 315, qualname := q_Call, hasDict := true, slotNames := [], subclasses := [], abstract := false, collection := .none, hasDel := false }), #[.some (.ref 286), .none, .some (.str q_Call 572), .some (.str q_Call 580), .some (.builtin "object.__new__"), .some (.bool true)]⟩
noncomputable def ob331 (P : Params) : Obj := ⟨(.type "code"), .none, (.fields #[(.str q_U_initUU 628), (.str q_Seq_U__initUU 629), (.str q_claim_cut_py 630), (.int (124) 0), (.int (2) 0), (.int (0) 0), (.int (0) 0), (.int (3) 0), (.ref 326), (.bool true), (.int (181) 0), (.ref 327), .none, (.ref 328), (.ref 329), (.ref 330), (.int (633) 0), (.int (124) 0), (.str q_claim_cut_py 634)]), #[]⟩
noncomputable def ob332 (P : Params) : Obj := ⟨(.type "function"), .none, (.func { name := q_U_initUU, qualname := q_Seq_U__initUU, params := (fdA (mAt 24 1)), body := .stmts (fdB (mAt 24 1)), scope := (fdS (mAt 24 1)), globals := 3, closure := [], defaults := .none, kwdefaults := .none, doc := .none, pyModule := (.str q_scheme_core 194), annotations := .none, code := (.ref 331), closureTuple := .none, builtins := 0 }), #[]⟩
noncomputable def ob338 (P : Params) : Obj := ⟨(.type "code"), .none, (.fields #[(.str q_parts 636), (.str q_Seq_parts 637), (.str q_claim_cut_py 638), (.int (127) 0), (.int (1) 0), (.int (0) 0), (.int (0) 0), (.int (3) 0), (.ref 333), (.bool true), (.int (181) 0), (.ref 334), .none, (.ref 335), (.ref 336), (.ref 337), (.int (640) 0), (.int (127) 0), (.str q_claim_cut_py 641)]), #[]⟩
noncomputable def ob339 (P : Params) : Obj := ⟨(.type "function"), .none, (.func { name := q_parts, qualname := q_Seq_parts, params := (fdA (mAt 24 2)), body := .stmts (fdB (mAt 24 2)), scope := (fdS (mAt 24 2)), globals := 3, closure := [], defaults := .none, kwdefaults := .none, doc := .none, pyModule := (.str q_scheme_core 194), annotations := .none, code := (.ref 338), closureTuple := .none, builtins := 0 }), #[]⟩
noncomputable def ob348 (P : Params) : Obj := ⟨(.type "dict"), .none, (.dict #[⟨PyData.keyHash P q_U_moduleUU, (.str q_U_moduleUU 622), (.str q_scheme_core 194)⟩, ⟨PyData.keyHash P q_U_firstlinenoUU, (.str q_U_firstlinenoUU 626), (.int (121) 625)⟩, ⟨PyData.keyHash P q_kind, (.str q_kind 627), (.int (9) 214)⟩, ⟨PyData.keyHash P q_U_initUU, (.str q_U_initUU 635), (.ref 332)⟩, ⟨PyData.keyHash P q_parts, (.str q_parts 642), (.ref 339)⟩, ⟨PyData.keyHash P q_with_parts, (.str q_with_parts 650), (.ref 346)⟩, ⟨PyData.keyHash P q_U_static_attributesUU, (.str q_U_static_attributesUU 652), (.ref 347)⟩, ⟨PyData.keyHash P q_U_docUU, (.str q_U_docUU 653), .none⟩] 2), #[]⟩
noncomputable def ob349 (P : Params) : Obj := ⟨(.type "type"), .none, (.cls { name := q_Seq, bases := [(.ref 45)], mro := [(.ref 349), (.ref 45), (.type "object")], ns := 348, qualname := q_Seq, hasDict := true, slotNames := [], subclasses := [], abstract := false, collection := .none, hasDel := false }), #[.some (.ref 319), .none, .some (.str q_Seq 615), .some (.str q_Seq 623), .some (.builtin "object.__new__"), .some (.bool true)]⟩
noncomputable def ob364 (P : Params) : Obj := ⟨(.type "code"), .none, (.fields #[(.str q_U_initUU 669), (.str q_Prim_U__initUU 670), (.str q_claim_cut_py 671), (.int (135) 0), (.int (3) 0), (.int (0) 0), (.int (0) 0), (.int (3) 0), (.ref 359), (.bool true), (.int (181) 0), (.ref 360), .none, (.ref 361), (.ref 362), (.ref 363), (.int (675) 0), (.int (135) 0), (.str q_claim_cut_py 676)]), #[]⟩
noncomputable def ob365 (P : Params) : Obj := ⟨(.type "function"), .none, (.func { name := q_U_initUU, qualname := q_Prim_U__initUU, params := (fdA (mAt 25 1)), body := .stmts (fdB (mAt 25 1)), scope := (fdS (mAt 25 1)), globals := 3, closure := [], defaults := .none, kwdefaults := .none, doc := .none, pyModule := (.str q_scheme_core 194), annotations := .none, code := (.ref 364), closureTuple := .none, builtins := 0 }), #[]⟩
noncomputable def ob371 (P : Params) : Obj := ⟨(.type "code"), .none, (.fields #[(.str q_parts 678), (.str q_Prim_parts 679), (.str q_claim_cut_py 680), (.int (139) 0), (.int (1) 0), (.int (0) 0), (.int (0) 0), (.int (3) 0), (.ref 366), (.bool true), (.int (181) 0), (.ref 367), .none, (.ref 368), (.ref 369), (.ref 370), (.int (682) 0), (.int (139) 0), (.str q_claim_cut_py 683)]), #[]⟩
noncomputable def ob372 (P : Params) : Obj := ⟨(.type "function"), .none, (.func { name := q_parts, qualname := q_Prim_parts, params := (fdA (mAt 25 2)), body := .stmts (fdB (mAt 25 2)), scope := (fdS (mAt 25 2)), globals := 3, closure := [], defaults := .none, kwdefaults := .none, doc := .none, pyModule := (.str q_scheme_core 194), annotations := .none, code := (.ref 371), closureTuple := .none, builtins := 0 }), #[]⟩
noncomputable def ob381 (P : Params) : Obj := ⟨(.type "dict"), .none, (.dict #[⟨PyData.keyHash P q_U_moduleUU, (.str q_U_moduleUU 663), (.str q_scheme_core 194)⟩, ⟨PyData.keyHash P q_U_firstlinenoUU, (.str q_U_firstlinenoUU 667), (.int (132) 666)⟩, ⟨PyData.keyHash P q_kind, (.str q_kind 668), (.int (10) 216)⟩, ⟨PyData.keyHash P q_U_initUU, (.str q_U_initUU 677), (.ref 365)⟩, ⟨PyData.keyHash P q_parts, (.str q_parts 684), (.ref 372)⟩, ⟨PyData.keyHash P q_with_parts, (.str q_with_parts 692), (.ref 379)⟩, ⟨PyData.keyHash P q_U_static_attributesUU, (.str q_U_static_attributesUU 695), (.ref 380)⟩, ⟨PyData.keyHash P q_U_docUU, (.str q_U_docUU 696), .none⟩] 2), #[]⟩
noncomputable def ob382 (P : Params) : Obj := ⟨(.type "type"), .none, (.cls { name := q_Prim, bases := [(.ref 45)], mro := [(.ref 382), (.ref 45), (.type "object")], ns := 381, qualname := q_Prim, hasDict := true, slotNames := [], subclasses := [], abstract := false, collection := .none, hasDel := false }), #[.some (.ref 352), .none, .some (.str q_Prim 656), .some (.str q_Prim 664), .some (.builtin "object.__new__"), .some (.bool true)]⟩
noncomputable def ob397 (P : Params) : Obj := ⟨(.type "code"), .none, (.fields #[(.str q_U_initUU 712), (.str q_Fix_U__initUU 713), (.str q_claim_cut_py 714), (.int (147) 0), (.int (4) 0), (.int (0) 0), (.int (0) 0), (.int (3) 0), (.ref 392), (.bool true), (.int (181) 0), (.ref 393), .none, (.ref 394), (.ref 395), (.ref 396), (.int (719) 0), (.int (147) 0), (.str q_claim_cut_py 720)]), #[]⟩
noncomputable def ob398 (P : Params) : Obj := ⟨(.type "function"), .none, (.func { name := q_U_initUU, qualname := q_Fix_U__initUU, params := (fdA (mAt 26 1)), body := .stmts (fdB (mAt 26 1)), scope := (fdS (mAt 26 1)), globals := 3, closure := [], defaults := .none, kwdefaults := .none, doc := .none, pyModule := (.str q_scheme_core 194), annotations := .none, code := (.ref 397), closureTuple := .none, builtins := 0 }), #[]⟩
noncomputable def ob404 (P : Params) : Obj := ⟨(.type "code"), .none, (.fields #[(.str q_parts 722), (.str q_Fix_parts 723), (.str q_claim_cut_py 724), (.int (152) 0), (.int (1) 0), (.int (0) 0), (.int (0) 0), (.int (3) 0), (.ref 399), (.bool true), (.int (181) 0), (.ref 400), .none, (.ref 401), (.ref 402), (.ref 403), (.int (726) 0), (.int (152) 0), (.str q_claim_cut_py 727)]), #[]⟩
noncomputable def ob405 (P : Params) : Obj := ⟨(.type "function"), .none, (.func { name := q_parts, qualname := q_Fix_parts, params := (fdA (mAt 26 2)), body := .stmts (fdB (mAt 26 2)), scope := (fdS (mAt 26 2)), globals := 3, closure := [], defaults := .none, kwdefaults := .none, doc := .none, pyModule := (.str q_scheme_core 194), annotations := .none, code := (.ref 404), closureTuple := .none, builtins := 0 }), #[]⟩
noncomputable def ob414 (P : Params) : Obj := ⟨(.type "dict"), .none, (.dict #[⟨PyData.keyHash P q_U_moduleUU, (.str q_U_moduleUU 706), (.str q_scheme_core 194)⟩, ⟨PyData.keyHash P q_U_firstlinenoUU, (.str q_U_firstlinenoUU 710), (.int (144) 709)⟩, ⟨PyData.keyHash P q_kind, (.str q_kind 711), (.int (11) 218)⟩, ⟨PyData.keyHash P q_U_initUU, (.str q_U_initUU 721), (.ref 398)⟩, ⟨PyData.keyHash P q_parts, (.str q_parts 728), (.ref 405)⟩, ⟨PyData.keyHash P q_with_parts, (.str q_with_parts 736), (.ref 412)⟩, ⟨PyData.keyHash P q_U_static_attributesUU, (.str q_U_static_attributesUU 740), (.ref 413)⟩, ⟨PyData.keyHash P q_U_docUU, (.str q_U_docUU 741), .none⟩] 2), #[]⟩
noncomputable def ob415 (P : Params) : Obj := ⟨(.type "type"), .none, (.cls { name := q_Fix, bases := [(.ref 45)], mro := [(.ref 415), (.ref 45), (.type "object")], ns := 414, qualname := q_Fix, hasDict := true, slotNames := [], subclasses := [], abstract := false, collection := .none, hasDel := false }), #[.some (.ref 385), .none, .some (.str q_Fix 699), .some (.str q_Fix 707), .some (.builtin "object.__new__"), .some (.bool true)]⟩
noncomputable def ob423 (P : Params) : Obj := ⟨(.type "code"), .none, (.fields #[(.str q_is_let 744), (.str q_is_let 745), (.str q_claim_cut_py 746), (.int (157) 0), (.int (1) 0), (.int (0) 0), (.int (0) 0), (.int (3) 0), (.ref 418), (.bool true), (.int (181) 0), (.ref 419), .none, (.ref 420), (.ref 421), (.ref 422), (.int (748) 0), (.int (157) 0), (.str q_claim_cut_py 749)]), #[]⟩
noncomputable def ob424 (P : Params) : Obj := ⟨(.type "function"), .none, (.func { name := q_is_let, qualname := q_is_let, params := (fdA (dAt 27)), body := .stmts (fdB (dAt 27)), scope := (fdS (dAt 27)), globals := 3, closure := [], defaults := .none, kwdefaults := .none, doc := .none, pyModule := (.str q_scheme_core 194), annotations := .none, code := (.ref 423), closureTuple := .none, builtins := 0 }), #[]⟩
noncomputable def ob437 (P : Params) : Obj := ⟨(.type "code"), .none, (.fields #[(.str q_U_initUU 768), (.str q_Facts_U__initUU 769), (.str q_claim_cut_py 770), (.int (165) 0), (.int (1) 0), (.int (0) 0), (.int (0) 0), (.int (3) 0), (.ref 432), (.bool true), (.int (181) 0), (.ref 433), .none, (.ref 434), (.ref 435), (.ref 436), (.int (772) 0), (.int (165) 0), (.str q_claim_cut_py 773)]), #[]⟩
noncomputable def ob438 (P : Params) : Obj := ⟨(.type "function"), .none, (.func { name := q_U_initUU, qualname := q_Facts_U__initUU, params := (fdA (mAt 30 0)), body := .stmts (fdB (mAt 30 0)), scope := (fdS (mAt 30 0)), globals := 3, closure := [], defaults := .none, kwdefaults := .none, doc := .none, pyModule := (.str q_scheme_facts 751), annotations := .none, code := (.ref 437), closureTuple := .none, builtins := 0 }), #[]⟩
noncomputable def ob444 (P : Params) : Obj := ⟨(.type "code"), .none, (.fields #[(.str q_is_set 775), (.str q_Facts_is_set 776), (.str q_claim_cut_py 777), (.int (177) 0), (.int (2) 0), (.int (0) 0), (.int (0) 0), (.int (3) 0), (.ref 439), (.bool true), (.int (181) 0), (.ref 440), .none, (.ref 441), (.ref 442), (.ref 443), (.int (780) 0), (.int (177) 0), (.str q_claim_cut_py 781)]), #[]⟩
noncomputable def ob445 (P : Params) : Obj := ⟨(.type "function"), .none, (.func { name := q_is_set, qualname := q_Facts_is_set, params := (fdA (mAt 30 1)), body := .stmts (fdB (mAt 30 1)), scope := (fdS (mAt 30 1)), globals := 3, closure := [], defaults := .none, kwdefaults := .none, doc := .none, pyModule := (.str q_scheme_facts 751), annotations := .none, code := (.ref 444), closureTuple := .none, builtins := 0 }), #[]⟩
noncomputable def ob451 (P : Params) : Obj := ⟨(.type "code"), .none, (.fields #[(.str q_is_set_global 783), (.str q_Facts_is_set_global 784), (.str q_claim_cut_py 785), (.int (180) 0), (.int (2) 0), (.int (0) 0), (.int (0) 0), (.int (3) 0), (.ref 446), (.bool true), (.int (181) 0), (.ref 447), .none, (.ref 448), (.ref 449), (.ref 450), (.int (788) 0), (.int (180) 0), (.str q_claim_cut_py 789)]), #[]⟩
noncomputable def ob452 (P : Params) : Obj := ⟨(.type "function"), .none, (.func { name := q_is_set_global, qualname := q_Facts_is_set_global, params := (fdA (mAt 30 2)), body := .stmts (fdB (mAt 30 2)), scope := (fdS (mAt 30 2)), globals := 3, closure := [], defaults := .none, kwdefaults := .none, doc := .none, pyModule := (.str q_scheme_facts 751), annotations := .none, code := (.ref 451), closureTuple := .none, builtins := 0 }), #[]⟩
noncomputable def ob458 (P : Params) : Obj := ⟨(.type "code"), .none, (.fields #[(.str q_times_read 791), (.str q_Facts_times_read 792), (.str q_claim_cut_py 793), (.int (183) 0), (.int (2) 0), (.int (0) 0), (.int (0) 0), (.int (3) 0), (.ref 453), (.bool true), (.int (181) 0), (.ref 454), .none, (.ref 455), (.ref 456), (.ref 457), (.int (796) 0), (.int (183) 0), (.str q_claim_cut_py 797)]), #[]⟩
noncomputable def ob459 (P : Params) : Obj := ⟨(.type "function"), .none, (.func { name := q_times_read, qualname := q_Facts_times_read, params := (fdA (mAt 30 3)), body := .stmts (fdB (mAt 30 3)), scope := (fdS (mAt 30 3)), globals := 3, closure := [], defaults := .none, kwdefaults := .none, doc := .none, pyModule := (.str q_scheme_facts 751), annotations := .none, code := (.ref 458), closureTuple := .none, builtins := 0 }), #[]⟩
noncomputable def ob465 (P : Params) : Obj := ⟨(.type "code"), .none, (.fields #[(.str q_times_called 799), (.str q_Facts_times_called 800), (.str q_claim_cut_py 801), (.int (186) 0), (.int (2) 0), (.int (0) 0), (.int (0) 0), (.int (3) 0), (.ref 460), (.bool true), (.int (181) 0), (.ref 461), .none, (.ref 462), (.ref 463), (.ref 464), (.int (804) 0), (.int (186) 0), (.str q_claim_cut_py 805)]), #[]⟩
noncomputable def ob466 (P : Params) : Obj := ⟨(.type "function"), .none, (.func { name := q_times_called, qualname := q_Facts_times_called, params := (fdA (mAt 30 4)), body := .stmts (fdB (mAt 30 4)), scope := (fdS (mAt 30 4)), globals := 3, closure := [], defaults := .none, kwdefaults := .none, doc := .none, pyModule := (.str q_scheme_facts 751), annotations := .none, code := (.ref 465), closureTuple := .none, builtins := 0 }), #[]⟩
noncomputable def ob472 (P : Params) : Obj := ⟨(.type "code"), .none, (.fields #[(.str q_free 807), (.str q_Facts_free 808), (.str q_claim_cut_py 809), (.int (189) 0), (.int (2) 0), (.int (0) 0), (.int (0) 0), (.int (3) 0), (.ref 467), (.bool true), (.int (181) 0), (.ref 468), .none, (.ref 469), (.ref 470), (.ref 471), (.int (812) 0), (.int (189) 0), (.str q_claim_cut_py 813)]), #[]⟩
noncomputable def ob473 (P : Params) : Obj := ⟨(.type "function"), .none, (.func { name := q_free, qualname := q_Facts_free, params := (fdA (mAt 30 5)), body := .stmts (fdB (mAt 30 5)), scope := (fdS (mAt 30 5)), globals := 3, closure := [], defaults := .none, kwdefaults := .none, doc := .none, pyModule := (.str q_scheme_facts 751), annotations := .none, code := (.ref 472), closureTuple := .none, builtins := 0 }), #[]⟩
noncomputable def ob479 (P : Params) : Obj := ⟨(.type "code"), .none, (.fields #[(.str q_meet 815), (.str q_Facts_meet 816), (.str q_claim_cut_py 817), (.int (192) 0), (.int (3) 0), (.int (0) 0), (.int (0) 0), (.int (3) 0), (.ref 474), (.bool true), (.int (181) 0), (.ref 475), .none, (.ref 476), (.ref 477), (.ref 478), (.int (822) 0), (.int (192) 0), (.str q_claim_cut_py 823)]), #[]⟩
noncomputable def ob480 (P : Params) : Obj := ⟨(.type "function"), .none, (.func { name := q_meet, qualname := q_Facts_meet, params := (fdA (mAt 30 6)), body := .stmts (fdB (mAt 30 6)), scope := (fdS (mAt 30 6)), globals := 3, closure := [], defaults := .none, kwdefaults := .none, doc := .none, pyModule := (.str q_scheme_facts 751), annotations := .none, code := (.ref 479), closureTuple := .none, builtins := 0 }), #[]⟩
noncomputable def ob482 (P : Params) : Obj := ⟨(.type "dict"), .none, (.dict #[⟨PyData.keyHash P q_U_moduleUU, (.str q_U_moduleUU 763), (.str q_scheme_facts 751)⟩, ⟨PyData.keyHash P q_U_firstlinenoUU, (.str q_U_firstlinenoUU 767), (.int (163) 766)⟩, ⟨PyData.keyHash P q_U_initUU, (.str q_U_initUU 774), (.ref 438)⟩, ⟨PyData.keyHash P q_is_set, (.str q_is_set 782), (.ref 445)⟩, ⟨PyData.keyHash P q_is_set_global, (.str q_is_set_global 790), (.ref 452)⟩, ⟨PyData.keyHash P q_times_read, (.str q_times_read 798), (.ref 459)⟩, ⟨PyData.keyHash P q_times_called, (.str q_times_called 806), (.ref 466)⟩, ⟨PyData.keyHash P q_free, (.str q_free 814), (.ref 473)⟩, ⟨PyData.keyHash P q_meet, (.str q_meet 824), (.ref 480)⟩, ⟨PyData.keyHash P q_U_static_attributesUU, (.str q_U_static_attributesUU 835), (.ref 481)⟩, ⟨PyData.keyHash P q_U_dictUU, (.str q_U_dictUU 837), (.ref 484)⟩, ⟨PyData.keyHash P q_U_weakrefUU, (.str q_U_weakrefUU 839), (.ref 485)⟩, ⟨PyData.keyHash P q_U_docUU, (.str q_U_docUU 840), .none⟩] 4), #[]⟩
noncomputable def ob483 (P : Params) : Obj := ⟨(.type "type"), .none, (.cls { name := q_Facts, bases := [(.type "object")], mro := [(.ref 483), (.type "object")], ns := 482, qualname := q_Facts, hasDict := true, slotNames := [], subclasses := [], abstract := false, collection := .none, hasDel := false }), #[.none, .none, .some (.str q_Facts 756), .some (.str q_Facts 764), .some (.builtin "object.__new__"), .some (.bool true)]⟩
noncomputable def ob493 (P : Params) : Obj := ⟨(.type "code"), .none, (.fields #[(.str q_count_in 843), (.str q_count_in 844), (.str q_claim_cut_py 845), (.int (199) 0), (.int (2) 0), (.int (0) 0), (.int (0) 0), (.int (3) 0), (.ref 488), (.bool true), (.int (181) 0), (.ref 489), .none, (.ref 490), (.ref 491), (.ref 492), (.int (848) 0), (.int (199) 0), (.str q_claim_cut_py 849)]), #[]⟩
noncomputable def ob494 (P : Params) : Obj := ⟨(.type "function"), .none, (.func { name := q_count_in, qualname := q_count_in, params := (fdA (dAt 31)), body := .stmts (fdB (dAt 31)), scope := (fdS (dAt 31)), globals := 3, closure := [], defaults := .none, kwdefaults := .none, doc := .none, pyModule := (.str q_scheme_facts 751), annotations := .none, code := (.ref 493), closureTuple := .none, builtins := 0 }), #[]⟩
noncomputable def ob500 (P : Params) : Obj := ⟨(.type "code"), .none, (.fields #[(.str q_note_node 851), (.str q_note_node 852), (.str q_claim_cut_py 853), (.int (201) 0), (.int (3) 0), (.int (0) 0), (.int (0) 0), (.int (3) 0), (.ref 495), (.bool true), (.int (181) 0), (.ref 496), .none, (.ref 497), (.ref 498), (.ref 499), (.int (858) 0), (.int (201) 0), (.str q_claim_cut_py 859)]), #[]⟩
noncomputable def ob501 (P : Params) : Obj := ⟨(.type "function"), .none, (.func { name := q_note_node, qualname := q_note_node, params := (fdA (dAt 32)), body := .stmts (fdB (dAt 32)), scope := (fdS (dAt 32)), globals := 3, closure := [], defaults := .none, kwdefaults := .none, doc := .none, pyModule := (.str q_scheme_facts 751), annotations := .none, code := (.ref 500), closureTuple := .none, builtins := 0 }), #[]⟩
noncomputable def ob507 (P : Params) : Obj := ⟨(.type "code"), .none, (.fields #[(.str q_facts_of 861), (.str q_facts_of 862), (.str q_claim_cut_py 863), (.int (225) 0), (.int (1) 0), (.int (0) 0), (.int (0) 0), (.int (3) 0), (.ref 502), (.bool true), (.int (181) 0), (.ref 503), .none, (.ref 504), (.ref 505), (.ref 506), (.int (872) 0), (.int (225) 0), (.str q_claim_cut_py 873)]), #[]⟩
noncomputable def ob508 (P : Params) : Obj := ⟨(.type "function"), .none, (.func { name := q_facts_of, qualname := q_facts_of, params := (fdA (dAt 33)), body := .stmts (fdB (dAt 33)), scope := (fdS (dAt 33)), globals := 3, closure := [], defaults := .none, kwdefaults := .none, doc := .none, pyModule := (.str q_scheme_facts 751), annotations := .none, code := (.ref 507), closureTuple := .none, builtins := 0 }), #[]⟩
noncomputable def ob514 (P : Params) : Obj := ⟨(.type "code"), .none, (.fields #[(.str q_law_draw 879), (.str q_law_draw 880), (.str q_claim_cut_py 881), (.int (238) 0), (.int (2) 0), (.int (0) 0), (.int (0) 0), (.int (3) 0), (.ref 509), (.bool true), (.int (181) 0), (.ref 510), .none, (.ref 511), (.ref 512), (.ref 513), (.int (885) 0), (.int (238) 0), (.str q_claim_cut_py 886)]), #[]⟩
noncomputable def ob515 (P : Params) : Obj := ⟨(.type "function"), .none, (.func { name := q_law_draw, qualname := q_law_draw, params := (fdA (dAt 36)), body := .stmts (fdB (dAt 36)), scope := (fdS (dAt 36)), globals := 3, closure := [], defaults := .none, kwdefaults := .none, doc := .none, pyModule := (.str q_law_nt0177_01 877), annotations := .none, code := (.ref 514), closureTuple := .none, builtins := 0 }), #[]⟩
noncomputable def ob519 (P : Params) : Obj := ⟨(.type "code"), .none, (.fields #[(.str q_law_deck_of 888), (.str q_law_deck_of 889), (.str q_claim_cut_py 890), (.int (246) 0), (.int (1) 0), (.int (0) 0), (.int (0) 0), (.int (3) 0), (.ref 516), (.bool true), (.int (181) 0), (.ref 517), .none, .none, .none, (.ref 518), (.int (891) 0), (.int (246) 0), (.str q_claim_cut_py 892)]), #[]⟩
noncomputable def ob520 (P : Params) : Obj := ⟨(.type "function"), .none, (.func { name := q_law_deck_of, qualname := q_law_deck_of, params := (fdA (dAt 37)), body := .stmts (fdB (dAt 37)), scope := (fdS (dAt 37)), globals := 3, closure := [], defaults := .none, kwdefaults := .none, doc := .none, pyModule := (.str q_law_nt0177_01 877), annotations := .none, code := (.ref 519), closureTuple := .none, builtins := 0 }), #[]⟩
noncomputable def ob526 (P : Params) : Obj := ⟨(.type "code"), .none, (.fields #[(.str q_law_one 894), (.str q_law_one 895), (.str q_claim_cut_py 896), (.int (248) 0), (.int (2) 0), (.int (0) 0), (.int (0) 0), (.int (3) 0), (.ref 521), (.bool true), (.int (181) 0), (.ref 522), .none, (.ref 523), (.ref 524), (.ref 525), (.int (899) 0), (.int (248) 0), (.str q_claim_cut_py 900)]), #[]⟩
noncomputable def ob527 (P : Params) : Obj := ⟨(.type "function"), .none, (.func { name := q_law_one, qualname := q_law_one, params := (fdA (dAt 38)), body := .stmts (fdB (dAt 38)), scope := (fdS (dAt 38)), globals := 3, closure := [], defaults := .none, kwdefaults := .none, doc := .none, pyModule := (.str q_law_nt0177_01 877), annotations := .none, code := (.ref 526), closureTuple := .none, builtins := 0 }), #[]⟩
noncomputable def ob533 (P : Params) : Obj := ⟨(.type "code"), .none, (.fields #[(.str q_law_new 902), (.str q_law_new 903), (.str q_claim_cut_py 904), (.int (250) 0), (.int (2) 0), (.int (0) 0), (.int (0) 0), (.int (3) 0), (.ref 528), (.bool true), (.int (181) 0), (.ref 529), .none, (.ref 530), (.ref 531), (.ref 532), (.int (907) 0), (.int (250) 0), (.str q_claim_cut_py 908)]), #[]⟩
noncomputable def ob534 (P : Params) : Obj := ⟨(.type "function"), .none, (.func { name := q_law_new, qualname := q_law_new, params := (fdA (dAt 39)), body := .stmts (fdB (dAt 39)), scope := (fdS (dAt 39)), globals := 3, closure := [], defaults := .none, kwdefaults := .none, doc := .none, pyModule := (.str q_law_nt0177_01 877), annotations := .none, code := (.ref 533), closureTuple := .none, builtins := 0 }), #[]⟩
noncomputable def ob538 (P : Params) : Obj := ⟨(.type "code"), .none, (.fields #[(.str q_law_lam 910), (.str q_law_lam 911), (.str q_claim_cut_py 912), (.int (253) 0), (.int (4) 0), (.int (0) 0), (.int (0) 0), (.int (3) 0), (.ref 535), (.bool true), (.int (181) 0), (.ref 536), .none, .none, .none, (.ref 537), (.int (913) 0), (.int (253) 0), (.str q_claim_cut_py 914)]), #[]⟩
noncomputable def ob539 (P : Params) : Obj := ⟨(.type "function"), .none, (.func { name := q_law_lam, qualname := q_law_lam, params := (fdA (dAt 40)), body := .stmts (fdB (dAt 40)), scope := (fdS (dAt 40)), globals := 3, closure := [], defaults := .none, kwdefaults := .none, doc := .none, pyModule := (.str q_law_nt0177_01 877), annotations := .none, code := (.ref 538), closureTuple := .none, builtins := 0 }), #[]⟩
noncomputable def ob543 (P : Params) : Obj := ⟨(.type "code"), .none, (.fields #[(.str q_law_node_of 916), (.str q_law_node_of 917), (.str q_claim_cut_py 918), (.int (259) 0), (.int (4) 0), (.int (0) 0), (.int (0) 0), (.int (3) 0), (.ref 540), (.bool true), (.int (181) 0), (.ref 541), .none, .none, .none, (.ref 542), (.int (919) 0), (.int (259) 0), (.str q_claim_cut_py 920)]), #[]⟩
noncomputable def ob544 (P : Params) : Obj := ⟨(.type "function"), .none, (.func { name := q_law_node_of, qualname := q_law_node_of, params := (fdA (dAt 41)), body := .stmts (fdB (dAt 41)), scope := (fdS (dAt 41)), globals := 3, closure := [], defaults := .none, kwdefaults := .none, doc := .none, pyModule := (.str q_law_nt0177_01 877), annotations := .none, code := (.ref 543), closureTuple := .none, builtins := 0 }), #[]⟩
noncomputable def ob550 (P : Params) : Obj := ⟨(.type "code"), .none, (.fields #[(.str q_law_is_own_let 922), (.str q_law_is_own_let 923), (.str q_claim_cut_py 924), (.int (286) 0), (.int (1) 0), (.int (0) 0), (.int (0) 0), (.int (3) 0), (.ref 545), (.bool true), (.int (181) 0), (.ref 546), .none, (.ref 547), (.ref 548), (.ref 549), (.int (926) 0), (.int (286) 0), (.str q_claim_cut_py 927)]), #[]⟩
noncomputable def ob551 (P : Params) : Obj := ⟨(.type "function"), .none, (.func { name := q_law_is_own_let, qualname := q_law_is_own_let, params := (fdA (dAt 42)), body := .stmts (fdB (dAt 42)), scope := (fdS (dAt 42)), globals := 3, closure := [], defaults := .none, kwdefaults := .none, doc := .none, pyModule := (.str q_law_nt0177_01 877), annotations := .none, code := (.ref 550), closureTuple := .none, builtins := 0 }), #[]⟩
noncomputable def ob557 (P : Params) : Obj := ⟨(.type "code"), .none, (.fields #[(.str q_law_walk 929), (.str q_law_walk 930), (.str q_claim_cut_py 931), (.int (290) 0), (.int (5) 0), (.int (0) 0), (.int (0) 0), (.int (3) 0), (.ref 552), (.bool true), (.int (181) 0), (.ref 553), .none, (.ref 554), (.ref 555), (.ref 556), (.int (940) 0), (.int (290) 0), (.str q_claim_cut_py 941)]), #[]⟩
noncomputable def ob558 (P : Params) : Obj := ⟨(.type "function"), .none, (.func { name := q_law_walk, qualname := q_law_walk, params := (fdA (dAt 43)), body := .stmts (fdB (dAt 43)), scope := (fdS (dAt 43)), globals := 3, closure := [], defaults := .none, kwdefaults := .none, doc := .none, pyModule := (.str q_law_nt0177_01 877), annotations := .none, code := (.ref 557), closureTuple := .none, builtins := 0 }), #[]⟩
noncomputable def ob562 (P : Params) : Obj := ⟨(.type "code"), .none, (.fields #[(.str q_law_count 943), (.str q_law_count 944), (.str q_claim_cut_py 945), (.int (312) 0), (.int (3) 0), (.int (0) 0), (.int (0) 0), (.int (3) 0), (.ref 559), (.bool true), (.int (181) 0), (.ref 560), .none, .none, .none, (.ref 561), (.int (946) 0), (.int (312) 0), (.str q_claim_cut_py 947)]), #[]⟩
noncomputable def ob563 (P : Params) : Obj := ⟨(.type "function"), .none, (.func { name := q_law_count, qualname := q_law_count, params := (fdA (dAt 44)), body := .stmts (fdB (dAt 44)), scope := (fdS (dAt 44)), globals := 3, closure := [], defaults := .none, kwdefaults := .none, doc := .none, pyModule := (.str q_law_nt0177_01 877), annotations := .none, code := (.ref 562), closureTuple := .none, builtins := 0 }), #[]⟩
noncomputable def ob569 (P : Params) : Obj := ⟨(.type "code"), .none, (.fields #[(.str q_law_taken 949), (.str q_law_taken 950), (.str q_claim_cut_py 951), (.int (314) 0), (.int (3) 0), (.int (0) 0), (.int (0) 0), (.int (3) 0), (.ref 564), (.bool true), (.int (181) 0), (.ref 565), .none, (.ref 566), (.ref 567), (.ref 568), (.int (959) 0), (.int (314) 0), (.str q_claim_cut_py 960)]), #[]⟩
noncomputable def ob570 (P : Params) : Obj := ⟨(.type "function"), .none, (.func { name := q_law_taken, qualname := q_law_taken, params := (fdA (dAt 45)), body := .stmts (fdB (dAt 45)), scope := (fdS (dAt 45)), globals := 3, closure := [], defaults := .none, kwdefaults := .none, doc := .none, pyModule := (.str q_law_nt0177_01 877), annotations := .none, code := (.ref 569), closureTuple := .none, builtins := 0 }), #[]⟩
noncomputable def ob574 (P : Params) : Obj := ⟨(.type "code"), .none, (.fields #[(.str q_law_is_caught 962), (.str q_law_is_caught 963), (.str q_claim_cut_py 964), (.int (321) 0), (.int (4) 0), (.int (0) 0), (.int (0) 0), (.int (3) 0), (.ref 571), (.bool true), (.int (181) 0), (.ref 572), .none, .none, .none, (.ref 573), (.int (965) 0), (.int (321) 0), (.str q_claim_cut_py 966)]), #[]⟩
noncomputable def ob575 (P : Params) : Obj := ⟨(.type "function"), .none, (.func { name := q_law_is_caught, qualname := q_law_is_caught, params := (fdA (dAt 46)), body := .stmts (fdB (dAt 46)), scope := (fdS (dAt 46)), globals := 3, closure := [], defaults := .none, kwdefaults := .none, doc := .none, pyModule := (.str q_law_nt0177_01 877), annotations := .none, code := (.ref 574), closureTuple := .none, builtins := 0 }), #[]⟩
noncomputable def ob581 (P : Params) : Obj := ⟨(.type "code"), .none, (.fields #[(.str q_law 968), (.str q_law 969), (.str q_claim_cut_py 970), (.int (328) 0), (.int (1) 0), (.int (0) 0), (.int (0) 0), (.int (3) 0), (.ref 576), (.bool true), (.int (181) 0), (.ref 577), .none, (.ref 578), (.ref 579), (.ref 580), (.int (990) 0), (.int (328) 0), (.str q_claim_cut_py 991)]), #[]⟩
noncomputable def ob582 (P : Params) : Obj := ⟨(.type "function"), .none, (.func { name := q_law, qualname := q_law, params := (fdA (dAt 47)), body := .stmts (fdB (dAt 47)), scope := (fdS (dAt 47)), globals := 3, closure := [], defaults := .none, kwdefaults := .none, doc := .none, pyModule := (.str q_law_nt0177_01 877), annotations := .none, code := (.ref 581), closureTuple := .none, builtins := 0 }), #[]⟩
noncomputable def KK (P : Params) : Frag := [(3, ob3 P), (34, ob34 P), (35, ob35 P), (44, ob44 P), (45, ob45 P), (62, ob62 P), (63, ob63 P), (65, ob65 P), (66, ob66 P), (81, ob81 P), (82, ob82 P), (84, ob84 P), (85, ob85 P), (100, ob100 P), (101, ob101 P), (103, ob103 P), (104, ob104 P), (119, ob119 P), (120, ob120 P), (126, ob126 P), (127, ob127 P), (136, ob136 P), (137, ob137 P), (152, ob152 P), (153, ob153 P), (159, ob159 P), (160, ob160 P), (169, ob169 P), (170, ob170 P), (185, ob185 P), (186, ob186 P), (192, ob192 P), (193, ob193 P), (202, ob202 P), (203, ob203 P), (218, ob218 P), (219, ob219 P), (225, ob225 P), (226, ob226 P), (235, ob235 P), (236, ob236 P), (251, ob251 P), (252, ob252 P), (258, ob258 P), (259, ob259 P), (272, ob272 P), (273, ob273 P), (282, ob282 P), (283, ob283 P), (298, ob298 P), (299, ob299 P), (305, ob305 P), (306, ob306 P), (315, ob315 P), (316, ob316 P), (331, ob331 P), (332, ob332 P), (338, ob338 P), (339, ob339 P), (348, ob348 P), (349, ob349 P), (364, ob364 P), (365, ob365 P), (371, ob371 P), (372, ob372 P), (381, ob381 P), (382, ob382 P), (397, ob397 P), (398, ob398 P), (404, ob404 P), (405, ob405 P), (414, ob414 P), (415, ob415 P), (423, ob423 P), (424, ob424 P), (437, ob437 P), (438, ob438 P), (444, ob444 P), (445, ob445 P), (451, ob451 P), (452, ob452 P), (458, ob458 P), (459, ob459 P), (465, ob465 P), (466, ob466 P), (472, ob472 P), (473, ob473 P), (479, ob479 P), (480, ob480 P), (482, ob482 P), (483, ob483 P), (493, ob493 P), (494, ob494 P), (500, ob500 P), (501, ob501 P), (507, ob507 P), (508, ob508 P), (514, ob514 P), (515, ob515 P), (519, ob519 P), (520, ob520 P), (526, ob526 P), (527, ob527 P), (533, ob533 P), (534, ob534 P), (538, ob538 P), (539, ob539 P), (543, ob543 P), (544, ob544 P), (550, ob550 P), (551, ob551 P), (557, ob557 P), (558, ob558 P), (562, ob562 P), (563, ob563 P), (569, ob569 P), (570, ob570 P), (574, ob574 P), (575, ob575 P), (581, ob581 P), (582, ob582 P)]
noncomputable def asL : List Addr := [3, 34, 35, 44, 45, 62, 63, 65, 66, 81, 82, 84, 85, 100, 101, 103, 104, 119, 120, 126, 127, 136, 137, 152, 153, 159, 160, 169, 170, 185, 186, 192, 193, 202, 203, 218, 219, 225, 226, 235, 236, 251, 252, 258, 259, 272, 273, 282, 283, 298, 299, 305, 306, 315, 316, 331, 332, 338, 339, 348, 349, 364, 365, 371, 372, 381, 382, 397, 398, 404, 405, 414, 415, 423, 424, 437, 438, 444, 445, 451, 452, 458, 459, 465, 466, 472, 473, 479, 480, 482, 483, 493, 494, 500, 501, 507, 508, 514, 515, 519, 520, 526, 527, 533, 534, 538, 539, 543, 544, 550, 551, 557, 558, 562, 563, 569, 570, 574, 575, 581, 582]
/-! Head4 -/
noncomputable def hook : Hook := kHook KK asL (fun _ => rfl)
theorem run_eqK : ∀ (w : World) (os : OsState), (runG (stepOk 11 (some (.ref 6))) (stepT (denote treeTable) rw_nt0177_01.row.toRowW.prog w) 5400 ⟨bootTree w.params, 11, {}, #[], boot_drawn, boot_toks, os⟩ (topStub rw_nt0177_01.row.toRowW.prog)).map (fun s =>
        (staticsOk (importedModules rw_nt0177_01.row.toRowW.prog.main.body) (boot_heap w.params) s.abs.heap && namesBound rw_nt0177_01.row.toRowW.prog s.abs.heap && gensDone s.abs && laidKept (boot_heap w.params) s.abs.heap,
         openSeen theView looseL (importedModules rw_nt0177_01.row.toRowW.prog.main.body) (fun _ => true) true s.abs, hook.obs s.abs)) = some (true, openGood theView looseL, hook.val w) := by
  intro w os
  unfold theView
  simp only [PySem.W.Fast.te6613529449190102663, PySem.W.Fast.te10156331382660048174, PySem.W.Fast.te11892475500146522536, PySem.W.Fast.te14364793385576792824, PySem.W.Fast.te4187177175401517315, PySem.W.Fast.te2368527892694137696, PySem.W.Fast.te5923862056798008813]
  kernel_rfl
/-! Head5 -/
theorem left : LeftO rw_nt0177_01.row.toRowW.prog theView looseL (fun _ => true) hook.obs hook.val 6000 true := by
  refine left_of_tree (M := 5400) (m₀ := 11) (ann := some (.ref 6)) ?_ rfl ?_ ?_ rfl run_eqK
  · kernel_rfl
  · intro s; kernel_rfl
  · intro P; kernel_rfl

theorem def_is : ∃ d kwd, defOf theView rw_nt0177_01.row.name = some (d, kwd) ∧ rw_nt0177_01.row.prog.theDef rw_nt0177_01.row.name = some (d.params, d.body, d.scope) ∧ kwWritten? d.params.kwonlyargs d.params.kw_defaults = some kwd ∧ d.name = rw_nt0177_01.row.name := by
  have h : ((defOf theView rw_nt0177_01.row.name).isSome) = true := by kernel_rfl
  have e : rw_nt0177_01.row.prog.theDef rw_nt0177_01.row.name = (defOf theView rw_nt0177_01.row.name).map fun x => (x.1.params, x.1.body, x.1.scope) := by kernel_rfl
  have k : (defOf theView rw_nt0177_01.row.name).bind (fun x => kwWritten? x.1.params.kwonlyargs x.1.params.kw_defaults) = (defOf theView rw_nt0177_01.row.name).map (·.2) := by kernel_rfl
  cases q : defOf theView rw_nt0177_01.row.name with
  | none => rw [q] at h; cases h
  | some x =>
    obtain ⟨d, kwd⟩ := x
    rw [q] at e k
    exact ⟨d, kwd, rfl, e, k, defOf_name q⟩
theorem holds_of (walk : ∀ d kwd, d.name = rw_nt0177_01.row.name → WalkO theView looseL (fun _ _ => True) hook.says rw_nt0177_01.row.toRowW d kwd fun f vs => PySem.call f vs) : rw_nt0177_01.Holds := by
  obtain ⟨d, kwd, hdef, hp, hk, hn⟩ := def_is
  have h1 : rw_nt0177_01.row.toRowW.promised := by
    w_witness2
  refine holds_law said fun s => holds_open (q := theView) (loose := looseL) (Xt := fun _ => true) (XP := fun _ _ => True) (Yf := hook.obs) (Ya := hook.val) (YP := hook.says) (N := 6000) left hook.of hook.keeps (fun _ _ => trivial) (fun _ _ _ _ _ => trivial) hdef hp hk (fun s _ => recFacts_nil rfl) rfl (row_said said) ?_ ⟨rfl, rfl, rfl, rfl, rfl, ?_⟩ h1 (walk d kwd hn)
  · decide +kernel
  · decide +kernel
/-! Head6 -/
noncomputable abbrev PR : Program := rw_nt0177_01.row.prog
/-- what stays under every call -/
structure Good (w : World) (h : Heap) : Prop where
  k : (KK w.params).In h
  lim : h.NoLimit
  gl : ∃ mg, h.Ns mainGlobals mg
  bl : ∃ mb, h.Ns builtinsNs mb ∧ ∀ x : Str, x ≠ "__name__" → mb x = bootBuiltins x
theorem Good.keeps {w : World} {h h' : Heap} (G : Good w h) (k : ∀ b o, h.get? b = some o → h'.get? b = some o) : Good w h' :=
  ⟨G.k.keeps k, G.lim.keeps k, G.gl.imp fun _ x => x.keeps k, G.bl.imp fun _ x => ⟨x.1.keeps k, x.2⟩⟩
noncomputable def LawOk : Prop := ∀ (w : World) (s₁ : Shared) (l : Addr) (vs : List Value) (ns : List Int), Good w s₁.heap → s₁.heap.IsList l vs.toArray → IntsAre vs ns → ns.length ≤ 63 →
  wpAny (model PR w) callerA (call (.ref 582) [.ref l]) (fun v s' => v = .bool true ∧ (∀ b o, s₁.heap.get? b = some o → s'.heap.get? b = some o) ∧ s'.gens = s₁.gens ∧ s'.os = s₁.os) (fun _ _ => False) s₁
theorem holds_by (ok : LawOk) : rw_nt0177_01.Holds := by
  refine holds_of ?_
  intro d kwd hn w s₀ s₁ mg mb G Y a o pm cd doc dV kV ho hd hcd hD hmg hg args vals as hpre hlay hrd hwl hlo
  have KX := kIn_of Y
  refine Ground.open G ?_
  intro T B D TE TW
  wrow_args hpre hlay hrd hwl hlo
  rename_i ns _ _ _ _ _ _ _ l vs _ hL _ _ _ hI _ hlen _
  have e : a = 582 := by
    have h1 := mg_of KX T.g (n := rw_nt0177_01.row.name) (v := .ref 582) (by kernel_rfl)
    rw [hn, h1] at hmg
    cases hmg; rfl
  subst e
  refine wpAny_mono (ok w s₁ l vs ns ⟨KX, T.nolimit, ⟨_, T.g⟩, ⟨_, T.b, T.builtins⟩⟩ hL hI (by omega)) ?_ (fun _ _ h => h.elim)
  intro v s' ⟨hv, hk, hgs, hos⟩
  subst hv
  refine ⟨.inl ⟨.bool true, .bool true, [], rfl, fun _ => rfl, .bool true, ?_, ?_⟩, OldK.of_keep hk, hos, .of_eq (hgs.trans hg)⟩
  · exact postW_of (X := true) rfl ((w_eq_bool (k := true) (l := true) (w_res rfl) w_lit).trans rfl) rfl
  · exact fun _ => ⟨.nil, fun _ ha => nomatch ha⟩
end
section
open PySem PySem.W PyProof.Rows
/-! Ok1 -/
noncomputable abbrev Led := List (Addr × Obj)
noncomputable def keys (n : Led) : List Addr := n.map (·.1)

/-- the ledger with the object at d put in place of the old one -/
noncomputable def upd (d : Addr) (o : Obj) (n : Led) : Led := n.map fun p => if p.1 = d then (d, o) else p

theorem keys_upd (d : Addr) (o : Obj) (n : Led) : keys (upd d o n) = keys n := by
  unfold keys upd
  rw [List.map_map]
  refine List.map_congr_left fun p _ => ?_
  by_cases h : p.1 = d
  · simp [h]
  · simp [h]
theorem keys_append (a b : Led) : keys (a ++ b) = keys a ++ keys b := List.map_append ..
theorem mem_keys {a : Addr} {o : Obj} {n : Led} (h : (a, o) ∈ n) : a ∈ keys n := List.mem_map.mpr ⟨_, h, rfl⟩
theorem upd_off {d : Addr} {o : Obj} : ∀ {n : Led}, d ∉ keys n → upd d o n = n
  | [], _ => rfl
  | p :: r, h => by
    have h1 : p.1 ≠ d := fun e => h (by rw [← e]; exact .head _)
    have h2 : d ∉ keys r := fun e => h (.tail _ e)
    show (if p.1 = d then (d, o) else p) :: upd d o r = p :: r
    rw [if_neg h1, upd_off h2]
theorem upd_append (d : Addr) (o : Obj) (a b : Led) : upd d o (a ++ b) = upd d o a ++ upd d o b := List.map_append ..
theorem mem_upd_self {d : Addr} {o o' : Obj} {n : Led} (h : (d, o) ∈ n) : (d, o') ∈ upd d o' n :=
  List.mem_map.mpr ⟨(d, o), h, by simp⟩
theorem mem_upd_ne {d a : Addr} {o o' : Obj} {n : Led} (h : (a, o) ∈ n) (hn : a ≠ d) : (a, o) ∈ upd d o' n :=
  List.mem_map.mpr ⟨(a, o), h, by simp [hn]⟩
theorem mem_upd {d a : Addr} {o o' : Obj} {n : Led} (h : (a, o) ∈ upd d o' n) : (a = d ∧ o = o') ∨ (a ≠ d ∧ (a, o) ∈ n) := by
  obtain ⟨p, hp, e⟩ := List.mem_map.mp h
  by_cases q : p.1 = d
  · rw [if_pos q] at e
    cases e
    exact .inl ⟨rfl, rfl⟩
  · rw [if_neg q] at e
    subst e
    exact .inr ⟨q, hp⟩
theorem upd_upd (d : Addr) (o o' : Obj) (n : Led) : upd d o' (upd d o n) = upd d o' n := by
  unfold upd
  rw [List.map_map]
  refine List.map_congr_left fun p _ => ?_
  by_cases h : p.1 = d <;> simp [h]
theorem upd_to {d : Addr} {o o' : Obj} : ∀ {n : Led}, (d, o) ∈ n → (keys n).Nodup → Upd d o o' n (upd d o' n)
  | p :: r, h, nd => by
    obtain ⟨h1, h2⟩ := List.nodup_cons.mp nd
    rcases List.mem_cons.mp h with e | h
    · subst e
      show Upd d o o' ((d, o) :: r) ((if d = d then (d, o') else (d, o)) :: upd d o' r)
      rw [if_pos rfl, upd_off h1]
      exact .head fun q hq e => h1 (List.mem_map.mpr ⟨q, hq, e⟩)
    · have hn : p.1 ≠ d := fun e => h1 (by show p.1 ∈ _; rw [e]; exact mem_keys h)
      show Upd d o o' (p :: r) ((if p.1 = d then (d, o') else p) :: upd d o' r)
      rw [if_neg hn]
      exact .tail hn (upd_to h h2)
theorem same_at {a : Addr} {o o' : Obj} : ∀ {n : Led}, (keys n).Nodup → (a, o) ∈ n → (a, o') ∈ n → o = o'
  | p :: r, nd, h, h' => by
    obtain ⟨h1, h2⟩ := List.nodup_cons.mp nd
    rcases List.mem_cons.mp h with e | h <;> rcases List.mem_cons.mp h' with e' | h'
    · rw [← e] at e'; cases e'; rfl
    · exact absurd (mem_keys h') (by rw [← e] at h1; exact h1)
    · exact absurd (mem_keys h) (by rw [← e'] at h1; exact h1)
    · exact same_at h2 h h'

structure Cx (w : World) (k : Nat) (A : Around) (g : Heap) (L : Addr) (m : Str → Option Value) (led : Led) (h : Heap) : Prop where
  hd : A.handled = none
  room : A.depth + k < recursionLimit
  units : A.units + 8 * k < cLine
  good : Good w g
  fr : Fr g L h m
  nw : News g L h led
  nd : (keys led).Nodup

theorem Cx.get {w : World} {k : Nat} {A : Around} {g h : Heap} {L : Addr} {m : Str → Option Value} {R n : Led} (C : Cx w k A g L m (R ++ n) h) {a : Addr} {o : Obj} (hm : (a, o) ∈ n) : h.get? a = some o :=
  (C.nw _ (List.mem_append_right _ hm)).1
theorem Cx.good' {w : World} {k : Nat} {A : Around} {g h : Heap} {L : Addr} {m : Str → Option Value} {led : Led} (C : Cx w k A g L m led h) : Good w h := C.good.keeps C.fr.keep
theorem Cx.less {w : World} {k j : Nat} {A : Around} {g h : Heap} {L : Addr} {m : Str → Option Value} {led : Led} (C : Cx w k A g L m led h) (hj : j ≤ k) : Cx w j A g L m led h :=
  ⟨C.hd, by have := C.room; omega, by have := C.units; omega, C.good, C.fr, C.nw, C.nd⟩

noncomputable def Post (w : World) (k : Nat) (A : Around) (g : Heap) (L : Addr) (m : Str → Option Value) (R : Led) (s : Shared) (P : Led → Prop) (s' : Shared) : Prop :=
  ∃ n h' tk, s' = { s with heap := h', toks := tk } ∧ Cx w k A g L m (R ++ n) h' ∧ P n

/-- the tree runs from every state whose known objects are n's; what it hands on, and the ledger behind it, are as Q says -/
noncomputable def OK (w : World) (k : Nat) {α : Type} (t : Sem α) (n : Led) (Q : α → Led → Prop) : Prop :=
  ∀ A g L m R s, Cx w k A g L m (R ++ n) s.heap → wpAny (model PR w) A t (fun v s' => Post w k A g L m R s (Q v) s') (fun _ _ => False) s

section
variable {w : World} {k : Nat} {α β : Type} {n : Led}
theorem OK.mono {t : Sem α} {Q Q' : α → Led → Prop} (h : OK w k t n Q) (hq : ∀ v n', Q v n' → Q' v n') : OK w k t n Q' :=
  fun A g L m R s C => wpAny_mono (h A g L m R s C) (fun v _ ⟨n', h', tk, e, C', q⟩ => ⟨n', h', tk, e, C', hq v n' q⟩) fun _ _ x => x
theorem OK.pure {a : α} {Q : α → Led → Prop} (h : Q a n) : OK w k (pure a) n Q :=
  fun A g L m R s C => wpAny_pure ⟨n, s.heap, s.toks, rfl, C, h⟩
theorem OK.bind {t : Sem α} {f : α → Sem β} {Q : β → Led → Prop} (h : OK w k t n fun v n' => OK w k (f v) n' Q) : OK w k (t >>= f) n Q := by
  intro A g L m R s C
  refine wpAny_bind (wpAny_mono (h A g L m R s C) ?_ fun _ _ x => x)
  rintro v _ ⟨n', h', tk, rfl, C', q⟩
  refine wpAny_mono (q A g L m R { s with heap := h', toks := tk } C') ?_ fun _ _ x => x
  rintro b _ ⟨n2, h2, tk2, rfl, C2, q2⟩
  exact ⟨n2, h2, tk2, rfl, C2, q2⟩
theorem OK.less {t : Sem α} {Q : α → Led → Prop} {j : Nat} (h : OK w j t n Q) (hj : j ≤ k) : OK w k t n Q := by
  intro A g L m R s C
  refine wpAny_mono (h A g L m R s (C.less hj)) ?_ fun _ _ x => x
  rintro v _ ⟨n', h', tk, e, C', q⟩
  exact ⟨n', h', tk, e, ⟨C.hd, C.room, C.units, C'.good, C'.fr, C'.nw, C'.nd⟩, q⟩
/-- a look: nothing changes but the tokens -/
theorem OK.look {t : Sem α} {Q : α → Led → Prop} (h : ∀ A g L m R s, Cx w k A g L m (R ++ n) s.heap → wpAny (model PR w) A t (fun v s' => (∃ tk, s' = { s with toks := tk }) ∧ Q v n) (fun _ _ => False) s) : OK w k t n Q := by
  intro A g L m R s C
  refine wpAny_mono (h A g L m R s C) ?_ fun _ _ x => x
  rintro v _ ⟨⟨tk, rfl⟩, q⟩
  exact ⟨n, s.heap, tk, rfl, C, q⟩
end

section
variable {w : World} {k : Nat} {A : Around} {g h h' : Heap} {L : Addr} {m : Str → Option Value} {R n : Led}
theorem Cx.alloc (C : Cx w k A g L m (R ++ n) h) {l : Addr} {o : Obj} (F : Fr g L h' m) (N : News g L h' ((l, o) :: (R ++ n))) (lt : ∀ p ∈ R ++ n, p.1 < l) : Cx w k A g L m (R ++ ((l, o) :: n)) h' := by
  refine ⟨C.hd, C.room, C.units, C.good, F, ?_, ?_⟩
  · intro p hp
    refine N p ?_
    rcases List.mem_append.mp hp with hp | hp
    · exact .tail _ (List.mem_append_left _ hp)
    · rcases List.mem_cons.mp hp with rfl | hp
      · exact .head _
      · exact .tail _ (List.mem_append_right _ hp)
  · have h1 : l ∉ keys (R ++ n) := fun hl => by
      obtain ⟨p, hp, e⟩ := List.mem_map.mp hl
      have := lt p hp
      rw [e] at this
      exact Nat.lt_irrefl _ this
    have nd := C.nd
    rw [keys_append] at nd h1 ⊢
    show (keys R ++ (l :: keys n)).Nodup
    rw [List.nodup_append] at nd ⊢
    obtain ⟨a, b, c⟩ := nd
    rw [List.mem_append, not_or] at h1
    refine ⟨a, List.nodup_cons.mpr ⟨h1.2, b⟩, fun x hx y hy => ?_⟩
    rcases List.mem_cons.mp hy with rfl | hy
    · exact fun e => h1.1 (e ▸ hx)
    · exact c x hx y hy
theorem Cx.off (C : Cx w k A g L m (R ++ n) h) {d : Addr} (hd : d ∈ keys n) : d ∉ keys R := fun hr => by
  have nd := C.nd
  rw [keys_append, List.nodup_append] at nd
  exact nd.2.2 d hr d hd rfl
theorem Cx.nd' (C : Cx w k A g L m (R ++ n) h) : (keys n).Nodup := by
  have nd := C.nd
  rw [keys_append, List.nodup_append] at nd
  exact nd.2.1
theorem Cx.changed (C : Cx w k A g L m (R ++ n) h) {d : Addr} {o o' : Obj} (hd : (d, o) ∈ n) (F : Fr g L h' m) (N : News g L h' (upd d o' (R ++ n))) : Cx w k A g L m (R ++ upd d o' n) h' := by
  rw [upd_append, upd_off (C.off (mem_keys hd))] at N
  refine ⟨C.hd, C.room, C.units, C.good, F, N, ?_⟩
  have nd := C.nd
  rw [keys_append] at nd ⊢
  rw [keys_upd]; exact nd
theorem Cx.to (C : Cx w k A g L m (R ++ n) h) {d : Addr} {o o' : Obj} (hd : (d, o) ∈ n) : Upd d o o' (R ++ n) (upd d o' (R ++ n)) := upd_to (List.mem_append_right _ hd) C.nd
/-- forget some of what is known -/
theorem Cx.drop (C : Cx w k A g L m (R ++ n) h) {n' : Led} (hs : n'.Sublist n) : Cx w k A g L m (R ++ n') h :=
  ⟨C.hd, C.room, C.units, C.good, C.fr, fun p hp => C.nw p ((List.mem_append.mp hp).elim (List.mem_append_left _) fun q => List.mem_append_right _ (hs.subset q)), by
    have nd := C.nd
    rw [keys_append] at nd ⊢
    exact (List.Sublist.append (List.Sublist.refl _) (hs.map _)).nodup nd⟩
end

section
variable {w : World} {k : Nat} {n : Led}
theorem ok_newList {vs : List Value} {Q : Value → Led → Prop} (hsz : vs.length ≤ sizeLine) (h : ∀ l, l ∉ keys n → Q (.ref l) ((l, listOf vs.toArray 0) :: n)) : OK w k (newList vs) n Q := by
  intro A g L m R s C
  refine newList_K C.fr C.nw (fun l h' F N lt => ?_) hsz
  exact ⟨_, h', s.toks, rfl, C.alloc F N lt, h l fun hl => by
    obtain ⟨p, hp, e⟩ := List.mem_map.mp hl
    have := lt p (List.mem_append_right _ hp)
    rw [e] at this
    exact Nat.lt_irrefl _ this⟩
noncomputable abbrev tupOf (its : Array Value) : Obj := { cls := .type "tuple", data := .seq its }
theorem ok_newTuple {vs : List Value} {Q : Value → Led → Prop} (hsz : vs.length ≤ sizeLine) (h : ∀ l, l ∉ keys n → Q (.ref l) ((l, tupOf vs.toArray) :: n)) : OK w k (newTuple vs) n Q := by
  intro A g L m R s C
  have lt : ∀ p ∈ R ++ n, p.1 < s.heap.objs.size := fun p hp => Heap.lt_size (C.nw p hp).1
  refine newTuple_N C.fr C.nw (fun h' F N => ?_) hsz
  exact ⟨_, h', s.toks, rfl, C.alloc F N lt, h _ fun hl => by
    obtain ⟨p, hp, e⟩ := List.mem_map.mp hl
    have := lt p (List.mem_append_right _ hp)
    rw [e] at this
    exact Nat.lt_irrefl _ this⟩
theorem ok_append {d : Addr} {its : Array Value} {ep : Nat} {x : Value} {Q : Value → Led → Prop} (hd : (d, listOf its ep) ∈ n) (hsz : its.size ≤ sizeLine) (h : Q .none (upd d (listOf (its.push x) (ep + 1)) n)) :
    OK w k (call (.builtin "list.append") [.ref d, x]) n Q := by
  intro A g L m R s C
  exact append_K C.fr C.nw (C.to hd) (fun h' F N => ⟨_, h', s.toks, rfl, C.changed hd F N, h⟩) hsz
end
/-! Ir -/
mutual
/-- expressions with numbered locals and resolved globals -/
inductive Ex where
  | v (i : Nat)
  | int (i : Int)
  | str (s : Str)
  | bool (b : Bool)
  | g (x : Value)
  | bin (op : Operator) (a b : Ex)
  | neg (a : Ex)
  | cmp (op : CmpOp) (a b : Ex)
  | and (a b : Ex)
  | or (a b : Ex)
  | ite (t a b : Ex)
  | list (es : Exs)
  | tuple (es : Exs)
  | dict
  | attr (a : Ex) (n : Str)
  | idx (a i : Ex)
  | cutTo (a hi : Ex)
  | cutFrom (a lo : Ex)
  | rev (a : Ex)
  | call (f : Ex) (es : Exs)
  | meth (o : Ex) (n : Str) (es : Exs)
  | comp (e : Ex) (x : Nat) (it : Ex)
  | compIf (e : Ex) (x : Nat) (it c : Ex)
inductive Exs where
  | nil
  | cons (e : Ex) (es : Exs)
end
mutual
inductive St where
  | expr (e : Ex)
  | ret (e : Ex)
  | asg (i : Nat) (e : Ex)
  | asgT (is : List Nat) (e : Ex)
  | asgR (is : List Nat) (e : Ex)
  | asgA (o : Ex) (n : Str) (e : Ex)
  | asgI (o i : Ex) (e : Ex)
  | ite (t : Ex) (a b : Sts)
  | loop (t : Ex) (b : Sts)
  | each (x : Nat) (e : Ex) (b : Sts)
  | eachT (xs : List Nat) (e : Ex) (b : Sts)
inductive Sts where
  | nil
  | cons (s : St) (ss : Sts)
end

noncomputable def biNames : List (Str × Value) := [("len", .builtin "len"), ("range", .type "range"), ("sorted", .builtin "sorted"), ("abs", .builtin "abs"), ("list", .type "list")]
theorem bi_ok : ∀ x v, biNames.lookup x = some v → bootBuiltins x = some v ∧ x ≠ ("__name__" : Str) := by
  have h : biNames.all (fun p => decide (bootBuiltins p.1 = some p.2) && decide (p.1 ≠ ("__name__" : Str))) = true := by decide +kernel
  intro x v e
  have := List.all_eq_true.mp h (x, v) (by
    have : ∀ (l : List (Str × Value)), l.lookup x = some v → (x, v) ∈ l := by
      intro l
      induction l with
      | nil => intro h; cases h
      | cons p r ih =>
        intro h
        rw [List.lookup_cons] at h
        split at h
        · rename_i q; cases h; rw [beq_iff_eq] at q; rw [q]; exact .head _
        · exact .tail _ (ih h)
    exact this _ e)
  simpa using this

noncomputable def cName (KP : Frag) (sc : Scope) (ns : List Str) (x : Str) : Option Ex :=
  if x == ("__debug__" : Str) || x == ("__classdict__" : Str) then none else
  match sc.names.lookup x with
  | some .local | some .cell | some .free => (ns.idxOf? x).map .v
  | some .globalImplicit => match nsIn KP mainGlobals x with
    | some (some v) => some (.g v)
    | some none => (biNames.lookup x).map .g
    | none => none
  | _ => none

noncomputable def isPath : Expr → Bool
  | .Name .. | .Attribute .. => true
  | _ => false
noncomputable def isSlice : Expr → Bool
  | .Slice .. => true
  | _ => false
noncomputable def isAttr : Expr → Bool
  | .Attribute .. => true
  | _ => false
noncomputable def isStar : Expr → Bool
  | .Starred .. => true
  | _ => false
noncomputable def mkExs : List Ex → Exs
  | [] => .nil
  | e :: r => .cons e (mkExs r)

noncomputable def nameOf : Expr → Option (Str × Pos)
  | .Name x p => some (x, p)
  | _ => none
noncomputable def attrOf : Expr → Option (Expr × Str × Pos)
  | .Attribute o nm p => some (o, nm, p)
  | _ => none
noncomputable def subOf : Expr → Option (Expr × Expr × Pos)
  | .Subscript o i p => some (o, i, p)
  | _ => none
noncomputable def tupleOf : Expr → Option (List Expr × Nat × Pos)
  | .Tuple ts k p => some (ts, k, p)
  | _ => none
noncomputable def cutOf : Expr → Option (Option Expr × Option Expr × Option Expr × Pos)
  | .Slice a b c p => some (a, b, c, p)
  | _ => none
noncomputable def isOne : Expr → Bool
  | .Constant c _ _ => (match c with | .int i => decide (i = 1) | _ => false)
  | _ => false
noncomputable def isNegOne : Expr → Bool
  | .UnaryOp op x _ => (match op with | .USub => isOne x | _ => false)
  | _ => false
theorem none_ne {α : Type} {x : α} {P : Prop} (h : none = some x) : P := nomatch h
theorem false_ne {P : Prop} (h : false = true) : P := nomatch h
theorem nameOf_some {e : Expr} {x : Str} {p : Pos} (h : nameOf e = some (x, p)) : e = .Name x p := by
  cases e with
  | Name => cases h; rfl
  | _ => exact none_ne h
theorem attrOf_some {e o : Expr} {x : Str} {p : Pos} (h : attrOf e = some (o, x, p)) : e = .Attribute o x p := by
  cases e with
  | Attribute => cases h; rfl
  | _ => exact none_ne h
theorem attrOf_none {e : Expr} (h : attrOf e = none) : isAttr e = false := by
  cases e with
  | Attribute => cases h
  | _ => rfl
theorem subOf_some {e o i : Expr} {p : Pos} (h : subOf e = some (o, i, p)) : e = .Subscript o i p := by
  cases e with
  | Subscript => cases h; rfl
  | _ => exact none_ne h
theorem tupleOf_some {e : Expr} {ts : List Expr} {k : Nat} {p : Pos} (h : tupleOf e = some (ts, k, p)) : e = .Tuple ts k p := by
  cases e with
  | Tuple => cases h; rfl
  | _ => exact none_ne h
theorem cutOf_some {e : Expr} {a b c : Option Expr} {p : Pos} (h : cutOf e = some (a, b, c, p)) : e = .Slice a b c p := by
  cases e with
  | Slice => cases h; rfl
  | _ => exact none_ne h
theorem cutOf_none {e : Expr} (h : cutOf e = none) : isSlice e = false := by
  cases e with
  | Slice => cases h
  | _ => rfl
theorem isOne_true {e : Expr} (h : isOne e = true) : ∃ k p, e = .Constant (.int 1) k p := by
  cases e with
  | Constant c k p =>
    cases c with
    | int i => exact ⟨k, p, by rw [of_decide_eq_true (p := i = 1) h]⟩
    | _ => exact false_ne h
  | _ => exact false_ne h
theorem isNegOne_true {e : Expr} (h : isNegOne e = true) : ∃ k p q, e = .UnaryOp .USub (.Constant (.int 1) k p) q := by
  cases e with
  | UnaryOp op x q =>
    cases op with
    | USub => obtain ⟨k, p, e⟩ := isOne_true h; exact ⟨k, p, q, by rw [e]⟩
    | _ => exact false_ne h
  | _ => exact false_ne h
theorem ite_none {α : Type} {c : Bool} {o : Option α} {b : α} (h : (if c = true then none else o) = some b) : c = false ∧ o = some b := by
  cases c with
  | true => cases h
  | false => exact ⟨rfl, h⟩

noncomputable def cConst : Const → Option Ex
  | .int i => some (.int i)
  | .str s => some (.str s)
  | .bool b => some (.bool b)
  | _ => none
noncomputable def cE (KP : Frag) : Nat → Scope → List Str → Expr → Option Ex
  | 0, _, _, _ => none
  | n + 1, sc, ns, e => match e with
    | .Name x _ => cName KP sc ns x
    | .Constant c _ _ => cConst c
    | .BinOp l op r _ => (cE KP n sc ns l).bind fun a => (cE KP n sc ns r).map fun b => .bin op a b
    | .UnaryOp op x _ => match op with
      | .USub => (cE KP n sc ns x).map .neg
      | _ => none
    | .Compare l ops rs _ => match ops with
      | [] => none
      | op :: t => match t with
        | _ :: _ => none
        | [] => match rs with
          | [] => none
          | r :: u => match u with
            | _ :: _ => none
            | [] => if behindInMarks op r = true then none else (cE KP n sc ns l).bind fun a => (cE KP n sc ns r).map fun b => .cmp op a b
    | .BoolOp op es p => match es with
      | [] => none
      | a :: t => match t with
        | [] => cE KP n sc ns a
        | b :: r => match op with
          | .And => (cE KP n sc ns a).bind fun x => (cE KP n sc ns (.BoolOp .And (b :: r) p)).map fun y => .and x y
          | .Or => (cE KP n sc ns a).bind fun x => (cE KP n sc ns (.BoolOp .Or (b :: r) p)).map fun y => .or x y
    | .IfExp t a b _ => (cE KP n sc ns t).bind fun x => (cE KP n sc ns a).bind fun y => (cE KP n sc ns b).map fun z => .ite x y z
    | .List es _ => if es.any isStar = true then none else (es.mapM (cE KP n sc ns)).map fun l => .list (mkExs l)
    | .Tuple es _ _ => if es.any isStar = true then none else (es.mapM (cE KP n sc ns)).map fun l => .tuple (mkExs l)
    | .Dict ks vs _ => match ks with
      | _ :: _ => none
      | [] => match vs with
        | _ :: _ => none
        | [] => some .dict
    | .Call f args kws pos => match kws with
      | _ :: _ => none
      | [] => match attrOf f with
        | some (o, nm, ap) => if (args.any isStar || !isPath o || ap.endLine != pos.line || decide (29 < args.length)) = true then none else
            (cE KP n sc ns o).bind fun x => (args.mapM (cE KP n sc ns)).map fun l => .meth x nm (mkExs l)
        | none => if (args.any isStar || decide (29 < args.length)) = true then none else
            (cE KP n sc ns f).bind fun x => (args.mapM (cE KP n sc ns)).map fun l => .call x (mkExs l)
    | .Attribute o nm _ => if (!isPath o) = true then none else (cE KP n sc ns o).map fun x => .attr x nm
    | .Subscript a i _ => match cutOf i with
      | none => (cE KP n sc ns a).bind fun x => (cE KP n sc ns i).map fun y => .idx x y
      | some (lo, hi, st, _) => match st with
        | some s => match lo with
          | some _ => none
          | none => match hi with
            | some _ => none
            | none => if (!isNegOne s) = true then none else (cE KP n sc ns a).map .rev
        | none => match lo with
          | some lo => match hi with
            | some _ => none
            | none => (cE KP n sc ns a).bind fun x => (cE KP n sc ns lo).map fun y => .cutFrom x y
          | none => match hi with
            | some hi => (cE KP n sc ns a).bind fun x => (cE KP n sc ns hi).map fun y => .cutTo x y
            | none => none
    | .ListComp elt gens csc _ => match gens with
      | [] => none
      | g :: t => match t with
        | _ :: _ => none
        | [] => match nameOf g.target with
          | none => none
          | some (x, _) => if (ns.contains x || ns.contains (".0" : Str) || csc.kind != .function || csc.names.lookup x != some .local || !(csc.names.all fun y => y.2 != .cell && (y.2 != .local || y.1 == x || y.1 == (".0" : Str))) ||
              !(csc.names.all fun y => y.2 != .free || sc.names.lookup y.1 == some .cell) || (isSlice g.iter || g.is_async != 0) || decide (csc.names.map (·.1)).Nodup == false) = true then none else
            (cE KP n sc ns g.iter).bind fun ci => (cE KP n csc (ns ++ [x]) elt).bind fun ce => match g.ifs with
              | [] => some (.comp ce ns.length ci)
              | c :: u => match u with
                | _ :: _ => none
                | [] => (cE KP n csc (ns ++ [x]) c).map fun cc => .compIf ce ns.length ci cc
    | _ => none

noncomputable def cIdx (sc : Scope) (ns : List Str) (x : Str) : Option Nat := match sc.names.lookup x with
  | some .local | some .cell => ns.idxOf? x
  | _ => none
noncomputable def isLComp : Expr → Bool
  | .ListComp .. | .SetComp .. | .DictComp .. => true
  | _ => false
noncomputable def compNames : Expr → List (Str × NameKind)
  | .ListComp _ _ s _ => s.names
  | _ => []
/-- does the store of a comprehension go by the other road -/
noncomputable def swapOne (sc : Scope) (x : Str) (px : Pos) (e : Expr) : Bool :=
  sc.names.lookup x == some .local && px.line == e.pos.line && !((compNames e).any fun y => y.1 == x && (y.2 == .local || y.2 == .cell))
noncomputable def isTuple : Expr → Bool
  | .Tuple .. => true
  | .List .. => true
  | _ => false
/-- the targets of an unpacking, all of them locals -/
noncomputable def cTargets (sc : Scope) (ns : List Str) : List Expr → Option (List Nat)
  | [] => some []
  | e :: r => match nameOf e with
    | none => none
    | some (x, _) => if (!(sc.names.lookup x == some .local)) = true then none else (ns.idxOf? x).bind fun i => (cTargets sc ns r).map fun is => i :: is
noncomputable def sameLine (l : Nat) : List Expr → Bool
  | [] => true
  | e :: r => match nameOf e with
    | none => false
    | some (_, p) => p.line == l && sameLine l r
noncomputable def tNames : List Expr → List Str
  | [] => []
  | e :: r => match nameOf e with
    | none => tNames r
    | some (x, _) => x :: tNames r
theorem cTargets_cons {sc : Scope} {ns : List Str} {e : Expr} {r : List Expr} {is : List Nat} (h : cTargets sc ns (e :: r) = some is) :
    ∃ x p i is', e = .Name x p ∧ sc.names.lookup x = some .local ∧ ns.idxOf? x = some i ∧ cTargets sc ns r = some is' ∧ is = i :: is' := by
  have h : (match nameOf e with
    | none => none
    | some (x, _) => if (!(sc.names.lookup x == some .local)) = true then none else (ns.idxOf? x).bind fun i => (cTargets sc ns r).map fun is => i :: is) = some is := h
  cases hn : nameOf e with
  | none => rw [hn] at h; cases h
  | some q =>
    obtain ⟨x, p⟩ := q
    rw [hn] at h
    obtain ⟨hk, h⟩ := ite_none h
    obtain ⟨i, h1, h2⟩ := Option.bind_eq_some_iff.mp h
    obtain ⟨is', h3, rfl⟩ := Option.map_eq_some_iff.mp h2
    exact ⟨x, p, i, is', nameOf_some hn, by simpa using hk, h1, h3, rfl⟩
noncomputable def lineOf (ts : List Expr) : Nat := (ts.head?.map (·.pos.line)).getD 0
mutual
noncomputable def cS (KP : Frag) : Nat → Scope → List Str → Stmt → Option St
  | 0, _, _, _ => none
  | f + 1, sc, ns, s => match s with
    | .Expr e _ => if isLComp e = true then none else (cE KP f sc ns e).map .expr
    | .Return v _ => match v with
      | none => none
      | some e => (cE KP f sc ns e).map .ret
    | .Assign tg e _ => match tg with
      | [] => none
      | t :: rr => match rr with
        | _ :: _ => none
        | [] => match nameOf t with
          | some (x, px) => if (isLComp e && !swapOne sc x px e && sc.names.lookup x != some .cell) = true then none else (cIdx sc ns x).bind fun i => (cE KP f sc ns e).map fun c => .asg i c
          | none => match attrOf t with
            | some (o, nm, _) => if isLComp e = true then none else (cE KP f sc ns e).bind fun c => (cE KP f sc ns o).map fun a => .asgA a nm c
            | none => match subOf t with
              | some (o, i, _) => if (isLComp e || isSlice i) = true then none else (cE KP f sc ns e).bind fun c => (cE KP f sc ns o).bind fun a => (cE KP f sc ns i).map fun b => .asgI a b c
              | none => match tupleOf t with
                | none => none
                | some (ts, _, _) => (cTargets sc ns ts).bind fun is => (cE KP f sc ns e).bind fun c => match tupleOf e with
                  | some (vs, _, _) => if (vs.length != ts.length || vs.any isStar) = true then none
                      else if (ts.length == 4) = true then some (.asgT is c)
                      else if (!(ts.length == 2 && sameLine (lineOf ts) ts && (tNames ts).eraseDups.length == (tNames ts).length && !(vs.all (foldedForSure 8)) && !(vs.all (constantsAlone 8)))) = true then none
                      else some (.asgR is c)
                  | none => if (isTuple e || isLComp e) = true then none else some (.asgT is c)
    | .If t a b _ => (cE KP f sc ns t).bind fun x => (cB KP f sc ns a).bind fun y => (cB KP f sc ns b).map fun z => .ite x y z
    | .While t b els _ => match els with
      | _ :: _ => none
      | [] => (cE KP f sc ns t).bind fun x => (cB KP f sc ns b).map fun y => .loop x y
    | .For t it b els _ => match els with
      | _ :: _ => none
      | [] => match nameOf t with
        | some (x, _) => if (sc.names.lookup x != some .local) = true then none else (ns.idxOf? x).bind fun i => (cE KP f sc ns it).bind fun c => (cB KP f sc ns b).map fun y => .each i c y
        | none => match tupleOf t with
          | none => none
          | some (ts, _, _) => (cTargets sc ns ts).bind fun is => (cE KP f sc ns it).bind fun c => (cB KP f sc ns b).map fun y => .eachT is c y
    | _ => none
noncomputable def cB (KP : Frag) : Nat → Scope → List Str → List Stmt → Option Sts
  | 0, _, _, _ => none
  | f + 1, sc, ns, b => match b with
    | [] => some .nil
    | s :: r => (cS KP f sc ns s).bind fun a => (cB KP f sc ns r).map fun b => .cons a b
end
/-! Wp -/
noncomputable abbrev Lc := Nat → Option Value
noncomputable def lset (i : Nat) (x : Value) (l : Lc) : Lc := fun j => if j = i then some x else l j
noncomputable abbrev rangeOf (n : Nat) (t u v : Tok) : Obj := { cls := .type "range", data := .fields #[.int 0 t, .int n u, .int 1 v] }

/-- what a for or a comprehension goes over -/
inductive Src where
  | list (l : Addr) (its : Array Value) (ep : Nat)
  | tup (l : Addr) (its : Array Value)
  | range (r : Addr) (n : Nat) (t u v : Tok)
noncomputable def Src.val : Src → Value
  | .list l _ _ | .tup l _ | .range l .. => .ref l
noncomputable def Src.cnt : Src → Nat
  | .list _ its _ | .tup _ its => its.size
  | .range _ n .. => n
noncomputable def Src.item : Src → Nat → Value → Prop
  | .list _ its _, i, v | .tup _ its, i, v => its[i]? = some v
  | .range .., i, v => ∃ t, v = .int i t
noncomputable def Src.live : Src → Led → Prop
  | .list l its ep, n => (l, listOf its ep) ∈ n
  | .tup l its, n => (l, tupOf its) ∈ n
  | .range r m t u v, n => (r, rangeOf m t u v) ∈ n
noncomputable def Src.fits : Src → Prop
  | .range _ n .. => Builtin.Range.small 0 n 1 = true
  | _ => True

/-- a value that may be called as it stands, whatever the heap above the base -/
noncomputable def Callable (w : World) (f : Value) : Prop := ∀ h, Good w h → ∃ kp, (kp = Keeper.frame ∨ kp = Keeper.machine ∨ kp = Keeper.boundFrame) ∧ Looks (model PR w) h (keeperOf f) kp

noncomputable def subTree (o i : Value) : Sem Value := do
  match ← getitemInPython o with
  | true => runValue (.builtin "lifetime.subscript" ⟨[o, i], []⟩)
  | false => operate [o, i] (getItem o i)
/-- o[lo:hi], i the slice -/
noncomputable def cutTree (o i : Value) : Sem Value := do
  let _ ← getitemInPython o
  operate [i, o] (getItem o i)
noncomputable abbrev sliceOf (lo hi st : Value) : Obj := { cls := .type "slice", data := .fields #[lo, hi, st] }

mutual
noncomputable def wE (w : World) (k : Nat) : Ex → Lc → Led → (Value → Led → Prop) → Prop
  | .v i, l, n, Q => ∃ x, l i = some x ∧ Q x n
  | .int i, _, n, Q => ∀ t, Q (.int i t) n
  | .str s, _, n, Q => ∀ t, Q (.str s t) n
  | .bool b, _, n, Q => Q (.bool b) n
  | .g x, _, n, Q => Q x n
  | .bin op a b, l, n, Q => wE w k a l n fun x n1 => wE w k b l n1 fun y n2 => OK w k (binaryOp op x y) n2 Q
  | .neg a, l, n, Q => wE w k a l n fun x n1 => OK w k (unaryOp .USub x) n1 Q
  | .cmp op a b, l, n, Q => wE w k a l n fun x n1 => wE w k b l n1 fun y n2 => OK w k (compareOp op x y) n2 Q
  | .and a b, l, n, Q => wE w k a l n fun x n1 => ∃ c, x = .bool c ∧ match c with | true => wE w k b l n1 Q | false => Q x n1
  | .or a b, l, n, Q => wE w k a l n fun x n1 => ∃ c, x = .bool c ∧ match c with | true => Q x n1 | false => wE w k b l n1 Q
  | .ite t a b, l, n, Q => wT w k t l n fun c n1 => match c with | true => wE w k a l n1 Q | false => wE w k b l n1 Q
  | .list es, l, n, Q => wEs w k es l n fun vs n1 => vs.length ≤ sizeLine ∧ ∀ a, a ∉ keys n1 → Q (.ref a) ((a, listOf vs.toArray 0) :: n1)
  | .tuple es, l, n, Q => wEs w k es l n fun vs n1 => vs.length ≤ sizeLine ∧ ∀ a, a ∉ keys n1 → Q (.ref a) ((a, tupOf vs.toArray) :: n1)
  | .dict, _, n, Q => ∀ a, a ∉ keys n → (a == sysModules) = false → Q (.ref a) ((a, dictOf [] 0) :: n)
  | .attr a nm, l, n, Q => wE w k a l n fun x n1 => OK w k (getAttr x nm true) n1 Q
  | .idx a i, l, n, Q => wE w k a l n fun x n1 => wE w k i l n1 fun y n2 => OK w k (subTree x y) n2 Q
  | .cutTo a hi, l, n, Q => wE w k a l n fun x n1 => wE w k hi l n1 fun y n2 => ∀ i, i ∉ keys n2 → OK w k (cutTree x (.ref i)) ((i, sliceOf .none y .none) :: n2) Q
  | .cutFrom a lo, l, n, Q => wE w k a l n fun x n1 => wE w k lo l n1 fun y n2 => ∀ i, i ∉ keys n2 → OK w k (cutTree x (.ref i)) ((i, sliceOf y .none .none) :: n2) Q
  | .rev a, l, n, Q => wE w k a l n fun x n1 => ∀ t i, i ∉ keys n1 → OK w k (subTree x (.ref i)) ((i, sliceOf .none .none (.int (-1) t)) :: n1) Q
  | .call f es, l, n, Q => wE w k f l n fun fv n1 => wEs w k es l n1 fun vs n2 => Callable w fv ∧ OK w k (call fv vs) n2 Q
  | .meth o nm es, l, n, Q => wE w k o l n fun ov n1 => ∃ fv first, (∀ pl, OK w k (getMethod ov nm pl) n1 fun r n2 => r = (fv, first) ∧ n2 = n1) ∧
      wEs w k es l n1 fun vs n2 => Callable w fv ∧ OK w k (call fv (first ++ vs)) n2 Q
  | .comp e x it, l, n, Q => wE w k it l n fun v n1 => ∃ S : Src, S.val = v ∧ S.live n1 ∧ S.fits ∧ S.cnt ≤ sizeLine ∧ ∃ J : Nat → List Value → Led → Prop, J 0 [] n1 ∧
      ∀ i ys n2, J i ys n2 → S.live n2 ∧ (i < S.cnt → ∀ y, S.item i y → wE w k e (lset x y l) n2 fun z n3 => J (i + 1) (ys ++ [z]) n3) ∧
        (i = S.cnt → ∀ d, d ∉ keys n2 → Q (.ref d) ((d, listOf ys.toArray ys.length) :: n2))
  | .compIf e x it c, l, n, Q => wE w k it l n fun v n1 => ∃ S : Src, S.val = v ∧ S.live n1 ∧ S.fits ∧ S.cnt ≤ sizeLine ∧ ∃ J : Nat → List Value → Led → Prop, J 0 [] n1 ∧
      ∀ i ys n2, J i ys n2 → S.live n2 ∧ (i < S.cnt → ∀ y, S.item i y → wT w k c (lset x y l) n2 fun b n3 => match b with
            | true => wE w k e (lset x y l) n3 fun z n4 => J (i + 1) (ys ++ [z]) n4
            | false => J (i + 1) ys n3) ∧
        (i = S.cnt → ∀ d, d ∉ keys n2 → Q (.ref d) ((d, listOf ys.toArray ys.length) :: n2))
noncomputable def wT (w : World) (k : Nat) : Ex → Lc → Led → (Bool → Led → Prop) → Prop
  | .and a b, l, n, Q => wT w k a l n fun c n1 => match c with | true => wT w k b l n1 Q | false => Q false n1
  | .or a b, l, n, Q => wT w k a l n fun c n1 => match c with | true => Q true n1 | false => wT w k b l n1 Q
  | .cmp op a b, l, n, Q => wE w k a l n fun x n1 => wE w k b l n1 fun y n2 => OK w k (compareOp op x y) n2 fun v n3 => ∃ c, v = .bool c ∧ Q c n3
  | .call f es, l, n, Q => wE w k f l n fun fv n1 => wEs w k es l n1 fun vs n2 => Callable w fv ∧ OK w k (call fv vs) n2 fun v n3 => ∃ c, v = .bool c ∧ Q c n3
  | _, _, _, _ => False
noncomputable def wEs (w : World) (k : Nat) : Exs → Lc → Led → (List Value → Led → Prop) → Prop
  | .nil, _, n, Q => Q [] n
  | .cons e es, l, n, Q => wE w k e l n fun v n1 => wEs w k es l n1 fun vs n2 => Q (v :: vs) n2
end

noncomputable def setAll : List Nat → List Value → Lc → Lc
  | i :: is, x :: xs, l => setAll is xs (lset i x l)
  | _, _, l => l

mutual
noncomputable def wS (w : World) (k : Nat) : St → Lc → Led → (Flow → Lc → Led → Prop) → Prop
  | .expr e, l, n, Q => wE w k e l n fun v n1 => (∀ a, v ≠ .ref a) ∧ Q .next l n1
  | .ret e, l, n, Q => wE w k e l n fun v n1 => Q (.ret v) l n1
  | .asg i e, l, n, Q => wE w k e l n fun v n1 => Q .next (lset i v l) n1
  | .asgT is e, l, n, Q => wE w k e l n fun v n1 => ∃ t its, v = .ref t ∧ (t, tupOf its) ∈ n1 ∧ its.size = is.length ∧ Q .next (setAll is its.toList l) n1
  | .asgR is e, l, n, Q => wE w k e l n fun v n1 => ∃ t its, v = .ref t ∧ (t, tupOf its) ∈ n1 ∧ its.size = is.length ∧ Q .next (setAll is.reverse its.toList.reverse l) n1
  | .asgA o nm e, l, n, Q => wE w k e l n fun v n1 => wE w k o l n1 fun x n2 => OK w k (setAttr x nm v) n2 fun _ n3 => Q .next l n3
  | .asgI o i e, l, n, Q => wE w k e l n fun v n1 => wE w k o l n1 fun x n2 => wE w k i l n2 fun y n3 => OK w k (setItem x y v) n3 fun _ n4 => Q .next l n4
  | .ite t a b, l, n, Q => wT w k t l n fun c n1 => match c with | true => wB w k a l n1 Q | false => wB w k b l n1 Q
  | .loop t b, l, n, Q => ∃ I : Nat → Lc → Led → Prop, (∃ j, I j l n) ∧ ∀ j l1 n1, I j l1 n1 → wT w k t l1 n1 fun c n2 => match c with
      | true => wB w k b l1 n2 fun f l3 n3 => match f with
          | .next | .cont => ∃ i, i < j ∧ I i l3 n3
          | .brk => Q .next l3 n3
          | .ret v => Q (.ret v) l3 n3
      | false => Q .next l1 n2
  | .each x e b, l, n, Q => wE w k e l n fun v n1 => ∃ S : Src, S.val = v ∧ S.live n1 ∧ S.fits ∧ ∃ I : Nat → Lc → Led → Prop, I 0 l n1 ∧
      ∀ i l2 n2, I i l2 n2 → S.live n2 ∧ (i < S.cnt → ∀ y, S.item i y → wB w k b (lset x y l2) n2 fun f l3 n3 => match f with
          | .next | .cont => I (i + 1) l3 n3
          | .brk => Q .next l3 n3
          | .ret v => Q (.ret v) l3 n3) ∧ (i = S.cnt → Q .next l2 n2)
  | .eachT xs e b, l, n, Q => wE w k e l n fun v n1 => ∃ (lA : Addr) (its0 : Array Value) (ep : Nat), v = .ref lA ∧ let S := Src.list lA its0 ep; S.live n1 ∧ ∃ I : Nat → Lc → Led → Prop, I 0 l n1 ∧
      ∀ i l2 n2, I i l2 n2 → S.live n2 ∧ (i < S.cnt → ∀ y, S.item i y → ∃ t its, y = .ref t ∧ (t, tupOf its) ∈ n2 ∧ its.size = xs.length ∧ wB w k b (setAll xs its.toList l2) n2 fun f l3 n3 => match f with
          | .next | .cont => I (i + 1) l3 n3
          | .brk => Q .next l3 n3
          | .ret v => Q (.ret v) l3 n3) ∧ (i = S.cnt → Q .next l2 n2)
noncomputable def wB (w : World) (k : Nat) : Sts → Lc → Led → (Flow → Lc → Led → Prop) → Prop
  | .nil, l, n, Q => Q .next l n
  | .cons s r, l, n, Q => wS w k s l n fun f l1 n1 => match f with | .next => wB w k r l1 n1 Q | f => Q f l1 n1
end

section
variable {w : World} {k : Nat} {l : Lc} {n : Led}
section
variable {Q : Value → Led → Prop}
theorem wE_v {i : Nat} (h : wE w k (.v i) l n Q) : ∃ x, l i = some x ∧ Q x n := h
theorem wE_int {i : Int} (h : wE w k (.int i) l n Q) : ∀ t, Q (.int i t) n := h
theorem wE_str {i : Str} (h : wE w k (.str i) l n Q) : ∀ t, Q (.str i t) n := h
theorem wE_bool {i : Bool} (h : wE w k (.bool i) l n Q) : Q (.bool i) n := h
theorem wE_g {x : Value} (h : wE w k (.g x) l n Q) : Q x n := h
theorem wE_bin {op : Operator} {a b : Ex} (h : wE w k (.bin op a b) l n Q) : wE w k a l n fun x n1 => wE w k b l n1 fun y n2 => OK w k (binaryOp op x y) n2 Q := h
theorem wE_neg {a : Ex} (h : wE w k (.neg a) l n Q) : wE w k a l n fun x n1 => OK w k (unaryOp .USub x) n1 Q := h
theorem wE_cmp {op : CmpOp} {a b : Ex} (h : wE w k (.cmp op a b) l n Q) : wE w k a l n fun x n1 => wE w k b l n1 fun y n2 => OK w k (compareOp op x y) n2 Q := h
theorem wE_and {a b : Ex} (h : wE w k (.and a b) l n Q) : wE w k a l n fun x n1 => ∃ c, x = .bool c ∧ match c with | true => wE w k b l n1 Q | false => Q x n1 := h
theorem wE_or {a b : Ex} (h : wE w k (.or a b) l n Q) : wE w k a l n fun x n1 => ∃ c, x = .bool c ∧ match c with | true => Q x n1 | false => wE w k b l n1 Q := h
theorem wE_ite {t a b : Ex} (h : wE w k (.ite t a b) l n Q) : wT w k t l n fun c n1 => match c with | true => wE w k a l n1 Q | false => wE w k b l n1 Q := h
theorem wE_list {es : Exs} (h : wE w k (.list es) l n Q) : wEs w k es l n fun vs n1 => vs.length ≤ sizeLine ∧ ∀ a, a ∉ keys n1 → Q (.ref a) ((a, listOf vs.toArray 0) :: n1) := h
theorem wE_tuple {es : Exs} (h : wE w k (.tuple es) l n Q) : wEs w k es l n fun vs n1 => vs.length ≤ sizeLine ∧ ∀ a, a ∉ keys n1 → Q (.ref a) ((a, tupOf vs.toArray) :: n1) := h
theorem wE_dict (h : wE w k .dict l n Q) : ∀ a, a ∉ keys n → (a == sysModules) = false → Q (.ref a) ((a, dictOf [] 0) :: n) := h
theorem wE_attr {a : Ex} {nm : Str} (h : wE w k (.attr a nm) l n Q) : wE w k a l n fun x n1 => OK w k (getAttr x nm true) n1 Q := h
theorem wE_idx {a i : Ex} (h : wE w k (.idx a i) l n Q) : wE w k a l n fun x n1 => wE w k i l n1 fun y n2 => OK w k (subTree x y) n2 Q := h
theorem wE_cutTo {a i : Ex} (h : wE w k (.cutTo a i) l n Q) : wE w k a l n fun x n1 => wE w k i l n1 fun y n2 => ∀ i, i ∉ keys n2 → OK w k (cutTree x (.ref i)) ((i, sliceOf .none y .none) :: n2) Q := h
theorem wE_cutFrom {a i : Ex} (h : wE w k (.cutFrom a i) l n Q) : wE w k a l n fun x n1 => wE w k i l n1 fun y n2 => ∀ i, i ∉ keys n2 → OK w k (cutTree x (.ref i)) ((i, sliceOf y .none .none) :: n2) Q := h
theorem wE_rev {a : Ex} (h : wE w k (.rev a) l n Q) : wE w k a l n fun x n1 => ∀ t i, i ∉ keys n1 → OK w k (subTree x (.ref i)) ((i, sliceOf .none .none (.int (-1) t)) :: n1) Q := h
theorem wE_call {f : Ex} {es : Exs} (h : wE w k (.call f es) l n Q) : wE w k f l n fun fv n1 => wEs w k es l n1 fun vs n2 => Callable w fv ∧ OK w k (call fv vs) n2 Q := h
theorem wE_meth {o : Ex} {nm : Str} {es : Exs} (h : wE w k (.meth o nm es) l n Q) : wE w k o l n fun ov n1 => ∃ fv first, (∀ pl, OK w k (getMethod ov nm pl) n1 fun r n2 => r = (fv, first) ∧ n2 = n1) ∧
      wEs w k es l n1 fun vs n2 => Callable w fv ∧ OK w k (call fv (first ++ vs)) n2 Q := h
theorem wE_comp {e it : Ex} {x : Nat} (h : wE w k (.comp e x it) l n Q) : wE w k it l n fun v n1 => ∃ S : Src, S.val = v ∧ S.live n1 ∧ S.fits ∧ S.cnt ≤ sizeLine ∧ ∃ J : Nat → List Value → Led → Prop, J 0 [] n1 ∧
      ∀ i ys n2, J i ys n2 → S.live n2 ∧ (i < S.cnt → ∀ y, S.item i y → wE w k e (lset x y l) n2 fun z n3 => J (i + 1) (ys ++ [z]) n3) ∧
        (i = S.cnt → ∀ d, d ∉ keys n2 → Q (.ref d) ((d, listOf ys.toArray ys.length) :: n2)) := h
theorem wE_compIf {e it c : Ex} {x : Nat} (h : wE w k (.compIf e x it c) l n Q) : wE w k it l n fun v n1 => ∃ S : Src, S.val = v ∧ S.live n1 ∧ S.fits ∧ S.cnt ≤ sizeLine ∧ ∃ J : Nat → List Value → Led → Prop, J 0 [] n1 ∧
      ∀ i ys n2, J i ys n2 → S.live n2 ∧ (i < S.cnt → ∀ y, S.item i y → wT w k c (lset x y l) n2 fun b n3 => match b with
            | true => wE w k e (lset x y l) n3 fun z n4 => J (i + 1) (ys ++ [z]) n4
            | false => J (i + 1) ys n3) ∧
        (i = S.cnt → ∀ d, d ∉ keys n2 → Q (.ref d) ((d, listOf ys.toArray ys.length) :: n2)) := h
end
section
variable {Q : Bool → Led → Prop}
theorem wT_and {a b : Ex} (h : wT w k (.and a b) l n Q) : wT w k a l n fun c n1 => match c with | true => wT w k b l n1 Q | false => Q false n1 := h
theorem wT_or {a b : Ex} (h : wT w k (.or a b) l n Q) : wT w k a l n fun c n1 => match c with | true => Q true n1 | false => wT w k b l n1 Q := h
theorem wT_cmp {op : CmpOp} {a b : Ex} (h : wT w k (.cmp op a b) l n Q) : wE w k a l n fun x n1 => wE w k b l n1 fun y n2 => OK w k (compareOp op x y) n2 fun v n3 => ∃ c, v = .bool c ∧ Q c n3 := h
theorem wT_call {f : Ex} {es : Exs} (h : wT w k (.call f es) l n Q) : wE w k f l n fun fv n1 => wEs w k es l n1 fun vs n2 => Callable w fv ∧ OK w k (call fv vs) n2 fun v n3 => ∃ c, v = .bool c ∧ Q c n3 := h
end
theorem wEs_cons {e : Ex} {es : Exs} {Q : List Value → Led → Prop} (h : wEs w k (.cons e es) l n Q) : wE w k e l n fun v n1 => wEs w k es l n1 fun vs n2 => Q (v :: vs) n2 := h
theorem wEs_nil {Q : List Value → Led → Prop} (h : wEs w k .nil l n Q) : Q [] n := h
section
variable {Q : Flow → Lc → Led → Prop}
theorem wS_expr {e : Ex} (h : wS w k (.expr e) l n Q) : wE w k e l n fun v n1 => (∀ a, v ≠ .ref a) ∧ Q .next l n1 := h
theorem wS_ret {e : Ex} (h : wS w k (.ret e) l n Q) : wE w k e l n fun v n1 => Q (.ret v) l n1 := h
theorem wS_asg {i : Nat} {e : Ex} (h : wS w k (.asg i e) l n Q) : wE w k e l n fun v n1 => Q .next (lset i v l) n1 := h
theorem wS_asgT {is : List Nat} {e : Ex} (h : wS w k (.asgT is e) l n Q) : wE w k e l n fun v n1 => ∃ t its, v = .ref t ∧ (t, tupOf its) ∈ n1 ∧ its.size = is.length ∧ Q .next (setAll is its.toList l) n1 := h
theorem wS_asgR {is : List Nat} {e : Ex} (h : wS w k (.asgR is e) l n Q) : wE w k e l n fun v n1 => ∃ t its, v = .ref t ∧ (t, tupOf its) ∈ n1 ∧ its.size = is.length ∧ Q .next (setAll is.reverse its.toList.reverse l) n1 := h
theorem wS_asgA {o e : Ex} {nm : Str} (h : wS w k (.asgA o nm e) l n Q) : wE w k e l n fun v n1 => wE w k o l n1 fun x n2 => OK w k (setAttr x nm v) n2 fun _ n3 => Q .next l n3 := h
theorem wS_asgI {o i e : Ex} (h : wS w k (.asgI o i e) l n Q) : wE w k e l n fun v n1 => wE w k o l n1 fun x n2 => wE w k i l n2 fun y n3 => OK w k (setItem x y v) n3 fun _ n4 => Q .next l n4 := h
theorem wS_ite {t : Ex} {a b : Sts} (h : wS w k (.ite t a b) l n Q) : wT w k t l n fun c n1 => match c with | true => wB w k a l n1 Q | false => wB w k b l n1 Q := h
theorem wS_loop {t : Ex} {b : Sts} (h : wS w k (.loop t b) l n Q) : ∃ I : Nat → Lc → Led → Prop, (∃ j, I j l n) ∧ ∀ j l1 n1, I j l1 n1 → wT w k t l1 n1 fun c n2 => match c with
      | true => wB w k b l1 n2 fun f l3 n3 => match f with
          | .next | .cont => ∃ i, i < j ∧ I i l3 n3
          | .brk => Q .next l3 n3
          | .ret v => Q (.ret v) l3 n3
      | false => Q .next l1 n2 := h
theorem wS_each {x : Nat} {e : Ex} {b : Sts} (h : wS w k (.each x e b) l n Q) : wE w k e l n fun v n1 => ∃ S : Src, S.val = v ∧ S.live n1 ∧ S.fits ∧ ∃ I : Nat → Lc → Led → Prop, I 0 l n1 ∧
      ∀ i l2 n2, I i l2 n2 → S.live n2 ∧ (i < S.cnt → ∀ y, S.item i y → wB w k b (lset x y l2) n2 fun f l3 n3 => match f with
          | .next | .cont => I (i + 1) l3 n3
          | .brk => Q .next l3 n3
          | .ret v => Q (.ret v) l3 n3) ∧ (i = S.cnt → Q .next l2 n2) := h
theorem wS_eachT {xs : List Nat} {e : Ex} {b : Sts} (h : wS w k (.eachT xs e b) l n Q) : wE w k e l n fun v n1 => ∃ (lA : Addr) (its0 : Array Value) (ep : Nat), v = .ref lA ∧ let S := Src.list lA its0 ep; S.live n1 ∧ ∃ I : Nat → Lc → Led → Prop, I 0 l n1 ∧
      ∀ i l2 n2, I i l2 n2 → S.live n2 ∧ (i < S.cnt → ∀ y, S.item i y → ∃ t its, y = .ref t ∧ (t, tupOf its) ∈ n2 ∧ its.size = xs.length ∧ wB w k b (setAll xs its.toList l2) n2 fun f l3 n3 => match f with
          | .next | .cont => I (i + 1) l3 n3
          | .brk => Q .next l3 n3
          | .ret v => Q (.ret v) l3 n3) ∧ (i = S.cnt → Q .next l2 n2) := h
theorem wB_cons {s : St} {r : Sts} (h : wB w k (.cons s r) l n Q) : wS w k s l n fun f l1 n1 => match f with | .next => wB w k r l1 n1 Q | f => Q f l1 n1 := h
theorem wB_nil (h : wB w k .nil l n Q) : Q .next l n := h
end
end
/-! Sound1 -/
structure EnvOk (env : Env) (sc : Scope) : Prop where
  kind : env.scope.kind = .function
  gl : env.globals = mainGlobals
  bl : env.builtins = builtinsNs
  loc : ∀ x, sc.names.lookup x = some .local → env.kindOf x = some .local
  cell : ∀ x, sc.names.lookup x = some .cell ∨ sc.names.lookup x = some .free → env.kindOf x = some .cell ∨ env.kindOf x = some .free
  glob : ∀ x, sc.names.lookup x = some .globalImplicit → env.kindOf x = some .globalImplicit
  isCell : ∀ x, sc.names.lookup x = some .cell → env.kindOf x = some .cell
  hasCell : ∀ y, env.kindOf y = some .cell → ∃ c, env.cells.lookup y = some c

/-- the numbered locals are those of the frame: its own names by its map, its cells by the ledger's private part -/
noncomputable def Sit (env : Env) (ns : List Str) (l : Lc) (m : Str → Option Value) (R : Led) : Prop :=
  ∀ (i : Nat) (x : Str) (v : Value), ns[i]? = some x → l i = some v → (env.kindOf x = some .local → m x = some v) ∧
    (env.kindOf x = some .cell ∨ env.kindOf x = some .free → ∃ (c : Addr) (o : Obj), env.cells.lookup x = some c ∧ (c, o) ∈ R ∧ o.data = .cell (some v))

noncomputable def EV (w : World) (k : Nat) (env : Env) (ns : List Str) {α : Type} (t : Sem α) (l : Lc) (n : Led) (Q : α → Led → Prop) : Prop :=
  ∀ A g m R s, Cx w k A g env.locals m (R ++ n) s.heap → Sit env ns l m R → wpAny (model PR w) A t (fun v s' => Post w k A g env.locals m R s (Q v) s') (fun _ _ => False) s

section
variable {w : World} {k : Nat} {env : Env} {ns : List Str} {α β : Type} {l : Lc} {n : Led}
theorem EV.of {t : Sem α} {Q : α → Led → Prop} (h : OK w k t n Q) : EV w k env ns t l n Q := fun A g m R s C _ => h A g _ m R s C
/-- use a judgement where more is to be done behind it -/
theorem EV.go {t : Sem α} {Q : α → Led → Prop} (h : EV w k env ns t l n Q) {A : Around} {g : Heap} {m : Str → Option Value} {R : Led} {s : Shared} (C : Cx w k A g env.locals m (R ++ n) s.heap) (S : Sit env ns l m R) {Q' : α → Shared → Prop} {X : Value → Shared → Prop}
    (hq : ∀ v n1 h1 tk, Cx w k A g env.locals m (R ++ n1) h1 → Q v n1 → Q' v { s with heap := h1, toks := tk }) : wpAny (model PR w) A t Q' X s := by
  refine wpAny_mono (h A g m R s C S) ?_ fun _ _ x => x.elim
  rintro v _ ⟨n1, h1, tk, rfl, C1, q⟩
  exact hq v n1 h1 tk C1 q
theorem OK.go {t : Sem α} {Q : α → Led → Prop} (h : OK w k t n Q) {A : Around} {g : Heap} {L : Addr} {m : Str → Option Value} {R : Led} {s : Shared} (C : Cx w k A g L m (R ++ n) s.heap) {Q' : α → Shared → Prop} {X : Value → Shared → Prop}
    (hq : ∀ v n1 h1 tk, Cx w k A g L m (R ++ n1) h1 → Q v n1 → Q' v { s with heap := h1, toks := tk }) : wpAny (model PR w) A t Q' X s := by
  refine wpAny_mono (h A g L m R s C) ?_ fun _ _ x => x.elim
  rintro v _ ⟨n1, h1, tk, rfl, C1, q⟩
  exact hq v n1 h1 tk C1 q
theorem EV.mono {t : Sem α} {Q Q' : α → Led → Prop} (h : EV w k env ns t l n Q) (hq : ∀ v n', Q v n' → Q' v n') : EV w k env ns t l n Q' := fun A g m R s C S =>
  h.go C S fun v n1 h1 tk C1 q => ⟨n1, h1, tk, rfl, C1, hq v n1 q⟩
theorem EV.pure {a : α} {Q : α → Led → Prop} (h : Q a n) : EV w k env ns (pure a) l n Q := .of (.pure h)
theorem EV.bind {t : Sem α} {f : α → Sem β} {Q : β → Led → Prop} (h : EV w k env ns t l n fun v n' => EV w k env ns (f v) l n' Q) : EV w k env ns (t >>= f) l n Q := fun A g m R s C S =>
  wpAny_bind (h.go C S fun v n1 h1 tk C1 q => q.go C1 S fun b n2 h2 tk2 C2 q2 => ⟨n2, h2, tk2, rfl, C2, q2⟩)
theorem EV.hold {t : Sem α} {vs : List Value} {Q : α → Led → Prop} (h : EV w k env ns t l n Q) : EV w k env ns (holding vs t) l n Q := fun A g m R s C S => wpAny_holding (h A g m R s C S)
theorem EV.stand {p : Pos} {Q : Unit → Led → Prop} (h : Q () n) : EV w k env ns (standAt p) l n Q := fun A g m R s C S => wpAny_standAt ⟨n, s.heap, s.toks, rfl, C, h⟩
theorem EV.oper {vs : List Value} {t : Sem Value} {Q : Value → Led → Prop} (h : EV w k env ns t l n Q) : EV w k env ns (operate vs t) l n Q := fun A g m R s C S => wpAny_operating (h A g m R s C S)
theorem EV.letGo {b : Expr} {o r : Value} {Q : Unit → Led → Prop} (h : Q () n) : EV w k env ns (letTemporaryGo b o r) l n Q := fun A g m R s C S => wpAny_letTemporaryGo ⟨n, s.heap, s.toks, rfl, C, h⟩
end

section
variable {w : World} {k : Nat} {env : Env} {ns : List Str} {l : Lc} {n : Led} {sc : Scope}

theorem ev_name {x : Str} {pos : Pos} {ce : Ex} {Q : Value → Led → Prop} (E : EnvOk env sc) (hc : cName (KK w.params) sc ns x = some ce) (h : wE w k ce l n Q) : EV w k env ns (eval (.Name x pos) env) l n Q := by
  intro A g m R s C S
  unfold cName at hc
  split at hc
  · cases hc
  rename_i hd
  simp only [Bool.or_eq_true, not_or, Bool.not_eq_true] at hd
  have fin : ∀ {i : Nat}, ns.idxOf? x = some i → ns[i]? = some x := fun {i} hi => by
    unfold List.idxOf? at hi
    have := List.findIdx?_eq_some_iff_getElem.mp hi
    obtain ⟨h1, h2, _⟩ := this
    rw [List.getElem?_eq_getElem h1]
    simpa using h2
  split at hc
  · rename_i hl
    obtain ⟨i, hi, rfl⟩ := Option.map_eq_some_iff.mp hc
    obtain ⟨v, hv, q⟩ := wE_v h
    exact wpAny_Name (wpAny_loadName_local E.kind (E.loc _ hl) C.fr.ns ((S i x v (fin hi) hv).1 (E.loc _ hl)) ⟨n, s.heap, s.toks, rfl, C, q⟩) hd.1
  · rename_i hl
    obtain ⟨i, hi, rfl⟩ := Option.map_eq_some_iff.mp hc
    obtain ⟨v, hv, q⟩ := wE_v h
    have kd := E.cell _ (.inl hl)
    obtain ⟨c, o, h1, h2, h3⟩ := (S i x v (fin hi) hv).2 kd
    have hcell : s.heap.IsCell c (some v) := ⟨o, (C.nw _ (List.mem_append_left _ h2)).1, h3⟩
    rcases kd with kd | kd
    · exact wpAny_Name (wpAny_loadName_cell E.kind kd h1 hcell ⟨n, s.heap, s.toks, rfl, C, q⟩) hd.1
    · exact wpAny_Name (wpAny_loadName_free E.kind kd h1 hcell ⟨n, s.heap, s.toks, rfl, C, q⟩ hd.2) hd.1
  · rename_i hl
    obtain ⟨i, hi, rfl⟩ := Option.map_eq_some_iff.mp hc
    obtain ⟨v, hv, q⟩ := wE_v h
    have kd := E.cell _ (.inr hl)
    obtain ⟨c, o, h1, h2, h3⟩ := (S i x v (fin hi) hv).2 kd
    have hcell : s.heap.IsCell c (some v) := ⟨o, (C.nw _ (List.mem_append_left _ h2)).1, h3⟩
    rcases kd with kd | kd
    · exact wpAny_Name (wpAny_loadName_cell E.kind kd h1 hcell ⟨n, s.heap, s.toks, rfl, C, q⟩) hd.1
    · exact wpAny_Name (wpAny_loadName_free E.kind kd h1 hcell ⟨n, s.heap, s.toks, rfl, C, q⟩ hd.2) hd.1
  · rename_i hl
    have G := C.good'
    obtain ⟨mg, hg⟩ := G.gl
    obtain ⟨mb, hb, hbv⟩ := G.bl
    split at hc
    · rename_i v hv
      cases hc
      replace h := wE_g h
      exact Calls.Name_function_global E.kind (E.glob _ hl) (Calls.loadGlobal_global (by rw [E.gl]; exact hg) (mg_of G.k hg hv) ⟨n, s.heap, s.toks, rfl, C, h⟩) hd.1
    · rename_i hv
      obtain ⟨v, hv2, rfl⟩ := Option.map_eq_some_iff.mp hc
      replace h := wE_g h
      obtain ⟨b1, b2⟩ := bi_ok _ _ hv2
      exact Calls.Name_function_global E.kind (E.glob _ hl) (Calls.loadGlobal_builtin (by rw [E.gl]; exact hg) (mg_none_of G.k hg hv) (by rw [E.bl]; exact hb) ((hbv x b2).trans b1) ⟨n, s.heap, s.toks, rfl, C, h⟩) hd.1
    · cases hc
  · cases hc

theorem ev_int {i : Int} {kk : Nat} {pos : Pos} {Q : Value → Led → Prop} (h : ∀ t, Q (.int i t) n) : EV w k env ns (eval (.Constant (.int i) kk pos) env) l n Q := fun A g m R s C S =>
  wpAny_Constant_int ⟨n, s.heap, s.toks + 1, rfl, C, h _⟩
theorem ev_str {i : Str} {kk : Nat} {pos : Pos} {Q : Value → Led → Prop} (h : ∀ t, Q (.str i t) n) : EV w k env ns (eval (.Constant (.str i) kk pos) env) l n Q := fun A g m R s C S =>
  Calls.Constant_str ⟨n, s.heap, s.toks + 1, rfl, C, h _⟩
theorem ev_bool {i : Bool} {kk : Nat} {pos : Pos} {Q : Value → Led → Prop} (h : Q (.bool i) n) : EV w k env ns (eval (.Constant (.bool i) kk pos) env) l n Q := fun A g m R s C S =>
  Constant_bool ⟨n, s.heap, s.toks, rfl, C, h⟩
theorem ev_bin {a b : Expr} {op : Operator} {pos : Pos} {Q : Value → Led → Prop} (h : EV w k env ns (eval a env) l n fun x n1 => EV w k env ns (eval b env) l n1 fun y n2 => OK w k (binaryOp op x y) n2 Q) :
    EV w k env ns (eval (.BinOp a op b pos) env) l n Q := fun A g m R s C S =>
  wpAny_BinOp (h.go C S fun x n1 h1 tk C1 q => q.go C1 S fun y n2 h2 tk2 C2 q2 => q2.go C2 fun z n3 h3 tk3 C3 q3 => ⟨n3, h3, tk3, rfl, C3, q3⟩)
theorem ev_un {a : Expr} {op : UnaryOp} {pos : Pos} {Q : Value → Led → Prop} (h : EV w k env ns (eval a env) l n fun x n1 => OK w k (unaryOp op x) n1 Q) :
    EV w k env ns (eval (.UnaryOp op a pos) env) l n Q := fun A g m R s C S =>
  UnaryOp_ (h.go C S fun x n1 h1 tk C1 q => q.go C1 fun z n3 h3 tk3 C3 q3 => ⟨n3, h3, tk3, rfl, C3, q3⟩)
theorem ev_cmp {a b : Expr} {op : CmpOp} {pos : Pos} {Q : Value → Led → Prop} (hm : behindInMarks op b = false) (h : EV w k env ns (eval a env) l n fun x n1 => EV w k env ns (eval b env) l n1 fun y n2 => OK w k (compareOp op x y) n2 Q) :
    EV w k env ns (eval (.Compare a [op] [b] pos) env) l n Q := fun A g m R s C S =>
  wpAny_Compare1 (h.go C S fun x n1 h1 tk C1 q => q.go C1 S fun y n2 h2 tk2 C2 q2 => q2.go C2 fun z n3 h3 tk3 C3 q3 => ⟨n3, h3, tk3, rfl, C3, q3⟩) hm
theorem ev_tcmp {a b : Expr} {op : CmpOp} {pos : Pos} {whole : Sem Value} {Q : Bool → Led → Prop} (hm : behindInMarks op b = false)
    (h : EV w k env ns (eval a env) l n fun x n1 => EV w k env ns (eval b env) l n1 fun y n2 => OK w k (compareOp op x y) n2 fun v n3 => ∃ c, v = .bool c ∧ Q c n3) :
    EV w k env ns (isTrue (.Compare a [op] [b] pos) env whole) l n Q := fun A g m R s C S =>
  wpAny_isTrue_Compare1 (h.go C S fun x n1 h1 tk C1 q => q.go C1 S fun y n2 h2 tk2 C2 q2 => q2.go C2 fun z n3 h3 tk3 C3 q3 => by
    obtain ⟨c, rfl, q4⟩ := q3
    exact wpAny_truthy_bool ⟨n3, h3, tk3, rfl, C3, q4⟩) hm
theorem ev_and {a b : Expr} {r : List Expr} {pos : Pos} {Q : Value → Led → Prop} (h : EV w k env ns (eval a env) l n fun x n1 => ∃ c, x = .bool c ∧ match c with | true => EV w k env ns (eval (.BoolOp .And (b :: r) pos) env) l n1 Q | false => Q x n1) :
    EV w k env ns (eval (.BoolOp .And (a :: b :: r) pos) env) l n Q := fun A g m R s C S =>
  BoolOp_and (h.go C S fun x n1 h1 tk C1 q => by
    obtain ⟨c, rfl, q⟩ := q
    refine wpAny_truthy_bool ?_
    cases c with
    | true => exact EV.go q C1 S fun z n3 h3 tk3 C3 q3 => ⟨n3, h3, tk3, rfl, C3, q3⟩
    | false => exact ⟨n1, h1, tk, rfl, C1, q⟩)
theorem ev_or {a b : Expr} {r : List Expr} {pos : Pos} {Q : Value → Led → Prop} (h : EV w k env ns (eval a env) l n fun x n1 => ∃ c, x = .bool c ∧ match c with | true => Q x n1 | false => EV w k env ns (eval (.BoolOp .Or (b :: r) pos) env) l n1 Q) :
    EV w k env ns (eval (.BoolOp .Or (a :: b :: r) pos) env) l n Q := fun A g m R s C S =>
  BoolOp_or (h.go C S fun x n1 h1 tk C1 q => by
    obtain ⟨c, rfl, q⟩ := q
    refine wpAny_truthy_bool ?_
    cases c with
    | false => exact EV.go q C1 S fun z n3 h3 tk3 C3 q3 => ⟨n3, h3, tk3, rfl, C3, q3⟩
    | true => exact ⟨n1, h1, tk, rfl, C1, q⟩)
theorem ev_tone {op : BoolOp} {a : Expr} {pos : Pos} {whole : Sem Value} {Q : Bool → Led → Prop} (h : EV w k env ns (isTrue a env (eval a env)) l n Q) :
    EV w k env ns (isTrue (.BoolOp op [a] pos) env whole) l n Q := fun A g m R s C S => by
  cases op with
  | And => exact isTrue_and (h.go C S fun c n1 h1 tk C1 q => by
      cases c with
      | true => exact isTrue_and_nil ⟨n1, h1, tk, rfl, C1, q⟩
      | false => exact ⟨n1, h1, tk, rfl, C1, q⟩)
  | Or => exact isTrue_or (h.go C S fun c n1 h1 tk C1 q => by
      cases c with
      | false => exact isTrue_or_nil ⟨n1, h1, tk, rfl, C1, q⟩
      | true => exact ⟨n1, h1, tk, rfl, C1, q⟩)
theorem ev_tand {a b : Expr} {r : List Expr} {pos : Pos} {whole whole' : Sem Value} {Q : Bool → Led → Prop} (h : EV w k env ns (isTrue a env (eval a env)) l n fun c n1 => match c with | true => EV w k env ns (isTrue (.BoolOp .And (b :: r) pos) env whole') l n1 Q | false => Q false n1) :
    EV w k env ns (isTrue (.BoolOp .And (a :: b :: r) pos) env whole) l n Q := fun A g m R s C S =>
  isTrue_and (h.go C S fun c n1 h1 tk C1 q => by
    cases c with
    | true => exact EV.go q C1 S fun z n3 h3 tk3 C3 q3 => ⟨n3, h3, tk3, rfl, C3, q3⟩
    | false => exact ⟨n1, h1, tk, rfl, C1, q⟩)
theorem ev_tor {a b : Expr} {r : List Expr} {pos : Pos} {whole whole' : Sem Value} {Q : Bool → Led → Prop} (h : EV w k env ns (isTrue a env (eval a env)) l n fun c n1 => match c with | true => Q true n1 | false => EV w k env ns (isTrue (.BoolOp .Or (b :: r) pos) env whole') l n1 Q) :
    EV w k env ns (isTrue (.BoolOp .Or (a :: b :: r) pos) env whole) l n Q := fun A g m R s C S =>
  isTrue_or (h.go C S fun c n1 h1 tk C1 q => by
    cases c with
    | false => exact EV.go q C1 S fun z n3 h3 tk3 C3 q3 => ⟨n3, h3, tk3, rfl, C3, q3⟩
    | true => exact ⟨n1, h1, tk, rfl, C1, q⟩)
theorem ev_ite {t a b : Expr} {pos : Pos} {Q : Value → Led → Prop} (h : EV w k env ns (isTrue t env (eval t env)) l n fun c n1 => match c with | true => EV w k env ns (eval a env) l n1 Q | false => EV w k env ns (eval b env) l n1 Q) :
    EV w k env ns (eval (.IfExp t a b pos) env) l n Q := fun A g m R s C S =>
  IfExp_ (h.go C S fun c n1 h1 tk C1 q => by
    cases c with
    | true => exact EV.go q C1 S fun z n3 h3 tk3 C3 q3 => ⟨n3, h3, tk3, rfl, C3, q3⟩
    | false => exact EV.go q C1 S fun z n3 h3 tk3 C3 q3 => ⟨n3, h3, tk3, rfl, C3, q3⟩)
theorem ev_list {es : List Expr} {pos : Pos} {Q : Value → Led → Prop} (h : EV w k env ns (spliced (backTo pos (starEach es env))) l n fun vs n1 => vs.length ≤ sizeLine ∧ ∀ a, a ∉ keys n1 → Q (.ref a) ((a, listOf vs.toArray 0) :: n1)) :
    EV w k env ns (eval (.List es pos) env) l n Q := fun A g m R s C S =>
  List_ (h.go C S fun vs n1 h1 tk C1 q => OK.go (ok_newList q.1 q.2) C1 fun z n3 h3 tk3 C3 q3 => ⟨n3, h3, tk3, rfl, C3, q3⟩)
theorem ev_tuple {es : List Expr} {kk : Nat} {pos : Pos} {Q : Value → Led → Prop} (h : EV w k env ns (spliced (backTo pos (starEach es env))) l n fun vs n1 => vs.length ≤ sizeLine ∧ ∀ a, a ∉ keys n1 → Q (.ref a) ((a, tupOf vs.toArray) :: n1)) :
    EV w k env ns (eval (.Tuple es kk pos) env) l n Q := fun A g m R s C S =>
  Tuple_ (h.go C S fun vs n1 h1 tk C1 q => OK.go (ok_newTuple q.1 q.2) C1 fun z n3 h3 tk3 C3 q3 => ⟨n3, h3, tk3, rfl, C3, q3⟩)
theorem Cx.push {A : Around} {g h : Heap} {L : Addr} {m : Str → Option Value} {R : Led} (C : Cx w k A g L m (R ++ n) h) (o : Obj) (hf : o.isFreed = false) : Cx w k A g L m (R ++ ((h.objs.size, o) :: n)) (h.push o) ∧ h.objs.size ∉ keys n := by
  have lt : ∀ p ∈ R ++ n, p.1 < h.objs.size := fun p hp => Heap.lt_size (C.nw p hp).1
  refine ⟨C.alloc (C.fr.push o) (C.nw.push C.fr o hf) lt, fun hl => ?_⟩
  obtain ⟨p, hp, e⟩ := List.mem_map.mp hl
  have := lt p (List.mem_append_right _ hp)
  rw [e] at this
  exact Nat.lt_irrefl _ this
theorem ev_dict {pos : Pos} {Q : Value → Led → Prop} (h : ∀ a, a ∉ keys n → (a == sysModules) = false → Q (.ref a) ((a, dictOf [] 0) :: n)) : EV w k env ns (eval (.Dict [] [] pos) env) l n Q := fun A g m R s C S => by
  obtain ⟨C1, q⟩ := C.push (dictOf [] 0) rfl
  exact wpAny_Dict_empty ⟨_, _, s.toks, rfl, C1, h _ q (C.fr.notModules (modules_low C.good.lim))⟩
theorem ok_slice {lo hi st : Value} {Q : Value → Led → Prop} (h : ∀ a, a ∉ keys n → Q (.ref a) ((a, sliceOf lo hi st) :: n)) : OK w k (newFields "slice" [lo, hi, st]) n Q := fun A g L m R s C => by
  obtain ⟨C1, q⟩ := C.push (sliceOf lo hi st) rfl
  unfold newFields
  exact wpAny_newObj_type ⟨_, _, s.toks, rfl, C1, h _ q⟩
theorem ev_splice {es : List Expr} {pos : Pos} (hs : es.any isStar = false) {e : Expr} {Q : List Value → Led → Prop} (he : isStar e = false)
    (h : EV w k env ns (eval e env) l n fun v n1 => EV w k env ns (spliced (backTo pos (starEach es env))) l n1 fun vs n2 => Q (v :: vs) n2) :
    EV w k env ns (spliced (backTo pos (starEach (e :: es) env))) l n Q := fun A g m R s C S => by
  have e1 : starEach (e :: es) env = (false, eval e env) :: starEach es env := by cases e <;> first | rfl | cases he
  rw [e1]
  exact Calls.spliced_cons (h.go C S fun v n1 h1 tk C1 q => q.go C1 S fun z n3 h3 tk3 C3 q3 => ⟨n3, h3, tk3, rfl, C3, q3⟩)
theorem ev_attr {o : Expr} {nm : Str} {pos : Pos} (hp : isPath o = true) {Q : Value → Led → Prop} (h : EV w k env ns (eval o env) l n fun x n1 => OK w k (getAttr x nm true) n1 Q) : EV w k env ns (eval (.Attribute o nm pos) env) l n Q := fun A g m R s C S =>
  Attribute_any_ (h.go C S fun x n1 h1 tk C1 q => q.go C1 fun z n3 h3 tk3 C3 q3 => ⟨n3, h3, tk3, rfl, C3, q3⟩) (by cases o <;> first | rfl | cases hp)
theorem ev_idx {a i : Expr} {pos : Pos} (hi : isSlice i = false) {Q : Value → Led → Prop} (h : EV w k env ns (eval a env) l n fun x n1 => EV w k env ns (eval i env) l n1 fun y n2 => OK w k (subTree x y) n2 Q) : EV w k env ns (eval (.Subscript a i pos) env) l n Q := by
  rw [arm_eval_Subscript]
  refine EV.bind (h.mono fun x n1 q => EV.bind (EV.hold (q.mono fun y n2 q2 => EV.bind (EV.stand ?_))))
  have e : (do let p ← getitemInPython x; let r ← subscripted i p x y; letTemporaryGo a x r; pure r) = (subTree x y >>= fun r => letTemporaryGo a x r >>= fun _ => pure r) := by
    unfold subTree
    simp only [bind_assoc]
    refine bind_congr fun p => ?_
    cases p <;> cases i <;> first | rfl | cases hi
  have := EV.bind (EV.of (env := env) (ns := ns) (l := l) (q2.mono fun r n3 q3 => EV.bind (f := fun _ => pure r) (EV.letGo (env := env) (ns := ns) (l := l) (w := w) (k := k) (b := a) (o := x) (r := r) (EV.pure q3))))
  rw [← e] at this
  exact this
end
/-! Sound2 -/
section
variable {w : World} {k : Nat} {env : Env} {ns : List Str} {l : Lc} {n : Led} {sc : Scope}

theorem ev_tail {a : Expr} {x : Value} {t : Sem Value} {Q : Value → Led → Prop} (h : OK w k t n Q) : EV w k env ns (t >>= fun r => letTemporaryGo a x r >>= fun _ => pure r) l n Q :=
  EV.bind (EV.of (h.mono fun r n3 q3 => EV.bind (EV.letGo (EV.pure q3))))
theorem ev_cutTo {a hi : Expr} {sp pos : Pos} {Q : Value → Led → Prop}
    (h : EV w k env ns (eval a env) l n fun x n1 => EV w k env ns (eval hi env) l n1 fun y n2 => ∀ i, i ∉ keys n2 → OK w k (cutTree x (.ref i)) ((i, sliceOf .none y .none) :: n2) Q) :
    EV w k env ns (eval (.Subscript a (.Slice none (some hi) none sp) pos) env) l n Q := by
  rw [arm_eval_Subscript]
  refine EV.bind (h.mono fun x n1 q => EV.bind (EV.hold ?_))
  show EV w k env ns (pure Value.none >>= fun l' => holding [l'] (eval hi env) >>= fun u => holding [l', u] (pure Value.none) >>= fun s => newFields "slice" [l', u, s]) l n1 _
  refine EV.bind (EV.pure (EV.bind (EV.hold (q.mono fun y n2 q2 => EV.bind (EV.hold (EV.pure (EV.of (ok_slice fun i hi => EV.bind (EV.stand ?_)))))))))
  have := ev_tail (env := env) (ns := ns) (l := l) (a := a) (x := x) (q2 i hi)
  unfold cutTree at this
  simp only [bind_assoc] at this
  exact this
theorem ev_cutFrom {a lo : Expr} {sp pos : Pos} {Q : Value → Led → Prop}
    (h : EV w k env ns (eval a env) l n fun x n1 => EV w k env ns (eval lo env) l n1 fun y n2 => ∀ i, i ∉ keys n2 → OK w k (cutTree x (.ref i)) ((i, sliceOf y .none .none) :: n2) Q) :
    EV w k env ns (eval (.Subscript a (.Slice (some lo) none none sp) pos) env) l n Q := by
  rw [arm_eval_Subscript]
  refine EV.bind (h.mono fun x n1 q => EV.bind (EV.hold ?_))
  show EV w k env ns (eval lo env >>= fun l' => holding [l'] (pure Value.none) >>= fun u => holding [l', u] (pure Value.none) >>= fun s => newFields "slice" [l', u, s]) l n1 _
  refine EV.bind (q.mono fun y n2 q2 => EV.bind (EV.hold (EV.pure (EV.bind (EV.hold (EV.pure (EV.of (ok_slice fun i hi => EV.bind (EV.stand ?_)))))))))
  have := ev_tail (env := env) (ns := ns) (l := l) (a := a) (x := x) (q2 i hi)
  unfold cutTree at this
  simp only [bind_assoc] at this
  exact this
theorem neg_one {x : Int} {t : Tok} {Q : Value → Led → Prop} (h : ∀ t, Q (.int (-x) t) n) : OK w k (unaryOp .USub (.int x t)) n Q := fun A g L m R s C =>
  neg_int ⟨n, s.heap, _, rfl, C, h _⟩
theorem ev_rev {a : Expr} {sp pos up cp : Pos} {ck : Nat} {Q : Value → Led → Prop}
    (h : EV w k env ns (eval a env) l n fun x n1 => ∀ t i, i ∉ keys n1 → OK w k (subTree x (.ref i)) ((i, sliceOf .none .none (.int (-1) t)) :: n1) Q) :
    EV w k env ns (eval (.Subscript a (.Slice none none (some (.UnaryOp .USub (.Constant (.int 1) ck cp) up)) sp) pos) env) l n Q := by
  rw [arm_eval_Subscript]
  refine EV.bind (h.mono fun x n1 q => EV.bind (EV.hold ?_))
  show EV w k env ns (pure Value.none >>= fun l' => holding [l'] (pure Value.none) >>= fun u => holding [l', u] (eval (.UnaryOp .USub (.Constant (.int 1) ck cp) up) env) >>= fun s => newFields "slice" [l', u, s]) l n1 _
  refine EV.bind (EV.pure (EV.bind (EV.hold (EV.pure (EV.bind (EV.hold (ev_un (ev_int fun t1 => neg_one fun t2 => EV.of (ok_slice fun i hi => EV.bind (EV.stand ?_)))))))))) 
  have := ev_tail (env := env) (ns := ns) (l := l) (a := a) (x := x) (q t2 i hi)
  unfold subTree at this
  simp only [bind_assoc] at this
  refine (?_ : EV w k env ns (getitemInPython x >>= fun p => subscripted (.Slice none none (some (.UnaryOp .USub (.Constant (.int 1) ck cp) up)) sp) p x (.ref i) >>= fun r => letTemporaryGo a x r >>= fun _ => pure r) l _ _)
  refine Eq.mp ?_ this
  congr 1
  refine bind_congr fun p => ?_
  cases p <;> rfl

theorem ev_callWith {f : Value} {first : List Value} {es : List Expr} {pos : Pos} {Q : Value → Led → Prop} (hs : es.any isStar = false)
    (h : EV w k env ns (spliced (backTo pos (starEach es env))) l n fun vs n1 => Callable w f ∧ OK w k (call f (first ++ vs)) n1 Q) :
    EV w k env ns (callWith pos f first (backTo pos (starEach es env)) (backToKw pos (keywordEach [] env))) l n Q := by
  have star : ∀ es : List Expr, es.any isStar = false → (backTo pos (starEach es env)).any (·.1) = false := by
    intro es
    induction es with
    | nil => intro _; rfl
    | cons e r ih =>
      intro hh
      simp only [List.any_cons, Bool.or_eq_false_iff] at hh
      have e1 : starEach (e :: r) env = (false, eval e env) :: starEach r env := by cases e <;> first | rfl | cases hh.1
      rw [e1]
      show (false || (backTo pos (starEach r env)).any (·.1)) = false
      rw [ih hh.2]; rfl
  intro A g m R s C S
  refine callWith_of (P := fun h => Callable w f ∧ Good w h) (by rw [star es hs]; rfl) (fun h c => c.1 h c.2) ?_
  show wpAny (model PR w) A (evalArgs f true (backTo pos (starEach es env)) []) _ _ s
  cases es with
  | nil =>
    have h' : EV w k env ns (spliced []) l n fun vs n1 => Callable w f ∧ OK w k (call f (first ++ vs)) n1 Q := h
    show wpAny (model PR w) A (evalArgs f true [] []) _ _ s
    unfold evalArgs
    show wpAny (model PR w) A (spliced [] >>= _) _ _ s
    refine wpAny_bind (h'.go C S fun vs n1 h1 tk C1 q => wpAny_bind (wpAny_pure ?_))
    refine wpAny_holding ?_
    exact wpAny_bind (wpAny_pure (wpAny_bind (wpAny_pure (wpAny_pure ⟨⟨q.1, C1.good'⟩, q.2.go C1 fun z n3 h3 tk3 C3 q3 => ⟨n3, h3, tk3, rfl, C3, q3⟩⟩))))
  | cons e r =>
    have hh := hs
    simp only [List.any_cons, Bool.or_eq_false_iff] at hh
    have e1 : starEach (e :: r) env = (false, eval e env) :: starEach r env := by cases e <;> first | rfl | cases hh.1
    rw [e1] at h ⊢
    refine Calls.evalArgs_plain ?_
    refine h.go C S fun vs n1 h1 tk C1 q => ⟨⟨q.1, C1.good'⟩, q.2.go C1 fun z n3 h3 tk3 C3 q3 => ⟨n3, h3, tk3, rfl, C3, q3⟩⟩
theorem ev_call {fe : Expr} {es : List Expr} {pos : Pos} {Q : Value → Led → Prop} (hs : es.any isStar = false) (ha : isAttr fe = false)
    (h : EV w k env ns (eval fe env) l n fun f n0 => EV w k env ns (spliced (backTo pos (starEach es env))) l n0 fun vs n1 => Callable w f ∧ OK w k (call f vs) n1 Q) :
    EV w k env ns (eval (.Call fe es [] pos) env) l n Q := by
  have e : eval (.Call fe es [] pos) env = (eval fe env >>= fun f => callWith pos f [] (backTo pos (starEach es env)) (backToKw pos (keywordEach [] env))) := by
    cases fe <;> first | rfl | cases ha
  rw [e]
  exact EV.bind (h.mono fun f n0 q => ev_callWith hs q)
theorem ev_meth {o : Expr} {nm : Str} {ap pos : Pos} {es : List Expr} {Q : Value → Led → Prop} (hs : es.any isStar = false) (hp : isPath o = true) (hl : (ap.endLine != pos.line) = false) (hn : es.length ≤ 29)
    (h : EV w k env ns (eval o env) l n fun ov n1 => ∃ fv first, (∀ pl, OK w k (getMethod ov nm pl) n1 fun r n2 => r = (fv, first) ∧ n2 = n1) ∧
      EV w k env ns (spliced (backTo pos (starEach es env))) l n1 fun vs n2 => Callable w fv ∧ OK w k (call fv (first ++ vs)) n2 Q) :
    EV w k env ns (eval (.Call (.Attribute o nm ap) es [] pos) env) l n Q := by
  rw [arm_eval_Call]
  have e1 : attributeBase o nm env (eval o env) = eval o env := by cases o <;> first | rfl | cases hp
  have star : ∀ es : List Expr, es.any isStar = false → (backTo pos (starEach es env)).all (fun x => !x.1) = true := by
    intro es
    induction es with
    | nil => intro _; rfl
    | cons e r ih =>
      intro hh
      simp only [List.any_cons, Bool.or_eq_false_iff] at hh
      have e1 : starEach (e :: r) env = (false, eval e env) :: starEach r env := by cases e <;> first | rfl | cases hh.1
      rw [e1]
      show (true && (backTo pos (starEach r env)).all (fun x => !x.1)) = true
      rw [ih hh.2]; rfl
  have e2 : methodCallForm (es.length + ([] : List Keyword).length) (backTo pos (starEach es env)) (backToKw pos (keywordEach [] env)) = true := by
    unfold methodCallForm
    rw [star es hs]
    show (true && true && decide (es.length + 0 + 0 < 30)) = true
    rw [decide_eq_true (by omega)]; rfl
  have e3 : methodCallPos true o env ap pos = pure pos := by
    unfold methodCallPos
    have : (ap.endLine == pos.line) = true := by
      have := bne_eq_false_iff_eq.mp hl
      exact beq_iff_eq.mpr this
    rw [this]; rfl
  rw [e1]
  refine EV.bind (h.mono fun ov n1 q => EV.bind (EV.stand ?_))
  obtain ⟨fv, first, q1, q2⟩ := q
  unfold methodCall
  rw [e2]
  refine EV.bind (EV.hold ((EV.of (q1 _)).mono fun r n2 q3 => ?_))
  obtain ⟨rfl, rfl⟩ := q3
  show EV w k env ns (methodCallPos true o env ap pos >>= fun cp => callWith cp fv first (backTo pos (starEach es env)) (backToKw pos (keywordEach [] env))) l n2 Q
  rw [e3]
  exact EV.bind (EV.pure (ev_callWith hs q2))
theorem ev_call_t {e : Expr} {Q : Bool → Led → Prop} (he : isTrue e env (eval e env) = (do let v ← eval e env; standAt e.pos; holding [v] (truthy v))) (h : EV w k env ns (eval e env) l n fun v n1 => ∃ c, v = .bool c ∧ Q c n1) :
    EV w k env ns (isTrue e env (eval e env)) l n Q := by
  rw [he]
  refine EV.bind (h.mono fun v n1 q => EV.bind (EV.stand (EV.hold ?_)))
  obtain ⟨c, rfl, q⟩ := q
  exact fun A g m R s C S => wpAny_truthy_bool ⟨n1, s.heap, s.toks, rfl, C, q⟩
end
/-! Loop1 -/
noncomputable def NsObj (o : Obj) (m : Str → Option Value) : Prop := ∃ es ep, o.data = .dict es ep ∧ StrKeys es ∧ ∀ name, nsFind es name = m name
theorem NsObj.ns {h : Heap} {C : Addr} {o : Obj} {m : Str → Option Value} (x : NsObj o m) (e : h.get? C = some o) : h.Ns C m := let ⟨es, ep, hd, r⟩ := x; ⟨o, es, ep, e, hd, r⟩
theorem nsObj_of {h : Heap} {C : Addr} {m : Str → Option Value} (x : h.Ns C m) : ∃ o, h.get? C = some o ∧ NsObj o m := let ⟨o, es, ep, e, hd, r⟩ := x; ⟨o, e, es, ep, hd, r⟩

section
variable {w : World} {k : Nat} {A : Around} {g h h' : Heap} {L : Addr} {m : Str → Option Value} {led led' R n : Led}

theorem Cx.notL (C : Cx w k A g L m led h) {a : Addr} {o : Obj} (hm : (a, o) ∈ led) : a ≠ L := (C.nw _ hm).2.1
theorem Cx.at (C : Cx w k A g L m led h) {a : Addr} {o : Obj} (hm : (a, o) ∈ led) : h.get? a = some o := (C.nw _ hm).1
theorem Cx.off_g (C : Cx w k A g L m led h) {a : Addr} {o : Obj} (hm : (a, o) ∈ led) : g.get? a = none := (C.nw _ hm).2.2

theorem Cx.of (C : Cx w k A g L m led h) (hs : ∀ p ∈ led', p ∈ led) (nd : (keys led').Nodup) : Cx w k A g L m led' h :=
  ⟨C.hd, C.room, C.units, C.good, C.fr, fun p hp => C.nw p (hs p hp), nd⟩
theorem Cx.perm (C : Cx w k A g L m led h) (hp : led.Perm led') : Cx w k A g L m led' h :=
  C.of (fun p q => hp.mem_iff.mpr q) ((hp.map _).nodup_iff.mp C.nd)
theorem Cx.sub (C : Cx w k A g L m led h) (hp : led'.Sublist led) : Cx w k A g L m led' h :=
  C.of (fun p q => hp.subset q) ((hp.map _).nodup C.nd)
theorem Cx.keeps (C : Cx w k A g L m led h) (hk : ∀ b o, h.get? b = some o → h'.get? b = some o) : Cx w k A g L m led h' :=
  ⟨C.hd, C.room, C.units, C.good, C.fr.keeps hk, fun p hp => ⟨hk _ _ (C.nw p hp).1, (C.nw p hp).2⟩, C.nd⟩
/-- one object more -/
theorem Cx.cons (C : Cx w k A g L m led h) {a : Addr} {o : Obj} (ha : h.get? a = some o) (hL : a ≠ L) (hg : g.get? a = none) (hn : a ∉ keys led) : Cx w k A g L m ((a, o) :: led) h := by
  refine ⟨C.hd, C.room, C.units, C.good, C.fr, fun p hp => ?_, List.nodup_cons.mpr ⟨hn, C.nd⟩⟩
  rcases List.mem_cons.mp hp with rfl | hp
  · exact ⟨ha, hL, hg⟩
  · exact C.nw p hp
theorem Cx.lt (C : Cx w k A g L m led h) {p : Addr × Obj} (hp : p ∈ led) : p.1 < h.objs.size := Heap.lt_size (C.nw p hp).1
theorem Cx.g_none (C : Cx w k A g L m led h) {a : Addr} (ha : h.objs.size ≤ a) : g.get? a = none := by
  cases e : g.get? a with
  | none => rfl
  | some o => exact absurd (Heap.lt_size (C.fr.keep _ _ e)) (Nat.not_lt.mpr ha)
theorem Cx.fresh (C : Cx w k A g L m led h) {a : Addr} (ha : h.objs.size ≤ a) : a ∉ keys led := fun hl => by
  obtain ⟨p, hp, e⟩ := List.mem_map.mp hl
  have := C.lt hp
  rw [e] at this
  exact Nat.lt_irrefl _ (Nat.lt_of_lt_of_le this ha)
/-- the object at d is another one now -/
theorem Cx.put (C : Cx w k A g L m led h) {d : Addr} {o o' : Obj} (hd : (d, o) ∈ led) (hs : Heap.SameBut d h h') (ho : h'.get? d = some o') : Cx w k A g L m (upd d o' led) h' := by
  refine ⟨C.hd, C.room, C.units, C.good, C.fr.change hs (C.notL hd) (C.off_g hd), fun p hp => ?_, by rw [keys_upd]; exact C.nd⟩
  obtain ⟨a, q⟩ := p
  rcases mem_upd hp with ⟨rfl, rfl⟩ | ⟨hn, hp⟩
  · exact ⟨ho, C.notL hd, C.off_g hd⟩
  · exact ⟨hs.extBut _ _ hn (C.at hp), C.notL hp, C.off_g hp⟩
/-- the object at d is forgotten -/
theorem Cx.lose (C : Cx w k A g L m ((d, o) :: led) h) (hs : Heap.ExtBut d h h') : Cx w k A g L m led h' := by
  have hd : (d, o) ∈ (d, o) :: led := .head _
  have nd := List.nodup_cons.mp C.nd
  refine ⟨C.hd, C.room, C.units, C.good, ⟨C.fr.ns.at' fun o e => hs _ _ (Ne.symm (C.notL hd)) e, fun b o e => hs _ _ (fun q => ?_) (C.fr.keep b o e), C.fr.above⟩, fun p hp => ⟨hs _ _ (fun q => nd.1 ?_) (C.nw p (.tail _ hp)).1, (C.nw p (.tail _ hp)).2⟩, nd.2⟩
  · subst q; rw [C.off_g hd] at e; cases e
  · rw [← q]; exact List.mem_map.mpr ⟨p, hp, rfl⟩
theorem Cx.get' (C : Cx w k A g L m led h) : ∃ oL, h.get? L = some oL ∧ NsObj oL m := nsObj_of C.fr.ns
/-- into a frame of its own: the frame that stands is one more object of the ledger -/
theorem Cx.enter (C : Cx w k A g L m led h) {C' : Addr} {m' : Str → Option Value} (hn : h'.Ns C' m') (hk : ∀ b o, h.get? b = some o → h'.get? b = some o) (hC : h.objs.size ≤ C') :
    ∃ oL, NsObj oL m ∧ Cx w k A g C' m' ((L, oL) :: led) h' := by
  obtain ⟨oL, e, hL⟩ := C.get'
  have gL : g.get? L = none := Heap.get?_none_of_le C.fr.above
  have lL : L < h.objs.size := Heap.lt_size e
  have hsz : g.objs.size ≤ C' := Nat.le_trans C.fr.above (Nat.le_trans (Nat.le_of_lt lL) hC)
  refine ⟨oL, hL, C.hd, C.room, C.units, C.good, ⟨hn, fun b o q => hk _ _ (C.fr.keep b o q), hsz⟩, fun p hp => ?_, List.nodup_cons.mpr ⟨fun hl => ?_, C.nd⟩⟩
  · rcases List.mem_cons.mp hp with rfl | hp
    · exact ⟨hk _ _ e, Nat.ne_of_lt (Nat.lt_of_lt_of_le lL hC), gL⟩
    · exact ⟨hk _ _ (C.nw p hp).1, Nat.ne_of_lt (Nat.lt_of_lt_of_le (C.lt hp) hC), (C.nw p hp).2.2⟩
  · obtain ⟨p, hp, q⟩ := List.mem_map.mp hl
    exact (C.nw p hp).2.1 q
theorem Cx.leave (C : Cx w k A g L m ((L', oL) :: led) h) {m' : Str → Option Value} (hL : NsObj oL m') (hg : g.objs.size ≤ L') : Cx w k A g L' m' led h := by
  have nd := List.nodup_cons.mp C.nd
  refine ⟨C.hd, C.room, C.units, C.good, ⟨hL.ns (C.at (.head _)), C.fr.keep, hg⟩, fun p hp => ⟨(C.nw p (.tail _ hp)).1, fun q => nd.1 ?_, (C.nw p (.tail _ hp)).2.2⟩, nd.2⟩
  exact q ▸ List.mem_map.mpr ⟨p, hp, rfl⟩
theorem Cx.inA {A' : Around} {k' : Nat} (C : Cx w k A g L m led h) (h1 : A'.handled = none) (h2 : A'.depth + k' < recursionLimit) (h3 : A'.units + 8 * k' < cLine) : Cx w k' A' g L m led h :=
  ⟨h1, h2, h3, C.good, C.fr, C.nw, C.nd⟩
theorem perm_mid (x : Addr × Obj) (R n : Led) : (x :: (R ++ n)).Perm (R ++ (x :: n)) := List.perm_middle.symm
end

/-- an iterator over S that has handed out i items -/
noncomputable def Src.isIt : Src → Obj → Nat → Prop
  | .list l _ _, o, i => o.cls = .type "list_iterator" ∧ o.data = .fields #[.ref l, .int i 0]
  | .tup l _, o, i => o.cls = .type "tuple_iterator" ∧ o.data = .fields #[.ref l, .int i 0]
  | .range _ n _ _ _, o, i => o = { cls := .type "range_iterator", dict := none, data := .fields #[rawInt (i : Int), rawInt ((n : Int) - i), rawInt 1], slots := #[] }

section
variable {w : World} {k : Nat} {A : Around} {g : Heap} {L : Addr} {m : Str → Option Value} {led : Led} {E : Value → Shared → Prop} {s : Shared}

theorem src_iter {S : Src} (C : Cx w k A g L m led s.heap) (hl : S.live led) (hf : S.fits) {Q : Value → Shared → Prop}
    (h : ∀ I oI h', S.isIt oI 0 → Cx w k A g L m ((I, oI) :: led) h' → (∀ b o, s.heap.get? b = some o → h'.get? b = some o) → Q (.ref I) { s with heap := h' }) : wpAny (model PR w) A (pyIter S.val) Q E s := by
  have push : ∀ o : Obj, o.isFreed = false → Cx w k A g L m ((s.heap.objs.size, o) :: led) (s.heap.push o) := fun o hf =>
    (C.keeps fun b o e => Heap.get?_push_of_some _ e).cons (Heap.get?_push_size _ hf) (Nat.ne_of_gt C.fr.ns.lt) (C.g_none (Nat.le_refl _)) (C.fresh (Nat.le_refl _))
  have up : ∀ o : Obj, ∀ b o', s.heap.get? b = some o' → (s.heap.push o).get? b = some o' := fun o b o' e => Heap.get?_push_of_some _ e
  cases S with
  | list l its ep =>
    exact wpAny_pyIter_list ⟨_, C.at hl, rfl, _, rfl⟩ (h _ _ _ ⟨rfl, rfl⟩ (push _ rfl) (up _))
  | tup l its =>
    exact iter_tuple ⟨_, C.at hl, rfl, _, rfl⟩ (h _ _ _ ⟨rfl, rfl⟩ (push _ rfl) (up _))
  | range r n t u v =>
    refine wpAny_pyIter_range (C.at hl) hf (h _ _ _ ?_ (push _ rfl) (up _))
    have : Builtin.Range.rangeSize 0 n 1 = n := by unfold Builtin.Range.rangeSize; simp; omega
    rw [this]
    show _ = _
    simp

theorem src_next {S : Src} {I : Addr} {oI : Obj} {i : Nat} (hI : S.isIt oI i) (hi : i ≤ S.cnt) (C : Cx w k A g L m ((I, oI) :: led) s.heap) (hl : S.live led) {Q : Option Value → Shared → Prop}
    (h1 : i < S.cnt → ∀ v oI' h' tk, S.item i v → S.isIt oI' (i + 1) → Cx w k A g L m ((I, oI') :: led) h' → Q (some v) { s with heap := h', toks := tk })
    (h2 : i = S.cnt → ∀ h', Cx w k A g L m led h' → Q none { s with heap := h' }) : wpAny (model PR w) A (pyNext (.ref I)) Q E s := by
  have nd := List.nodup_cons.mp C.nd
  have hIm : (I, oI) ∈ (I, oI) :: led := .head _
  have put : ∀ {h' o'}, Heap.SameBut I s.heap h' → h'.get? I = some o' → Cx w k A g L m ((I, o') :: led) h' := fun {h' o'} hs ho => by
    have := C.put hIm hs ho
    rw [show upd I o' ((I, oI) :: led) = (I, o') :: led by
      show (if I = I then (I, o') else (I, oI)) :: upd I o' led = _
      rw [if_pos rfl, upd_off nd.1]] at this
    exact this
  cases S with
  | list l its ep =>
    have it : s.heap.IsListIter I l i := ⟨_, C.at hIm, hI.1, hI.2⟩
    have li : s.heap.IsList l its := ⟨_, C.at (.tail _ hl), rfl, _, rfl⟩
    by_cases q : i < its.size
    · refine wpAny_pyNext_list_item it li (x := its[i]) (by simp [q]) fun h' hit hs => ?_
      obtain ⟨o', e, c, d⟩ := hit
      exact h1 q _ o' h' s.toks (by show its[i]? = _; simp [q]) ⟨c, d⟩ (put hs e)
    · have q' : i = its.size := Nat.le_antisymm hi (Nat.not_lt.mp q)
      exact wpAny_pyNext_list_end C.hd it li (by simp [q']) fun h' he => h2 q' h' (C.lose he)
  | tup l its =>
    have it : IsTupIter s.heap I l i := ⟨_, C.at hIm, hI.1, hI.2⟩
    have li : IsTup s.heap l its := ⟨_, C.at (.tail _ hl), rfl, _, rfl⟩
    by_cases q : i < its.size
    · refine next_tuple_item it li (x := its[i]) (by simp [q]) fun h' hit hs => ?_
      obtain ⟨o', e, c, d⟩ := hit
      exact h1 q _ o' h' s.toks (by show its[i]? = _; simp [q]) ⟨c, d⟩ (put hs e)
    · have q' : i = its.size := Nat.le_antisymm hi (Nat.not_lt.mp q)
      exact next_tuple_end C.hd it li (by simp [q']) fun h' he => h2 q' h' (C.lose he)
  | range r n t u v =>
    have it : IsRangeIter s.heap I i ((n : Int) - i) 1 := by have := C.at hIm; rw [show oI = _ from hI] at this; exact this
    by_cases q : i < n
    · refine wpAny_pyNext_range_item it (by omega) fun h' hit hs => ?_
      refine h1 q _ _ h' _ ⟨_, rfl⟩ ?_ (put hs hit)
      show _ = _
      rw [show (n : Int) - (i : Int) - 1 = (n : Int) - ((i + 1 : Nat) : Int) by omega]
      rfl
    · have q' : i = n := Nat.le_antisymm hi (Nat.not_lt.mp q)
      exact wpAny_pyNext_range_end C.hd it (by omega) fun h' he => h2 q' h' (C.lose he)
end
/-! Comp1 -/
theorem lookup_map_key (f : Str → NameKind → NameKind) (z : Str) : ∀ names : List (Str × NameKind), (names.map fun p => (p.1, f p.1 p.2)).lookup z = (names.lookup z).map (f z)
  | [] => rfl
  | (n, k) :: r => by
    have ih := lookup_map_key f z r
    show List.lookup z ((n, f n k) :: _) = _
    cases hx : z == n with
    | true =>
      have : z = n := by simpa using hx
      simp only [List.lookup_cons, hx]
      rw [this]; rfl
    | false => simp only [List.lookup_cons, hx]; exact ih
theorem relabel_names (scope : Scope) (env : Env) (z : Str) : (relabel scope env).names.lookup z = (scope.names.lookup z).map fun k => if (k == .free && env.scope.kind == .function && env.kindOf z == some .cell) then .cell else k := by
  rw [← lookup_map_key (fun z k => if (k == .free && env.scope.kind == .function && env.kindOf z == some .cell) = true then .cell else k) z scope.names]
  unfold relabel
  dsimp only
  congr 1
  refine List.map_congr_left fun p _ => ?_
  obtain ⟨n, k⟩ := p
  dsimp only
  split <;> rfl

theorem closure_aux (env : Env) : ∀ (names : List (Str × NameKind)) (cs : List (Str × Addr)), (∀ y ∈ names, y.2 = .free → ∃ c, env.cells.lookup y.1 = some c) → (∀ p ∈ cs, env.cells.lookup p.1 = some p.2) →
    ∃ cl, (forIn names cs fun (p : Str × NameKind) r => (do if (p.2 == .free) = true then (do let c ← cellOf env p.1; pure (ForInStep.yield ((p.1, c) :: r))) else pure (ForInStep.yield r) : Sem (ForInStep (List (Str × Addr))))) = pure cl ∧
      (∀ p ∈ cl, env.cells.lookup p.1 = some p.2) ∧ (∀ y ∈ names, y.2 = .free → y.1 ∈ cl.map (·.1)) ∧ (∀ y ∈ cs.map (·.1), y ∈ cl.map (·.1))
  | [], cs, _, hc => ⟨cs, by rw [List.forIn_nil], hc, fun _ h => (nomatch h), fun _ h => h⟩
  | (n, k) :: r, cs, hf, hc => by
    by_cases hk : k = .free
    · obtain ⟨c, e⟩ := hf (n, k) (.head _) hk
      obtain ⟨cl, h1, h2, h3, h4⟩ := closure_aux env r ((n, c) :: cs) (fun y hy => hf y (.tail _ hy)) (fun p hp => by
        rcases List.mem_cons.mp hp with rfl | hp
        · exact e
        · exact hc p hp)
      refine ⟨cl, ?_, h2, fun y hy q => ?_, fun y hy => h4 y (.tail _ hy)⟩
      · rw [List.forIn_cons]
        subst hk
        have : cellOf env n = pure c := by unfold cellOf; rw [e]
        simp only [beq_self_eq_true, if_true, this, pure_bind]
        exact h1
      · rcases List.mem_cons.mp hy with rfl | hy
        · exact h4 _ (.head _)
        · exact h3 y hy q
    · obtain ⟨cl, h1, h2, h3, h4⟩ := closure_aux env r cs (fun y hy => hf y (.tail _ hy)) hc
      refine ⟨cl, ?_, h2, fun y hy q => ?_, h4⟩
      · rw [List.forIn_cons]
        have : (k == NameKind.free) = false := by simpa using hk
        simp only [this, Bool.false_eq_true, if_false, pure_bind]
        exact h1
      · rcases List.mem_cons.mp hy with rfl | hy
        · exact absurd q hk
        · exact h3 y hy q
theorem lookup_same {α : Type} {cl cs : List (Str × α)} (h : ∀ p ∈ cl, cs.lookup p.1 = some p.2) {y : Str} (hy : y ∈ cl.map (·.1)) : cl.lookup y = cs.lookup y := by
  induction cl with
  | nil => cases hy
  | cons p r ih =>
    obtain ⟨n, c⟩ := p
    rw [List.lookup_cons]
    cases q : y == n with
    | true =>
      have : y = n := by simpa using q
      subst this
      exact (h _ (.head _)).symm
    | false =>
      have hn : y ≠ n := by simpa using q
      refine ih (fun p hp => h p (.tail _ hp)) ?_
      rcases List.mem_cons.mp hy with e | hy
      · exact absurd e hn
      · exact hy
theorem mem_of_lookup_k : ∀ {names : List (Str × NameKind)} {y : Str} {k : NameKind}, names.lookup y = some k → (y, k) ∈ names
  | (n, k') :: r, y, k, h => by
    rw [List.lookup_cons] at h
    split at h
    · rename_i q
      cases h
      have : y = n := by simpa using q
      rw [this]; exact .head _
    · exact .tail _ (mem_of_lookup_k h)
theorem closure_ok {scope : Scope} {env : Env} (hf : ∀ y ∈ scope.names, y.2 = .free → ∃ c, env.cells.lookup y.1 = some c) :
    ∃ cl, closureFor scope env = pure cl ∧ ∀ y, scope.names.lookup y = some .free → cl.lookup y = env.cells.lookup y := by
  obtain ⟨cl, h1, h2, h3, _⟩ := closure_aux env scope.names [] hf (fun _ h => nomatch h)
  refine ⟨cl, ?_, fun y hy => lookup_same h2 (h3 _ (mem_of_lookup_k hy) rfl)⟩
  unfold closureFor
  rw [show (pure cl : Sem (List (Str × Addr))) = (pure cl >>= fun cs => pure cs) from rfl, ← h1]

section
variable {w : World} {k : Nat} {A : Around} {g h h' : Heap} {L : Addr} {m : Str → Option Value} {led R n : Led}
theorem Src.live_mono {S : Src} {n n' : Led} (h : S.live n) (hs : ∀ p ∈ n, p ∈ n') : S.live n' := by
  cases S <;> exact hs _ h
theorem Cx.put1 (C : Cx w k A g L m ((d, o) :: led) h) (hs : Heap.SameBut d h h') (ho : h'.get? d = some o') : Cx w k A g L m ((d, o') :: led) h' := by
  have := C.put (.head _) hs ho
  rwa [show upd d o' ((d, o) :: led) = (d, o') :: led by
    show (if d = d then (d, o') else (d, o)) :: upd d o' led = _
    rw [if_pos rfl, upd_off (List.nodup_cons.mp C.nd).1]] at this
theorem Cx.set (C : Cx w k A g L m led h) {m' : Str → Option Value} (hn : h'.Ns L m') (hs : Heap.SameBut L h h') : Cx w k A g L m' led h' :=
  ⟨C.hd, C.room, C.units, C.good, C.fr.set hn hs, C.nw.set hs, C.nd⟩
theorem Cx.other (C : Cx w k A g L m led h) {c : Addr} (hs : Heap.SameBut c h h') (h1 : c ∉ keys led) (h2 : c ≠ L) (h3 : g.get? c = none) : Cx w k A g L m led h' :=
  ⟨C.hd, C.room, C.units, C.good, C.fr.change hs h2 h3, fun p hp => ⟨hs.extBut _ _ (fun q => h1 (q ▸ List.mem_map.mpr ⟨p, hp, rfl⟩)) (C.nw p hp).1, (C.nw p hp).2⟩, C.nd⟩
theorem Cx.get_g {A : Around} (C : Cx w k A g L m led h) : g.get? L = none := Heap.get?_none_of_le C.fr.above
end

noncomputable abbrev lstOf (ys : List Value) : Obj := listOf ys.toArray ys.length
theorem lstOf_snoc (ys : List Value) (y : Value) : listOf (ys.toArray.push y) (ys.length + 1) = lstOf (ys ++ [y]) := by
  show listOf (ys.toArray.push y) (ys.length + 1) = listOf (ys ++ [y]).toArray (ys ++ [y]).length
  rw [List.length_append, List.length_singleton, List.push_toArray]

noncomputable def testsTree (ifs : List Expr) (env : Env) : Sem Bool :=
  forIn ifs true fun c r => if r = true then do let ok ← isTrue c env (eval c env); pure (ForInStep.yield ok) else pure (ForInStep.yield r)

section
variable {w : World} {k : Nat} {env : Env} {ns : List Str} {l : Lc} {sc csc : Scope}

theorem src_self {S : Src} {A : Around} {E : Value → Shared → Prop} {s : Shared} {I : Addr} {oI : Obj} {i : Nat} (hI : S.isIt oI i) (hg : s.heap.get? I = some oI) (hh : A.handled = none) {Q : Value → Shared → Prop}
    (h : Q (.ref I) s) : wpAny (model PR w) A (pyIter (.ref I)) Q E s := by
  cases S with
  | list l its ep => exact wpAny_pyIter_listiter (l := l) (i := i) ⟨_, hg, hI.1, hI.2⟩ h
  | tup l its => exact wpAny_pyIter_tupleiter ⟨_, hg, hI.1, hI.2⟩ h
  | range r n t u v => exact wpAny_pyIter_rangeiter (it := I) (by rw [show oI = _ from hI] at hg; exact hg) h

end
/-! Comp2 -/
/-- the conditions under which a comprehension is compiled -/
structure CompOk (sc csc : Scope) (ns : List Str) (x : Str) : Prop where
  new : ns.contains x = false
  dot : ns.contains (".0" : Str) = false
  kind : csc.kind = .function
  hx : csc.names.lookup x = some .local
  names : ∀ y ∈ csc.names, y.2 ≠ .cell ∧ (y.2 = .local → y.1 = x ∨ y.1 = (".0" : Str))
  free : ∀ y ∈ csc.names, y.2 = .free → sc.names.lookup y.1 = some .cell
  nd : (csc.names.map (·.1)).Nodup

theorem lookup_of_mem_nd : ∀ {names : List (Str × NameKind)} {n : Str} {c : NameKind}, (names.map (·.1)).Nodup → (n, c) ∈ names → names.lookup n = some c
  | (n', c') :: cs, n, c, hnd, hm => by
    rw [List.map_cons, List.nodup_cons] at hnd
    rcases List.mem_cons.mp hm with e | hm
    · cases e; simp
    · have hne : n ≠ n' := fun e => hnd.1 (e ▸ List.mem_map.mpr ⟨(n, c), hm, rfl⟩)
      rw [List.lookup_cons, beq_eq_false_iff_ne.mpr hne]
      exact lookup_of_mem_nd hnd.2 hm

section
variable {w : World} {k : Nat} {env : Env} {ns : List Str} {l : Lc} {n : Led} {sc csc : Scope} {x : Str}

theorem compOk_env (K : CompOk sc csc ns x) (E : EnvOk env sc) {cl : List (Str × Addr)} (hcl : ∀ y, csc.names.lookup y = some .free → cl.lookup y = env.cells.lookup y) {C : Addr} : EnvOk (compEnvC csc cl C env) csc := by
  have look : ∀ z, (compEnvC csc cl C env).kindOf z = (csc.names.lookup z).map fun k => if (k == .free && env.scope.kind == .function && env.kindOf z == some .cell) then .cell else k := fun z => relabel_names csc env z
  refine ⟨K.kind, E.gl, E.bl, fun y hy => ?_, fun y hy => ?_, fun y hy => ?_, fun y hy => ?_, fun y hy => ?_⟩
  · rw [look, hy]; rfl
  · rcases hy with hy | hy
    · exact absurd rfl (K.names _ (mem_of_lookup_k hy)).1
    · have h1 := E.isCell _ (K.free _ (mem_of_lookup_k hy) rfl)
      dsimp only at h1
      rw [look, hy, E.kind, h1]
      exact .inl rfl
  · rw [look, hy]; rfl
  · exact absurd rfl (K.names _ (mem_of_lookup_k hy)).1
  · rw [look] at hy
    obtain ⟨kz, e1, e2⟩ := Option.map_eq_some_iff.mp hy
    split at e2
    · rename_i c
      simp only [Bool.and_eq_true, beq_iff_eq] at c
      obtain ⟨c1, e⟩ := E.hasCell _ c.2
      rw [c.1.1] at e1
      exact ⟨c1, (hcl y e1).trans e⟩
    · subst e2
      exact absurd rfl (K.names _ (mem_of_lookup_k e1)).1
theorem compOk_sit (K : CompOk sc csc ns x) (E : EnvOk env sc) {cl : List (Str × Addr)} (hcl : ∀ y, csc.names.lookup y = some .free → cl.lookup y = env.cells.lookup y) {C : Addr} {m m' : Str → Option Value} {R R' : Led} (S : Sit env ns l m R)
    (hR : ∀ p ∈ R, p ∈ R') {y : Value} (hy : m' x = some y) : Sit (compEnvC csc cl C env) (ns ++ [x]) (lset ns.length y l) m' R' := by
  have look : ∀ z, (compEnvC csc cl C env).kindOf z = (csc.names.lookup z).map fun k => if (k == .free && env.scope.kind == .function && env.kindOf z == some .cell) then .cell else k := fun z => relabel_names csc env z
  have hkx : (compEnvC csc cl C env).kindOf x = some .local := by rw [look, K.hx]; rfl
  intro i z v hz hv
  by_cases hi : i < ns.length
  · rw [List.getElem?_append_left hi] at hz
    have hv' : l i = some v := by unfold lset at hv; rwa [if_neg (Nat.ne_of_lt hi)] at hv
    have hzn : z ∈ ns := List.mem_of_getElem? hz
    have hzx : z ≠ x := fun e => by have := K.new; rw [List.contains_iff_mem.mpr (e ▸ hzn)] at this; cases this
    have hzd : z ≠ (".0" : Str) := fun e => by have := K.dot; rw [List.contains_iff_mem.mpr (e ▸ hzn)] at this; cases this
    obtain ⟨s1, s2⟩ := S i z v hz hv'
    refine ⟨fun hk => ?_, fun hk => ?_⟩
    · rw [look] at hk
      obtain ⟨kz, e1, e2⟩ := Option.map_eq_some_iff.mp hk
      split at e2
      · cases e2
      · subst e2
        rcases (K.names _ (mem_of_lookup_k e1)).2 rfl with q | q
        · exact absurd q hzx
        · exact absurd q hzd
    · have hf : csc.names.lookup z = some .free := by
        cases q : csc.names.lookup z with
        | none => rw [look, q] at hk; rcases hk with hk | hk <;> cases hk
        | some kz =>
          have nc := (K.names _ (mem_of_lookup_k q)).1
          rw [look, q] at hk
          dsimp only [Option.map_some] at hk
          split at hk
          · rename_i c
            simp only [Bool.and_eq_true, beq_iff_eq] at c
            rw [c.1.1]
          · rcases hk with hk | hk
            · cases hk; exact absurd rfl nc
            · cases hk; rfl
      have hc := E.isCell _ (K.free _ (mem_of_lookup_k hf) rfl)
      obtain ⟨c, o, h1, h2, h3⟩ := s2 (.inl hc)
      exact ⟨c, o, (hcl z hf).trans h1, hR _ h2, h3⟩
  · have hi' : i = ns.length := by
      have := (List.getElem?_eq_some_iff.mp hz).1
      simp at this
      omega
    subst hi'
    simp only [List.getElem?_concat_length, Option.some.injEq] at hz
    subst hz
    have e : v = y := by
      unfold lset at hv
      rw [if_pos rfl] at hv
      exact (Option.some.inj hv).symm
    subst e
    exact ⟨fun _ => hy, fun hk => by rw [hkx] at hk; rcases hk with hk | hk <;> cases hk⟩

theorem comp_core {elt it : Expr} {px pos pos' : Pos} {ifs : List Expr} {use : Option (Value → Sem Unit)} {A : Around} {g : Heap} {m : Str → Option Value} {R : Led} {s : Shared} {Q' : Value → Shared → Prop}
    (K : CompOk sc csc ns x) (E : EnvOk env sc) (hs : ∀ x, foldedSetIterable it env x = pure x)
    (C : Cx w k A g env.locals m (R ++ n) s.heap) (St : Sit env ns l m R)
    (h : EV w k env ns (eval it env) l n fun v n1 => ∃ S : Src, S.val = v ∧ S.live n1 ∧ S.fits ∧ S.cnt ≤ sizeLine ∧ ∃ J : Nat → List Value → Led → Prop, J 0 [] n1 ∧
      (∀ i ys n2, J i ys n2 → S.live n2 ∧ (i < S.cnt → ∀ y, S.item i y → ∀ cl C, (∀ y, csc.names.lookup y = some .free → cl.lookup y = env.cells.lookup y) → EV w k (compEnvC csc cl C env) (ns ++ [x]) (testsTree ifs (compEnvC csc cl C env)) (lset ns.length y l) n2 fun b n3 => match b with
        | true => EV w k (compEnvC csc cl C env) (ns ++ [x]) (eval elt (compEnvC csc cl C env)) (lset ns.length y l) n3 fun z n4 => J (i + 1) (ys ++ [z]) n4
        | false => J (i + 1) ys n3)) ∧
      ∀ C D h' tk m' ys n2 oL, NsObj oL m → Cx w k A g C m' ((env.locals, oL) :: (D, lstOf ys) :: (R ++ n2)) h' → J S.cnt ys n2 → compPost (model PR w) A (fun _ _ => False) use Q' (.ref D) C (.ok .next) { s with heap := h', toks := tk }) :
    wpAny (model PR w) A (comprehension (.ListComp elt [⟨.Name x px, it, ifs, 0⟩] csc pos) csc env pos' (newList []) false (eval it env) use) Q' (fun _ _ => False) s := by
  obtain ⟨cl, hcl, hcl2⟩ := closure_ok (scope := csc) (env := env) fun y hy hk => E.hasCell _ (E.isCell _ (K.free y hy hk))
  have hcell : ∀ y ∈ csc.names, y.2 ≠ .cell := fun y hy => (K.names y hy).1
  refine wpAny_comprehension_free rfl hs hcl K.kind (fun y hy hl => lookup_of_mem_nd K.nd (by rw [← hl]; exact hy)) ?_
  refine h.go C St fun v n1 h1 tk C1 q => ?_
  obtain ⟨S, rfl, hlive, hfits, hsz, J, j0, jt, fin⟩ := q
  have mono : ∀ {n2 : Led} {L1 : Led}, S.live n2 → S.live (L1 ++ n2) := fun hh => Src.live_mono hh fun p hp => List.mem_append_right _ hp
  refine src_iter C1 (mono hlive) hfits fun I oI h2 hI C2 keep2 => ?_
  refine wpAny_newObj_type (wpAny_newFunctionEnv hcell (by intro y hy; simp at hy) (fun h₁ hns₁ hsb₁ => ?_) K.kind)
  dsimp only at hns₁ hsb₁ ⊢
  generalize hH2 : h2.push { cls := .type "list", dict := none, data := .seq ([] : List Value).toArray } = H2 at hns₁ hsb₁ ⊢
  have hC : H2.objs.size = h2.objs.size + 1 := by rw [← hH2, Heap.size_push]
  have C3 : Cx w k A g env.locals m ((h2.objs.size, lstOf []) :: (I, oI) :: (R ++ n1)) H2 := by
    rw [← hH2]
    exact (C2.keeps fun b o e => Heap.get?_push_of_some _ e).cons (Heap.get?_push_size _ rfl) (Nat.ne_of_gt C2.fr.ns.lt) (C2.g_none (Nat.le_refl _)) (C2.fresh (Nat.le_refl _))
  have keep3 : ∀ b o, H2.get? b = some o → h₁.get? b = some o := fun b o e => hsb₁.extBut b o (Nat.ne_of_lt (Heap.lt_size e)) (Heap.get?_push_of_some _ e)
  obtain ⟨oL, hoL, C4⟩ := C3.enter hns₁ keep3 (Nat.le_refl _)
  have hgL : g.objs.size ≤ env.locals := C.fr.above
  have C5 : Cx w k A g H2.objs.size (fun x => List.lookup x ([] : List (Str × Value)).reverse) ((I, oI) :: (env.locals, oL) :: (h2.objs.size, lstOf []) :: (R ++ n1)) h₁ := by
    refine C4.perm ?_
    exact ((List.Perm.swap _ _ _).cons _).trans (List.Perm.swap _ _ _)
  have loop : ∀ s₃ : Shared, s₃ = { s with heap := h₁, toks := tk + ([] : List (Str × Value)).length } →
      codeAny (model PR w) A (.compLoop (.ListComp elt [⟨.Name x px, it, ifs, 0⟩] csc pos) 0 (.ref I) (.ref h2.objs.size) (compEnvC csc cl H2.objs.size env))
        (compPost (model PR w) A (fun _ _ => False) use Q' (.ref h2.objs.size) H2.objs.size) s₃ := by
    rintro s₃ rfl
    refine codeAny_compLoop_tests (env := compEnvC csc cl H2.objs.size env)
      (fun kk s' => ∃ h' tk i ys n2 m' oI, s' = { s with heap := h', toks := tk } ∧ i ≤ S.cnt ∧ kk = S.cnt + 1 - i ∧ ys.length ≤ i ∧ S.isIt oI i ∧ J i ys n2 ∧
        Cx w k A g H2.objs.size m' ((I, oI) :: (env.locals, oL) :: (h2.objs.size, lstOf ys) :: (R ++ n2)) h') ?_ (S.cnt + 1)
      ⟨h₁, _, 0, [], n1, _, oI, rfl, Nat.zero_le _, rfl, Nat.le_refl _, hI, j0, C5⟩
    rintro kk s' ⟨h', tk, i, ys, n2, m', oI', rfl, hi, rfl, hyl, hI', hJ, CC⟩
    obtain ⟨jl, jb⟩ := jt i ys n2 hJ
    refine src_next hI' hi CC (Src.live_mono jl fun p hp => by simp [hp]) (fun hlt v oI2 h2' tk2 hv hI2 CC2 => ?_) fun he h2' CC2 => ?_
    · refine wpAny_assign_Name (wpAny_storeName_local (lookup_relabel_local K.hx) CC2.fr.ns (fun h₃ hn₃ hs₃ => ?_) (by simp [compEnvC, relabel, K.kind]))
      have CC3 := CC2.set hn₃ hs₃
      have St3 : Sit (compEnvC csc cl H2.objs.size env) (ns ++ [x]) (lset ns.length v l) _ ((I, oI2) :: (env.locals, oL) :: (h2.objs.size, lstOf ys) :: R) := compOk_sit K E hcl2 St (fun p hp => by simp [hp]) (m' := fun z => if z = x then some v else m' z) (y := v) (if_pos rfl)
      refine (jb hlt v hv cl H2.objs.size hcl2).go CC3 St3 fun b n3 h3 tk3 CC4 q4 => ?_
      cases b with
      | false =>
        simp only [Bool.false_eq_true, if_false]
        exact ⟨S.cnt + 1 - (i + 1), by omega, h3, tk3, i + 1, ys, n3, _, oI2, rfl, hlt, rfl, Nat.le_succ_of_le hyl, hI2, q4, CC4⟩
      | true =>
        simp only [if_true]
        refine EV.go q4 CC4 St3 fun z n4 h4 tk4 CC5 q5 => ?_
        have CC6 : Cx w k A g H2.objs.size _ ((h2.objs.size, lstOf ys) :: (I, oI2) :: (env.locals, oL) :: (R ++ n4)) h4 := CC5.perm (((List.Perm.swap _ _ _).cons _).trans (List.Perm.swap _ _ _))
        refine append_at (hsz := by show ys.toArray.size ≤ sizeLine; rw [List.size_toArray]; exact Nat.le_trans hyl (Nat.le_trans hi hsz)) (CC6.at (.head _)) fun h₅ hs₅ hD₅ => ?_
        have CC7 := CC6.put1 hs₅ (hD₅.trans (congrArg some (lstOf_snoc ys z)))
        exact ⟨S.cnt + 1 - (i + 1), by omega, h₅, tk4, i + 1, ys ++ [z], n4, _, oI2, rfl, hlt, rfl, by simp; omega, hI2, q5, CC7.perm ((List.Perm.swap _ _ _).trans ((List.Perm.swap _ _ _).cons _))⟩
    · subst he
      exact fin _ _ _ _ _ ys n2 oL hoL CC2 hJ
  exact codeAny_compStart_list (loop _ rfl) (src_self (i := 0) hI (C5.at (.head _)) C5.hd (loop _ rfl))
end
/-! Sound3 -/
section
variable {w : World} {k : Nat} {env : Env} {ns : List Str} {l : Lc} {n : Led} {sc csc : Scope} {x : Str}

theorem EV.of_eq {α : Type} {t t' : Sem α} {Q : α → Led → Prop} (e : t = t') (h : EV w k env ns t' l n Q) : EV w k env ns t l n Q := e ▸ h

theorem comp_end {A : Around} {g : Heap} {m m' : Str → Option Value} {R n2 : Led} {s : Shared} {C D : Addr} {h' : Heap} {tk : Nat} {oL oD : Obj} {Q' : Value → Shared → Prop} (hL : NsObj oL m) (hg : g.objs.size ≤ env.locals)
    (CC : Cx w k A g C m' ((env.locals, oL) :: (D, oD) :: (R ++ n2)) h') (hq : ∀ h'', Cx w k A g env.locals m (R ++ ((D, oD) :: n2)) h'' → D ∉ keys n2 → Q' (.ref D) { s with heap := h'', toks := tk }) :
    compPost (model PR w) A (fun _ _ => False) none Q' (.ref D) C (.ok .next) { s with heap := h', toks := tk } := by
  have C1 := CC.leave hL hg
  have nd := List.nodup_cons.mp C1.nd
  refine ⟨m', CC.fr.ns, fun h'' hs => hq h'' ?_ fun hm => nd.1 ?_⟩
  · refine (C1.other hs (fun hm => ?_) ?_ CC.get_g).perm (perm_mid _ _ _)
    · obtain ⟨p, hp, e⟩ := List.mem_map.mp hm
      exact CC.notL (a := p.1) (o := p.2) (.tail _ hp) e
    · exact Ne.symm (CC.notL (.head _))
  · show D ∈ keys (R ++ n2)
    rw [keys_append]; exact List.mem_append_right _ hm

theorem ev_compG {elt it : Expr} {px pos : Pos} {ifs : List Expr} {Q : Value → Led → Prop}
    (K : CompOk sc csc ns x) (E : EnvOk env sc) (hs : ∀ x, foldedSetIterable it env x = pure x)
    (h : EV w k env ns (eval it env) l n fun v n1 => ∃ S : Src, S.val = v ∧ S.live n1 ∧ S.fits ∧ S.cnt ≤ sizeLine ∧ ∃ J : Nat → List Value → Led → Prop, J 0 [] n1 ∧
      ∀ i ys n2, J i ys n2 → S.live n2 ∧ (i < S.cnt → ∀ y, S.item i y → ∀ cl C, (∀ y, csc.names.lookup y = some .free → cl.lookup y = env.cells.lookup y) → EV w k (compEnvC csc cl C env) (ns ++ [x]) (testsTree ifs (compEnvC csc cl C env)) (lset ns.length y l) n2 fun b n3 => match b with
        | true => EV w k (compEnvC csc cl C env) (ns ++ [x]) (eval elt (compEnvC csc cl C env)) (lset ns.length y l) n3 fun z n4 => J (i + 1) (ys ++ [z]) n4
        | false => J (i + 1) ys n3) ∧ (i = S.cnt → ∀ d, d ∉ keys n2 → Q (.ref d) ((d, listOf ys.toArray ys.length) :: n2))) :
    EV w k env ns (eval (.ListComp elt [⟨.Name x px, it, ifs, 0⟩] csc pos) env) l n Q := fun A g m R s C S => by
  rw [eval_ListComp]
  refine comp_core K E hs C S (h.mono fun v n1 q => ?_)
  obtain ⟨S1, e1, e2, e3, e4, J, j0, jt⟩ := q
  refine ⟨S1, e1, e2, e3, e4, J, j0, fun i ys n2 hJ => ⟨(jt i ys n2 hJ).1, (jt i ys n2 hJ).2.1⟩, fun C' D h' tk m' ys n2 oL hL CC hJ => ?_⟩
  exact comp_end hL C.fr.above CC fun h'' C'' hd => ⟨_, h'', tk, rfl, C'', (jt _ ys n2 hJ).2.2 rfl D hd⟩

theorem ev_tests_nil {Q : Bool → Led → Prop} (h : Q true n) : EV w k env ns (testsTree [] env) l n Q := fun A g m R s C S => wpAny_tests_nil ⟨n, s.heap, s.toks, rfl, C, h⟩
theorem ev_tests_one {c : Expr} {Q : Bool → Led → Prop} (h : EV w k env ns (isTrue c env (eval c env)) l n Q) : EV w k env ns (testsTree [c] env) l n Q := fun A g m R s C S => wpAny_tests_one (h A g m R s C S)

theorem sEs {f : Expr → Option Ex} {pos : Pos} (ih : ∀ e ce l n Q, f e = some ce → wE w k ce l n Q → EV w k env ns (eval e env) l n Q) : ∀ (es : List Expr) (cs : List Ex) (l : Lc) (n : Led) (Q : List Value → Led → Prop), es.mapM f = some cs → es.any isStar = false →
    wEs w k (mkExs cs) l n Q → EV w k env ns (spliced (backTo pos (starEach es env))) l n Q
  | [], cs, l, n, Q, hm, _, h => by
    cases hm
    exact EV.pure (wEs_nil h)
  | e :: es, cs, l, n, Q, hm, hs, h => by
    simp only [List.mapM_cons, Option.bind_eq_bind, Option.pure_def] at hm
    obtain ⟨c, h1, hm⟩ := Option.bind_eq_some_iff.mp hm
    obtain ⟨cr, h2, hm⟩ := Option.bind_eq_some_iff.mp hm
    cases hm
    simp only [List.any_cons, Bool.or_eq_false_iff] at hs
    replace h := wEs_cons h
    exact ev_splice hs.2 hs.1 ((ih e c l n _ h1 h).mono fun v n1 q => (sEs ih es cr l n1 _ h2 hs.2 q).mono fun vs n2 q2 => q2)
end

theorem cE_set {KP : Frag} {n : Nat} {sc : Scope} {ns : List Str} {es : List Expr} {kk : Nat} {p : Pos} : cE KP n sc ns (.Set es kk p) = none := by
  cases n <;> rfl
theorem fold_ok {KP : Frag} {n : Nat} {sc : Scope} {ns : List Str} {it : Expr} {ci : Ex} (h : cE KP n sc ns it = some ci) (env : Env) : ∀ x, foldedSetIterable it env x = pure x := by
  intro x
  cases it <;> first | rfl | (rw [cE_set] at h; cases h)
theorem compOk_of {sc csc : Scope} {ns : List Str} {x : Str} (h : ¬ (ns.contains x || ns.contains (".0" : Str) || csc.kind != .function || csc.names.lookup x != some .local || !(csc.names.all fun y => y.2 != .cell && (y.2 != .local || y.1 == x || y.1 == (".0" : Str))) ||
          !(csc.names.all fun y => y.2 != .free || sc.names.lookup y.1 == some .cell) || b || decide (csc.names.map (·.1)).Nodup == false) = true) : CompOk sc csc ns x := by
  simp only [Bool.or_eq_true, not_or, Bool.not_eq_true, bne_eq_false_iff_eq, Bool.not_eq_false', beq_eq_false_iff_ne, ne_eq, Bool.not_eq_false, decide_eq_true_eq] at h
  obtain ⟨⟨⟨⟨⟨⟨⟨h1, h2⟩, h3⟩, h4⟩, h5⟩, h6⟩, _⟩, h8⟩ := h
  refine ⟨h1, h2, h3, h4, fun y hy => ?_, fun y hy hk => ?_, h8⟩
  · have := List.all_eq_true.mp h5 y hy
    simp only [Bool.and_eq_true, Bool.or_eq_true, bne_iff_ne, ne_eq, beq_iff_eq] at this
    exact ⟨this.1, fun q => this.2.elim (fun z => z.elim (fun z => absurd q z) .inl) .inr⟩
  · have := List.all_eq_true.mp h6 y hy
    simp only [Bool.or_eq_true, bne_iff_ne, ne_eq, beq_iff_eq] at this
    exact this.elim (fun z => absurd hk z) id
/-! Sound4 -/
theorem cE_comp {KP : Frag} {f : Nat} {sc csc : Scope} {ns : List Str} {elt : Expr} {gens : List Comprehension} {pos : Pos} {ce : Ex} (h : cE KP (f + 1) sc ns (.ListComp elt gens csc pos) = some ce) :
    ∃ x px it ifs ci cel, gens = [⟨.Name x px, it, ifs, 0⟩] ∧ CompOk sc csc ns x ∧ cE KP f sc ns it = some ci ∧ cE KP f csc (ns ++ [x]) elt = some cel ∧
      ((ifs = [] ∧ ce = .comp cel ns.length ci) ∨ ∃ c cc, ifs = [c] ∧ cE KP f csc (ns ++ [x]) c = some cc ∧ ce = .compIf cel ns.length ci cc) := by
  cases gens with
  | nil => cases h
  | cons g t =>
  cases t with
  | cons => cases h
  | nil =>
  obtain ⟨tg, it, ifs, asy⟩ := g
  have h : (match (generalizing := false) nameOf tg with
          | none => none
          | some (x, _) => if (ns.contains x || ns.contains (".0" : Str) || csc.kind != .function || csc.names.lookup x != some .local || !(csc.names.all fun y => y.2 != .cell && (y.2 != .local || y.1 == x || y.1 == (".0" : Str))) ||
              !(csc.names.all fun y => y.2 != .free || sc.names.lookup y.1 == some .cell) || (isSlice it || asy != 0) || decide (csc.names.map (·.1)).Nodup == false) = true then none else
            (cE KP f sc ns it).bind fun ci => (cE KP f csc (ns ++ [x]) elt).bind fun ce => match (generalizing := false) ifs with
              | [] => some (Ex.comp ce ns.length ci)
              | c :: u => match (generalizing := false) u with
                | _ :: _ => none
                | [] => (cE KP f csc (ns ++ [x]) c).map fun cc => Ex.compIf ce ns.length ci cc) = some ce := h
  cases hn : nameOf tg with
  | none => rw [hn] at h; cases h
  | some q =>
    obtain ⟨x, px⟩ := q
    rw [hn] at h
    cases nameOf_some hn
    obtain ⟨hc, h⟩ := ite_none h
    have K := compOk_of (b := isSlice it || asy != 0) (by rw [hc]; exact Bool.false_ne_true)
    have h0 : asy = 0 := by
      simp only [Bool.or_eq_false_iff] at hc
      simpa using hc.1.2.2
    subst h0
    obtain ⟨ci, h1, h2⟩ := Option.bind_eq_some_iff.mp h
    obtain ⟨cel, h3, h4⟩ := Option.bind_eq_some_iff.mp h2
    refine ⟨x, px, it, ifs, ci, cel, rfl, K, h1, h3, ?_⟩
    cases ifs with
    | nil => cases h4; exact .inl ⟨rfl, rfl⟩
    | cons c u =>
      cases u with
      | cons => cases h4
      | nil =>
        obtain ⟨cc, h5, rfl⟩ := Option.map_eq_some_iff.mp h4
        exact .inr ⟨_, cc, rfl, h5, rfl⟩
theorem wT_v {w : World} {k i : Nat} {l : Lc} {n : Led} {Q : Bool → Led → Prop} (q : wT w k (.v i) l n Q) : False := q
theorem wT_g {w : World} {k : Nat} {x : Value} {l : Lc} {n : Led} {Q : Bool → Led → Prop} (q : wT w k (.g x) l n Q) : False := q

/-- what an expression's Ir tells -/
structure SX (w : World) (k : Nat) (env : Env) (ns : List Str) (e : Expr) (ce : Ex) : Prop where
  v : ∀ (l : Lc) (n : Led) (Q : Value → Led → Prop), wE w k ce l n Q → EV w k env ns (eval e env) l n Q
  t : ∀ (l : Lc) (n : Led) (Q : Bool → Led → Prop), wT w k ce l n Q → EV w k env ns (isTrue e env (eval e env)) l n Q
section
variable {w : World} {k : Nat}
theorem comp_hyp {f : Nat} {sc csc : Scope} {ns : List Str} {env : Env} {x : Str} {elt it : Expr} {ifs : List Expr} {ce ci cel : Ex} {l : Lc} {n : Led} {Q : Value → Led → Prop} (E : EnvOk env sc) (K : CompOk sc csc ns x)
    (ih : ∀ e ce, cE (KK w.params) f sc ns e = some ce → ∀ (l : Lc) (n : Led) (Q : Value → Led → Prop), wE w k ce l n Q → EV w k env ns (eval e env) l n Q)
    (ih2 : ∀ env', EnvOk env' csc → ∀ e ce, cE (KK w.params) f csc (ns ++ [x]) e = some ce → SX w k env' (ns ++ [x]) e ce)
    (h1 : cE (KK w.params) f sc ns it = some ci) (h3 : cE (KK w.params) f csc (ns ++ [x]) elt = some cel)
    (hc : (ifs = [] ∧ ce = .comp cel ns.length ci) ∨ ∃ c cc, ifs = [c] ∧ cE (KK w.params) f csc (ns ++ [x]) c = some cc ∧ ce = .compIf cel ns.length ci cc) (q : wE w k ce l n Q) :
    EV w k env ns (eval it env) l n fun v n1 => ∃ S : Src, S.val = v ∧ S.live n1 ∧ S.fits ∧ S.cnt ≤ sizeLine ∧ ∃ J : Nat → List Value → Led → Prop, J 0 [] n1 ∧
      ∀ i' ys n2, J i' ys n2 → S.live n2 ∧ (i' < S.cnt → ∀ y, S.item i' y → ∀ cl C, (∀ y, csc.names.lookup y = some .free → cl.lookup y = env.cells.lookup y) → EV w k (compEnvC csc cl C env) (ns ++ [x]) (testsTree ifs (compEnvC csc cl C env)) (lset ns.length y l) n2 fun b n3 => match b with
        | true => EV w k (compEnvC csc cl C env) (ns ++ [x]) (eval elt (compEnvC csc cl C env)) (lset ns.length y l) n3 fun z n4 => J (i' + 1) (ys ++ [z]) n4
        | false => J (i' + 1) ys n3) ∧ (i' = S.cnt → ∀ d, d ∉ keys n2 → Q (.ref d) ((d, listOf ys.toArray ys.length) :: n2)) := by
  rcases hc with ⟨rfl, rfl⟩ | ⟨c, cc, rfl, h5, rfl⟩
  · replace q := wE_comp q
    refine (ih _ _ h1 _ _ _ q).mono fun v n1 q => ?_
    obtain ⟨S, e1, e2, e3, e4, J, j0, jt⟩ := q
    refine ⟨S, e1, e2, e3, e4, J, j0, fun i ys n2 hJ => ?_⟩
    obtain ⟨t1, t2, t3⟩ := jt i ys n2 hJ
    refine ⟨t1, fun hi y hy cl C hcl => ?_, t3⟩
    exact ev_tests_nil (((ih2 _ (compOk_env K E hcl) _ _ h3).1 _ _ _ (t2 hi y hy)).mono fun z n4 q => q)
  · replace q := wE_compIf q
    refine (ih _ _ h1 _ _ _ q).mono fun v n1 q => ?_
    obtain ⟨S, e1, e2, e3, e4, J, j0, jt⟩ := q
    refine ⟨S, e1, e2, e3, e4, J, j0, fun i ys n2 hJ => ?_⟩
    obtain ⟨t1, t2, t3⟩ := jt i ys n2 hJ
    refine ⟨t1, fun hi y hy cl C hcl => ?_, t3⟩
    refine ev_tests_one (((ih2 _ (compOk_env K E hcl) _ _ h5).2 _ _ _ (t2 hi y hy)).mono fun b n3 q => ?_)
    cases b with
    | true => exact (ih2 _ (compOk_env K E hcl) _ _ h3).1 _ _ _ q
    | false => exact q
end

section
variable {w : World} {k : Nat}

theorem sE : ∀ (f : Nat) (sc : Scope) (ns : List Str) (env : Env), EnvOk env sc → ∀ (e : Expr) (ce : Ex), cE (KK w.params) f sc ns e = some ce → SX w k env ns e ce
  | 0, _, _, _, _, _, _, h => nomatch h
  | f + 1, sc, ns, env, E, e, ce, h => by
    have ih := fun e ce h => sE f sc ns env E e ce h
    have sub := fun (es : List Expr) (cs : List Ex) (pos : Pos) (l : Lc) (n : Led) (Q : List Value → Led → Prop) h1 h2 h3 => sEs (f := cE (KK w.params) f sc ns) (pos := pos) (fun e ce l n Q hh => (ih e ce hh).1 l n Q) es cs l n Q h1 h2 h3
    cases e with
    | Name x pos =>
      have h : cName (KK w.params) sc ns x = some ce := h
      refine ⟨fun l n Q q => ev_name E h q, fun l n Q q => ?_⟩
      unfold cName at h
      split at h
      · cases h
      · split at h
        · obtain ⟨i, _, rfl⟩ := Option.map_eq_some_iff.mp h; exact (wT_v q).elim
        · obtain ⟨i, _, rfl⟩ := Option.map_eq_some_iff.mp h; exact (wT_v q).elim
        · obtain ⟨i, _, rfl⟩ := Option.map_eq_some_iff.mp h; exact (wT_v q).elim
        · split at h
          · cases h; exact (wT_g q).elim
          · obtain ⟨i, _, rfl⟩ := Option.map_eq_some_iff.mp h; exact (wT_g q).elim
          · cases h
        · cases h
    | Constant c kk pos =>
      cases c with
      | int i => cases h; exact ⟨fun l n Q q => ev_int (wE_int q), fun l n Q q => nomatch q⟩
      | str s => cases h; exact ⟨fun l n Q q => ev_str (wE_str q), fun l n Q q => nomatch q⟩
      | bool b => cases h; exact ⟨fun l n Q q => ev_bool (wE_bool q), fun l n Q q => nomatch q⟩
      | _ => cases h
    | BinOp lf op r pos =>
      obtain ⟨a, h1, h2⟩ := Option.bind_eq_some_iff.mp h
      obtain ⟨b, h3, rfl⟩ := Option.map_eq_some_iff.mp h2
      refine ⟨fun l n Q q => ?_, fun l n Q q => nomatch q⟩
      replace q := wE_bin q
      exact ev_bin (((ih _ _ h1).1 _ _ _ q).mono fun x n1 q => ((ih _ _ h3).1 _ _ _ q).mono fun y n2 q => q)
    | UnaryOp op x pos =>
      cases op with
      | USub =>
        obtain ⟨a, h1, rfl⟩ := Option.map_eq_some_iff.mp h
        refine ⟨fun l n Q q => ?_, fun l n Q q => nomatch q⟩
        replace q := wE_neg q
        exact ev_un (((ih _ _ h1).1 _ _ _ q).mono fun x n1 q => q)
      | _ => cases h
    | Compare lf ops rs pos =>
      cases ops with
      | nil => cases h
      | cons op t =>
      cases t with
      | cons => cases h
      | nil =>
      cases rs with
      | nil => cases h
      | cons r u =>
      cases u with
      | cons => cases h
      | nil =>
        obtain ⟨hm, h⟩ := ite_none h
        obtain ⟨a, h1, h2⟩ := Option.bind_eq_some_iff.mp h
        obtain ⟨b, h3, rfl⟩ := Option.map_eq_some_iff.mp h2
        refine ⟨fun l n Q q => ?_, fun l n Q q => ?_⟩
        · replace q := wE_cmp q
          exact ev_cmp hm (((ih _ _ h1).1 _ _ _ q).mono fun x n1 q => ((ih _ _ h3).1 _ _ _ q).mono fun y n2 q => q)
        · replace q := wT_cmp q
          exact ev_tcmp hm (((ih _ _ h1).1 _ _ _ q).mono fun x n1 q => ((ih _ _ h3).1 _ _ _ q).mono fun y n2 q => q)
    | BoolOp op es p0 =>
      cases es with
      | nil => cases h
      | cons a0 t =>
      cases t with
      | nil => exact ⟨fun l n Q q => (ih _ _ h).1 l n Q q, fun l n Q q => ev_tone ((ih _ _ h).2 l n Q q)⟩
      | cons b0 r0 =>
      cases op with
      | And =>
        obtain ⟨a, h1, h2⟩ := Option.bind_eq_some_iff.mp h
        obtain ⟨b, h3, rfl⟩ := Option.map_eq_some_iff.mp h2
        refine ⟨fun l n Q q => ?_, fun l n Q q => ?_⟩
        · replace q := wE_and q
          refine ev_and (((ih _ _ h1).1 _ _ _ q).mono fun x n1 q => ?_)
          obtain ⟨c, hc, q⟩ := q
          refine ⟨c, hc, ?_⟩
          cases c with
          | true => exact (ih _ _ h3).1 _ _ _ q
          | false => exact q
        · replace q := wT_and q
          refine ev_tand (whole' := eval (.BoolOp .And (b0 :: r0) p0) env) (((ih _ _ h1).2 _ _ _ q).mono fun c n1 q => ?_)
          cases c with
          | true => exact (ih _ _ h3).2 _ _ _ q
          | false => exact q
      | Or =>
        obtain ⟨a, h1, h2⟩ := Option.bind_eq_some_iff.mp h
        obtain ⟨b, h3, rfl⟩ := Option.map_eq_some_iff.mp h2
        refine ⟨fun l n Q q => ?_, fun l n Q q => ?_⟩
        · replace q := wE_or q
          refine ev_or (((ih _ _ h1).1 _ _ _ q).mono fun x n1 q => ?_)
          obtain ⟨c, hc, q⟩ := q
          refine ⟨c, hc, ?_⟩
          cases c with
          | false => exact (ih _ _ h3).1 _ _ _ q
          | true => exact q
        · replace q := wT_or q
          refine ev_tor (whole' := eval (.BoolOp .Or (b0 :: r0) p0) env) (((ih _ _ h1).2 _ _ _ q).mono fun c n1 q => ?_)
          cases c with
          | false => exact (ih _ _ h3).2 _ _ _ q
          | true => exact q
    | IfExp t a0 b0 pos =>
      obtain ⟨a, h1, h2⟩ := Option.bind_eq_some_iff.mp h
      obtain ⟨b, h3, h4⟩ := Option.bind_eq_some_iff.mp h2
      obtain ⟨c, h5, rfl⟩ := Option.map_eq_some_iff.mp h4
      refine ⟨fun l n Q q => ?_, fun l n Q q => nomatch q⟩
      replace q := wE_ite q
      refine ev_ite (((ih _ _ h1).2 _ _ _ q).mono fun c n1 q => ?_)
      cases c with
      | true => exact (ih _ _ h3).1 _ _ _ q
      | false => exact (ih _ _ h5).1 _ _ _ q
    | List es pos =>
      obtain ⟨hs, h⟩ := ite_none h
      obtain ⟨a, h1, rfl⟩ := Option.map_eq_some_iff.mp h
      refine ⟨fun l n Q q => ?_, fun l n Q q => nomatch q⟩
      replace q := wE_list q
      exact ev_list (sub _ _ _ _ _ _ h1 hs q)
    | Tuple es kk pos =>
      obtain ⟨hs, h⟩ := ite_none h
      obtain ⟨a, h1, rfl⟩ := Option.map_eq_some_iff.mp h
      refine ⟨fun l n Q q => ?_, fun l n Q q => nomatch q⟩
      replace q := wE_tuple q
      exact ev_tuple (sub _ _ _ _ _ _ h1 hs q)
    | Dict ks vs pos =>
      cases ks with
      | cons => cases h
      | nil =>
      cases vs with
      | cons => cases h
      | nil =>
        cases h
        refine ⟨fun l n Q q => ?_, fun l n Q q => nomatch q⟩
        replace q := wE_dict q
        exact ev_dict q
    | Call fe args kws pos =>
      cases kws with
      | cons => cases h
      | nil =>
      have h : (match (generalizing := false) attrOf fe with
        | some (o, nm, ap) => if (args.any isStar || !isPath o || ap.endLine != pos.line || decide (29 < args.length)) = true then none else
            (cE (KK w.params) f sc ns o).bind fun x => (args.mapM (cE (KK w.params) f sc ns)).map fun l => Ex.meth x nm (mkExs l)
        | none => if (args.any isStar || decide (29 < args.length)) = true then none else
            (cE (KK w.params) f sc ns fe).bind fun x => (args.mapM (cE (KK w.params) f sc ns)).map fun l => Ex.call x (mkExs l)) = some ce := h
      cases ha : attrOf fe with
      | some t =>
        obtain ⟨o, nm, ap⟩ := t
        rw [ha] at h
        cases attrOf_some ha
        obtain ⟨hs, h⟩ := ite_none h
        simp only [Bool.or_eq_false_iff, Bool.not_eq_false', decide_eq_false_iff_not, Nat.not_lt] at hs
        obtain ⟨⟨⟨h1, h2⟩, h3⟩, h4⟩ := hs
        obtain ⟨a, h5, h6⟩ := Option.bind_eq_some_iff.mp h
        obtain ⟨b, h7, rfl⟩ := Option.map_eq_some_iff.mp h6
        refine ⟨fun l n Q q => ?_, fun l n Q q => nomatch q⟩
        replace q := wE_meth q
        refine ev_meth h1 h2 h3 h4 (((ih _ _ h5).1 _ _ _ q).mono fun ov n1 q => ?_)
        obtain ⟨fv, first, q1, q2⟩ := q
        exact ⟨fv, first, q1, sub _ _ _ _ _ _ h7 h1 q2⟩
      | none =>
        rw [ha] at h
        have h2 := attrOf_none ha
        obtain ⟨hs, h⟩ := ite_none h
        simp only [Bool.or_eq_false_iff] at hs
        obtain ⟨h1, h4⟩ := hs
        obtain ⟨a, h5, h6⟩ := Option.bind_eq_some_iff.mp h
        obtain ⟨b, h7, rfl⟩ := Option.map_eq_some_iff.mp h6
        have key : ∀ (l : Lc) (n : Led) (Q : Value → Led → Prop), wE w k (.call a (mkExs b)) l n Q → EV w k env ns (eval (.Call fe args [] pos) env) l n Q := fun l n Q q => by
          replace q := wE_call q
          exact ev_call h1 h2 (((ih _ _ h5).1 _ _ _ q).mono fun f n1 q => sub _ _ _ _ _ _ h7 h1 q)
        refine ⟨key, fun l n Q q => ?_⟩
        replace q := wT_call q
        exact ev_call_t rfl (key _ _ _ q)
    | Attribute o nm pos =>
      obtain ⟨hp, h⟩ := ite_none h
      simp only [Bool.not_eq_false'] at hp
      obtain ⟨a, h1, rfl⟩ := Option.map_eq_some_iff.mp h
      refine ⟨fun l n Q q => ?_, fun l n Q q => nomatch q⟩
      replace q := wE_attr q
      exact ev_attr hp ((ih _ _ h1).1 _ _ _ q)
    | Subscript a0 i0 pos =>
      have h : (match (generalizing := false) cutOf i0 with
        | none => (cE (KK w.params) f sc ns a0).bind fun x => (cE (KK w.params) f sc ns i0).map fun y => Ex.idx x y
        | some (lo, hi, st, _) => match (generalizing := false) st with
          | some s => match (generalizing := false) lo with
            | some _ => none
            | none => match (generalizing := false) hi with
              | some _ => none
              | none => if (!isNegOne s) = true then none else (cE (KK w.params) f sc ns a0).map Ex.rev
          | none => match (generalizing := false) lo with
            | some lo => match (generalizing := false) hi with
              | some _ => none
              | none => (cE (KK w.params) f sc ns a0).bind fun x => (cE (KK w.params) f sc ns lo).map fun y => Ex.cutFrom x y
            | none => match (generalizing := false) hi with
              | some hi => (cE (KK w.params) f sc ns a0).bind fun x => (cE (KK w.params) f sc ns hi).map fun y => Ex.cutTo x y
              | none => none) = some ce := h
      cases hc : cutOf i0 with
      | none =>
        rw [hc] at h
        obtain ⟨a, h1, h2⟩ := Option.bind_eq_some_iff.mp h
        obtain ⟨b, h3, rfl⟩ := Option.map_eq_some_iff.mp h2
        refine ⟨fun l n Q q => ?_, fun l n Q q => nomatch q⟩
        replace q := wE_idx q
        exact ev_idx (cutOf_none hc) (((ih _ _ h1).1 _ _ _ q).mono fun x n1 q => ((ih _ _ h3).1 _ _ _ q).mono fun y n2 q => q)
      | some t =>
        obtain ⟨lo, hi, st, sp⟩ := t
        rw [hc] at h
        cases cutOf_some hc
        clear hc
        cases st with
        | some s =>
          cases lo with
          | some _ => cases h
          | none =>
          cases hi with
          | some _ => cases h
          | none =>
            obtain ⟨hs, h⟩ := ite_none h
            simp only [Bool.not_eq_false'] at hs
            obtain ⟨kk, cp, up, rfl⟩ := isNegOne_true hs
            obtain ⟨a, h1, rfl⟩ := Option.map_eq_some_iff.mp h
            refine ⟨fun l n Q q => ?_, fun l n Q q => nomatch q⟩
            replace q := wE_rev q
            exact ev_rev (((ih _ _ h1).1 _ _ _ q).mono fun x n1 q => q)
        | none =>
          cases lo with
          | some lo =>
            cases hi with
            | some _ => cases h
            | none =>
              obtain ⟨a, h1, h2⟩ := Option.bind_eq_some_iff.mp h
              obtain ⟨b, h3, rfl⟩ := Option.map_eq_some_iff.mp h2
              refine ⟨fun l n Q q => ?_, fun l n Q q => nomatch q⟩
              replace q := wE_cutFrom q
              exact ev_cutFrom (((ih _ _ h1).1 _ _ _ q).mono fun x n1 q => ((ih _ _ h3).1 _ _ _ q).mono fun y n2 q => q)
          | none =>
            cases hi with
            | none => cases h
            | some hi =>
              obtain ⟨a, h1, h2⟩ := Option.bind_eq_some_iff.mp h
              obtain ⟨b, h3, rfl⟩ := Option.map_eq_some_iff.mp h2
              refine ⟨fun l n Q q => ?_, fun l n Q q => nomatch q⟩
              replace q := wE_cutTo q
              exact ev_cutTo (((ih _ _ h1).1 _ _ _ q).mono fun x n1 q => ((ih _ _ h3).1 _ _ _ q).mono fun y n2 q => q)
    | ListComp elt gens csc pos =>
      obtain ⟨x, px, it, ifs, ci, cel, rfl, K, h1, h3, h4⟩ := cE_comp h
      have key : ∀ (l : Lc) (n : Led) (Q : Value → Led → Prop), wE w k ce l n Q → _ := fun l n Q q => comp_hyp E K (fun e ce h => (sE f sc ns env E e ce h).1) (fun env' E' e ce h => sE f csc (ns ++ [x]) env' E' e ce h) h1 h3 h4 q
      refine ⟨fun l n Q q => ev_compG K E (fold_ok h1 env) (key l n Q q), fun l n Q q => ?_⟩
      rcases h4 with ⟨_, rfl⟩ | ⟨_, _, _, _, rfl⟩ <;> exact nomatch q
    | _ => cases h
end
/-! Sound5 -/
noncomputable def CellsIn (env : Env) (cs : Led) : Prop := ∀ x, env.kindOf x = some .cell → ∃ c o v, env.cells.lookup x = some c ∧ (c, o) ∈ cs ∧ o.data = .cell v
noncomputable def Ap (env : Env) : Prop := ∀ (x y : Str) (c : Addr), env.cells.lookup x = some c → env.cells.lookup y = some c → x = y

noncomputable def SPost (w : World) (k : Nat) (A : Around) (g : Heap) (env : Env) (ns : List Str) (R : Led) (s : Shared) (Q : Lc → Led → Prop) (s' : Shared) : Prop :=
  ∃ l' m' cs' n' h' tk, s' = { s with heap := h', toks := tk } ∧ Cx w k A g env.locals m' (R ++ (cs' ++ n')) h' ∧ Sit env ns l' m' cs' ∧ CellsIn env cs' ∧ Q l' n'
noncomputable def SV (w : World) (k : Nat) (env : Env) (ns : List Str) {α : Type} (t : Sem α) (l : Lc) (n : Led) (Q : α → Lc → Led → Prop) : Prop :=
  ∀ A g m R cs s, Cx w k A g env.locals m (R ++ (cs ++ n)) s.heap → Sit env ns l m cs → CellsIn env cs → wpAny (model PR w) A t (fun f s' => SPost w k A g env ns R s (Q f) s') (fun _ _ => False) s

section
variable {w : World} {k : Nat} {env : Env} {ns : List Str} {l : Lc} {n : Led} {sc : Scope} {α β : Type}

theorem Sit.mono {m : Str → Option Value} {R R' : Led} (S : Sit env ns l m R) (h : ∀ p ∈ R, p ∈ R') : Sit env ns l m R' := fun i x v hi hv =>
  ⟨(S i x v hi hv).1, fun hk => let ⟨c, o, h1, h2, h3⟩ := (S i x v hi hv).2 hk; ⟨c, o, h1, h _ h2, h3⟩⟩
theorem EV.goS {t : Sem α} {Q : α → Led → Prop} (h : EV w k env ns t l n Q) {A : Around} {g : Heap} {m : Str → Option Value} {R cs : Led} {s : Shared} (C : Cx w k A g env.locals m (R ++ (cs ++ n)) s.heap) (S : Sit env ns l m cs) {Q' : α → Shared → Prop} {X : Value → Shared → Prop}
    (hq : ∀ v n1 h1 tk, Cx w k A g env.locals m (R ++ (cs ++ n1)) h1 → Q v n1 → Q' v { s with heap := h1, toks := tk }) : wpAny (model PR w) A t Q' X s := by
  rw [← List.append_assoc] at C
  refine h.go C (S.mono fun p hp => List.mem_append_right _ hp) fun v n1 h1 tk C1 q => hq v n1 h1 tk ?_ q
  rwa [List.append_assoc] at C1
theorem OK.goS {t : Sem α} {Q : α → Led → Prop} (h : OK w k t n Q) {A : Around} {g : Heap} {L : Addr} {m : Str → Option Value} {R cs : Led} {s : Shared} (C : Cx w k A g L m (R ++ (cs ++ n)) s.heap) {Q' : α → Shared → Prop} {X : Value → Shared → Prop}
    (hq : ∀ v n1 h1 tk, Cx w k A g L m (R ++ (cs ++ n1)) h1 → Q v n1 → Q' v { s with heap := h1, toks := tk }) : wpAny (model PR w) A t Q' X s := by
  rw [← List.append_assoc] at C
  refine h.go C fun v n1 h1 tk C1 q => hq v n1 h1 tk ?_ q
  rwa [List.append_assoc] at C1
theorem SV.go {t : Sem α} {Q : α → Lc → Led → Prop} (h : SV w k env ns t l n Q) {A : Around} {g : Heap} {m : Str → Option Value} {R cs : Led} {s : Shared} (C : Cx w k A g env.locals m (R ++ (cs ++ n)) s.heap) (S : Sit env ns l m cs) (I : CellsIn env cs) {Q' : α → Shared → Prop} {X : Value → Shared → Prop}
    (hq : ∀ v l1 m1 cs1 n1 h1 tk, Cx w k A g env.locals m1 (R ++ (cs1 ++ n1)) h1 → Sit env ns l1 m1 cs1 → CellsIn env cs1 → Q v l1 n1 → Q' v { s with heap := h1, toks := tk }) : wpAny (model PR w) A t Q' X s := by
  refine wpAny_mono (h A g m R cs s C S I) ?_ fun _ _ x => x.elim
  rintro v _ ⟨l1, m1, cs1, n1, h1, tk, rfl, C1, S1, I1, q⟩
  exact hq v l1 m1 cs1 n1 h1 tk C1 S1 I1 q
theorem SV.mono {t : Sem α} {Q Q' : α → Lc → Led → Prop} (h : SV w k env ns t l n Q) (hq : ∀ v l' n', Q v l' n' → Q' v l' n') : SV w k env ns t l n Q' := fun A g m R cs s C S I =>
  h.go C S I fun v l1 m1 cs1 n1 h1 tk C1 S1 I1 q => ⟨l1, m1, cs1, n1, h1, tk, rfl, C1, S1, I1, hq _ _ _ q⟩
theorem SV.pure {a : α} {Q : α → Lc → Led → Prop} (h : Q a l n) : SV w k env ns (pure a) l n Q := fun A g m R cs s C S I => wpAny_pure ⟨l, m, cs, n, s.heap, s.toks, rfl, C, S, I, h⟩
theorem SV.bind {t : Sem α} {f : α → Sem β} {Q : β → Lc → Led → Prop} (h : SV w k env ns t l n fun v l' n' => SV w k env ns (f v) l' n' Q) : SV w k env ns (t >>= f) l n Q := fun A g m R cs s C S I =>
  wpAny_bind (h.go C S I fun v l1 m1 cs1 n1 h1 tk C1 S1 I1 q => q.go C1 S1 I1 fun b l2 m2 cs2 n2 h2 tk2 C2 S2 I2 q2 => ⟨l2, m2, cs2, n2, h2, tk2, rfl, C2, S2, I2, q2⟩)
theorem SV.ofE {t : Sem α} {Q : α → Led → Prop} (h : EV w k env ns t l n Q) : SV w k env ns t l n fun v l' n' => l' = l ∧ Q v n' := fun A g m R cs s C S I =>
  h.goS C S fun v n1 h1 tk C1 q => ⟨l, m, cs, n1, h1, tk, rfl, C1, S, I, rfl, q⟩
theorem SV.bindE {t : Sem α} {f : α → Sem β} {Q : β → Lc → Led → Prop} (h : EV w k env ns t l n fun v n' => SV w k env ns (f v) l n' Q) : SV w k env ns (t >>= f) l n Q :=
  SV.bind ((SV.ofE h).mono fun v l' n' ⟨e, q⟩ => by subst e; exact q)
theorem SV.hold {t : Sem α} {vs : List Value} {Q : α → Lc → Led → Prop} (h : SV w k env ns t l n Q) : SV w k env ns (holding vs t) l n Q := fun A g m R cs s C S I => wpAny_holding (h A g m R cs s C S I)
theorem SV.stand {p : Pos} {Q : Unit → Lc → Led → Prop} (h : Q () l n) : SV w k env ns (standAt p) l n Q := fun A g m R cs s C S I => wpAny_standAt ⟨l, m, cs, n, s.heap, s.toks, rfl, C, S, I, h⟩

theorem nodup_at {β : Type} : ∀ {l : List β} {x : β} {i j : Nat}, l.Nodup → l[i]? = some x → l[j]? = some x → i = j
  | [], x, i, j, _, h, _ => by simp at h
  | a :: r, x, i, j, nd, h, h' => by
    obtain ⟨n1, n2⟩ := List.nodup_cons.mp nd
    cases i with
    | zero =>
      cases j with
      | zero => rfl
      | succ j =>
        simp at h h'
        subst h
        exact absurd (List.mem_of_getElem? h') n1
    | succ i =>
      cases j with
      | zero =>
        simp at h h'
        subst h'
        exact absurd (List.mem_of_getElem? h) n1
      | succ j =>
        simp at h h'
        rw [nodup_at n2 h h']
theorem upd_mid {R cs n : Led} {c : Addr} {o o' : Obj} (nd : (keys (R ++ (cs ++ n))).Nodup) (hc : (c, o) ∈ cs) : upd c o' (R ++ (cs ++ n)) = R ++ (upd c o' cs ++ n) := by
  rw [keys_append, keys_append, List.nodup_append, List.nodup_append] at nd
  obtain ⟨_, ⟨_, _, h2⟩, h1⟩ := nd
  have hk : c ∈ keys cs := mem_keys hc
  rw [upd_append, upd_append, upd_off (fun q => h1 c q c (List.mem_append_left _ hk) rfl), upd_off (n := n) (fun q => h2 c hk c q rfl)]

/-- a numbered local is stored -/
theorem sv_store {i : Nat} {x : Str} {v : Value} {Q : Unit → Lc → Led → Prop} (E : EnvOk env sc) (ap : Ap env) (hnd : ns.Nodup) (hx : ns[i]? = some x) (hk : sc.names.lookup x = some .local ∨ sc.names.lookup x = some .cell)
    (h : Q () (lset i v l) n) : SV w k env ns (storeName env x v) l n Q := by
  intro A g m R cs s C S I
  have other : ∀ {j : Nat} {y : Str}, ns[j]? = some y → j ≠ i → y ≠ x := fun {j y} hj hn e => by
    subst e
    exact hn (nodup_at hnd hj hx)
  rcases hk with hk | hk
  · have hl := E.loc _ hk
    refine wpAny_storeName_local hl C.fr.ns (fun h' hn hs => ?_) (by rw [E.kind]; rfl)
    refine ⟨_, _, cs, n, h', _, rfl, C.set hn hs, fun j y u hj hu => ?_, I, h⟩
    by_cases hji : j = i
    · subst hji
      rw [hx] at hj; cases hj
      have : u = v := by unfold lset at hu; rw [if_pos rfl] at hu; exact (Option.some.inj hu).symm
      subst this
      exact ⟨fun _ => if_pos rfl, fun q => by rw [hl] at q; rcases q with q | q <;> cases q⟩
    · have hu' : l j = some u := by unfold lset at hu; rwa [if_neg hji] at hu
      obtain ⟨s1, s2⟩ := S j y u hj hu'
      exact ⟨fun q => (if_neg (other hj hji)).trans (s1 q), s2⟩
  · have hl := E.isCell _ hk
    obtain ⟨c, o, v0, hc, hm, hd⟩ := I _ hl
    have hmem : (c, o) ∈ R ++ (cs ++ n) := List.mem_append_right _ (List.mem_append_left _ hm)
    refine wpAny_storeName_cell E.kind hl hc ⟨o, C.at hmem, hd⟩ fun h' hcell hs => ?_
    obtain ⟨o', e', d'⟩ := hcell
    refine ⟨_, m, upd c o' cs, n, h', s.toks, rfl, ?_, fun j y u hj hu => ?_, fun y hy => ?_, h⟩
    · have := C.put hmem hs e'
      rwa [upd_mid C.nd hm] at this
    · by_cases hji : j = i
      · subst hji
        rw [hx] at hj; cases hj
        have : u = v := by unfold lset at hu; rw [if_pos rfl] at hu; exact (Option.some.inj hu).symm
        subst this
        exact ⟨fun q => (by rw [hl] at q; cases q), fun q => ⟨c, o', hc, mem_upd_self hm, d'⟩⟩
      · have hu' : l j = some u := by unfold lset at hu; rwa [if_neg hji] at hu
        obtain ⟨s1, s2⟩ := S j y u hj hu'
        refine ⟨s1, fun q => ?_⟩
        obtain ⟨c2, o2, a1, a2, a3⟩ := s2 q
        refine ⟨c2, o2, a1, mem_upd_ne a2 (fun e => other hj hji (ap _ _ c2 a1 (e ▸ hc))), a3⟩
    · obtain ⟨c2, o2, v2, a1, a2, a3⟩ := I y hy
      by_cases e : c2 = c
      · subst e
        exact ⟨c2, o', _, a1, mem_upd_self hm, d'⟩
      · exact ⟨c2, o2, v2, a1, mem_upd_ne a2 e, a3⟩
theorem sv_bind {i : Nat} {x : Str} {v : Value} {Q : Unit → Lc → Led → Prop} (E : EnvOk env sc) (ap : Ap env) (hnd : ns.Nodup) (hx : ns[i]? = some x) (hk : sc.names.lookup x = some .local ∨ sc.names.lookup x = some .cell)
    (h : Q () (lset i v l) n) : SV w k env ns (bindName env x v) l n Q := fun A g m R cs s C S I => wpAny_bindName (sv_store E ap hnd hx hk h A g m R cs s C S I)
theorem sv_assign {i : Nat} {x : Str} {px : Pos} {v : Value} {Q : Unit → Lc → Led → Prop} (E : EnvOk env sc) (ap : Ap env) (hnd : ns.Nodup) (hx : ns[i]? = some x) (hk : sc.names.lookup x = some .local ∨ sc.names.lookup x = some .cell)
    (h : Q () (lset i v l) n) : SV w k env ns (assign (.Name x px) env v) l n Q := fun A g m R cs s C S I => by
  rw [PySem.assign_Name]; exact wpAny_bind (wpAny_standAt (sv_bind E ap hnd hx hk h A g m R cs s C S I))

theorem idxOf_get {ns : List Str} {x : Str} {i : Nat} (h : ns.idxOf? x = some i) : ns[i]? = some x := by
  unfold List.idxOf? at h
  obtain ⟨h1, h2, _⟩ := List.findIdx?_eq_some_iff_getElem.mp h
  rw [List.getElem?_eq_getElem h1]
  simpa using h2
theorem cIdx_ok {x : Str} {i : Nat} (h : cIdx sc ns x = some i) : ns[i]? = some x ∧ (sc.names.lookup x = some .local ∨ sc.names.lookup x = some .cell) := by
  unfold cIdx at h
  split at h
  · rename_i q; exact ⟨idxOf_get h, .inl q⟩
  · rename_i q; exact ⟨idxOf_get h, .inr q⟩
  · cases h
theorem cTargets_len : ∀ {ts : List Expr} {is : List Nat}, cTargets sc ns ts = some is → is.length = ts.length ∧ (assignEach ts env).length = ts.length ∧ (assignEach ts env).findIdx? (·.1) = none
  | [], is, h => by cases h; exact ⟨rfl, rfl, rfl⟩
  | e :: r, is, h => by
    obtain ⟨x, p, i, is', rfl, hk, h1, h3, rfl⟩ := cTargets_cons h
    obtain ⟨a, b, c⟩ := cTargets_len h3
    refine ⟨by simp [a], ?_, ?_⟩
    · show (assignEach r env).length + 1 = _
      rw [b]; rfl
    · show ((false, assign (.Name x p) env) :: assignEach r env).findIdx? (·.1) = none
      rw [List.findIdx?_cons]
      simp [c]
theorem sv_inOrder (E : EnvOk env sc) (ap : Ap env) (hnd : ns.Nodup) : ∀ {ts : List Expr} {is : List Nat} {vs : List Value} {l : Lc} {Q : Unit → Lc → Led → Prop}, cTargets sc ns ts = some is → vs.length = ts.length →
    Q () (setAll is vs l) n → SV w k env ns (assignInOrder ((assignEach ts env).map (·.2)) vs) l n Q
  | [], is, vs, l, Q, h, hl, q => by
    cases h
    cases vs with
    | cons => cases hl
    | nil => exact SV.pure q
  | e :: r, is, vs, l, Q, h, hl, q => by
    obtain ⟨x, p, i, is', rfl, hk, h1, h3, rfl⟩ := cTargets_cons h
    cases vs with
    | nil => cases hl
    | cons v vs =>
      show SV w k env ns (assignInOrder (assign (.Name x p) env :: (assignEach r env).map (·.2)) (v :: vs)) l n Q
      unfold assignInOrder
      exact SV.bind (SV.hold (sv_assign E ap hnd (idxOf_get h1) (.inl hk) (sv_inOrder E ap hnd h3 (Nat.succ.inj hl) q)))
end
/-! Sound6 -/
section
variable {w : World} {k : Nat} {env : Env} {ns : List Str} {l : Lc} {n : Led} {sc : Scope}

theorem swaps_plain {e : Expr} (h : isLComp e = false) (t : Option Expr) (line : Nat) (env : Env) : swapsWith e t line env = pure false := by
  cases e <;> first | rfl | (simp [isLComp] at h)
theorem swaps_noName {e : Expr} {t : Expr} (ht : ∀ x p, t ≠ .Name x p) (line : Nat) (env : Env) (h : isLComp e = false) : swapsWith e (some t) line env = pure false := swaps_plain h _ _ _

theorem sv_expr {e : Expr} {pos : Pos} {Q : Flow → Lc → Led → Prop} (E : EnvOk env sc) (hc : isLComp e = false) (h : EV w k env ns (eval e env) l n fun v n1 => (∀ a, v ≠ .ref a) ∧ Q .next l n1) : SV w k env ns (exec (.Expr e pos) env) l n Q := by
  rw [exec_Expr env e pos (by unfold interactive; rw [E.kind]; rfl) (swaps_plain hc _ _ _)]
  refine SV.bind (SV.stand (SV.bindE (h.mono fun v n1 q => ?_)))
  rw [dropValue_plain q.1]
  exact SV.pure q.2
theorem sv_ret {e : Expr} {pos : Pos} {Q : Flow → Lc → Led → Prop} (h : EV w k env ns (eval e env) l n fun v n1 => Q (.ret v) l n1) : SV w k env ns (exec (.Return (some e) pos) env) l n Q := by
  rw [exec_Return_some]
  exact SV.bind (SV.stand (SV.bindE (h.mono fun v n1 q => SV.pure q)))
theorem sv_asg {e : Expr} {x : Str} {i : Nat} {px pos : Pos} {Q : Flow → Lc → Led → Prop} (E : EnvOk env sc) (ap : Ap env) (hnd : ns.Nodup) (hx : ns[i]? = some x) (hk : sc.names.lookup x = some .local ∨ sc.names.lookup x = some .cell)
    (hs : swapsWith e (some (.Name x px)) pos.line env = pure false) (h : EV w k env ns (eval e env) l n fun v n1 => Q .next (lset i v l) n1) : SV w k env ns (exec (.Assign [.Name x px] e pos) env) l n Q := by
  rw [exec_Assign_Name env x px e pos hs]
  exact SV.bind (SV.stand (SV.bindE (h.mono fun v n1 q => SV.bind (SV.stand (SV.bind (sv_bind E ap hnd hx hk (SV.pure q)))))))
theorem sv_asgComp {elt it : Expr} {x y : Str} {i : Nat} {px py pos spos : Pos} {ifs : List Expr} {csc : Scope} {Q : Flow → Lc → Led → Prop} (K : CompOk sc csc ns x) (E : EnvOk env sc) (ap : Ap env) (hnd : ns.Nodup) (hy : ns[i]? = some y)
    (hk : sc.names.lookup y = some .local) (hs : ∀ x, foldedSetIterable it env x = pure x)
    (hsw : swapsWith (.ListComp elt [⟨.Name x px, it, ifs, 0⟩] csc pos) (some (.Name y py)) spos.line env = pure true)
    (h : EV w k env ns (eval it env) l n fun v n1 => ∃ S : Src, S.val = v ∧ S.live n1 ∧ S.fits ∧ S.cnt ≤ sizeLine ∧ ∃ J : Nat → List Value → Led → Prop, J 0 [] n1 ∧
      ∀ i' ys n2, J i' ys n2 → S.live n2 ∧ (i' < S.cnt → ∀ y, S.item i' y → ∀ cl C, (∀ y, csc.names.lookup y = some .free → cl.lookup y = env.cells.lookup y) → EV w k (compEnvC csc cl C env) (ns ++ [x]) (testsTree ifs (compEnvC csc cl C env)) (lset ns.length y l) n2 fun b n3 => match b with
        | true => EV w k (compEnvC csc cl C env) (ns ++ [x]) (eval elt (compEnvC csc cl C env)) (lset ns.length y l) n3 fun z n4 => J (i' + 1) (ys ++ [z]) n4
        | false => J (i' + 1) ys n3) ∧ (i' = S.cnt → ∀ d, d ∉ keys n2 → Q .next (lset i (.ref d) l) ((d, listOf ys.toArray ys.length) :: n2))) :
    SV w k env ns (exec (.Assign [.Name y py] (.ListComp elt [⟨.Name x px, it, ifs, 0⟩] csc pos) spos) env) l n Q := fun A g m R cs s C S I => by
  rw [exec_Assign_Name_used _ _ _ _ hsw]
  refine wpAny_bind (wpAny_standAt (wpAny_bind ?_))
  show wpAny _ A (do let _ ← comprehension (.ListComp elt [⟨.Name x px, it, ifs, 0⟩] csc pos) csc env _ (newList []) false (eval it env) (some (assign (.Name y py) env))) _ _ s
  rw [← List.append_assoc] at C
  have S' : Sit env ns l m (R ++ cs) := S.mono fun p hp => List.mem_append_right _ hp
  refine wpAny_bind (wpAny_mono (comp_core (R := R ++ cs) (Q' := fun _ s' => SPost w k A g env ns R s (Q .next) s') K E hs C S' (h.mono fun v n1 q => ?_)) (fun _ s' q => wpAny_pure (wpAny_pure q)) fun _ _ x => x)
  obtain ⟨S1, e1, e2, e3, e4, J, j0, jt⟩ := q
  refine ⟨S1, e1, e2, e3, e4, J, j0, fun i' ys n2 hJ => ⟨(jt i' ys n2 hJ).1, (jt i' ys n2 hJ).2.1⟩, fun C' D h' tk m' ys n2 oL hL CC hJ => ?_⟩
  show wpAny _ A (assign (.Name y py) env (.ref D)) _ _ _
  have C1 := CC.leave hL C.fr.above
  obtain ⟨oC, eC, hC⟩ := nsObj_of CC.fr.ns
  have nd := List.nodup_cons.mp C1.nd
  have nC : C' ∉ keys ((D, lstOf ys) :: (R ++ cs ++ n2)) := fun hm => by
    obtain ⟨p, hp, e⟩ := List.mem_map.mp hm
    exact CC.notL (a := p.1) (o := p.2) (.tail _ hp) e
  have C2 := C1.cons eC (Ne.symm (CC.notL (.head _))) CC.get_g nC
  have C3 : Cx w k A g env.locals m (((C', oC) :: R) ++ (cs ++ ((D, lstOf ys) :: n2))) h' := by
    refine C2.perm (List.Perm.cons _ ?_)
    exact (perm_mid _ _ _).trans (List.Perm.of_eq (List.append_assoc _ _ _))
  refine SV.go (sv_assign (px := py) (v := .ref D) (Q := fun _ l' n' => Q .next l' n') E ap hnd hy (.inl hk) ((jt _ ys n2 hJ).2.2 rfl D fun hm => nd.1 ?_)) C3 S I fun _ l1 m1 cs1 n1 h1 tk1 CL SL IL q => ?_
  · show D ∈ keys (R ++ cs ++ n2)
    rw [keys_append]; exact List.mem_append_right _ hm
  · refine ⟨m', hC.ns (CL.at (.head _)), fun h3 hs3 => ⟨l1, m1, cs1, n1, h3, tk1, rfl, ?_, SL, IL, q⟩⟩
    exact Cx.lose (o := oC) CL hs3.extBut

end
/-! Sound7 -/
section
variable {w : World} {k : Nat} {env : Env} {ns : List Str} {l : Lc} {n : Led} {sc : Scope}
theorem sv_asgA {o e : Expr} {nm : Str} {ap pos : Pos} {Q : Flow → Lc → Led → Prop} (hc : isLComp e = false)
    (h : EV w k env ns (eval e env) l n fun v n1 => EV w k env ns (eval o env) l n1 fun x n2 => OK w k (setAttr x nm v) n2 fun _ n3 => Q .next l n3) : SV w k env ns (exec (.Assign [.Attribute o nm ap] e pos) env) l n Q := fun A g m R cs s C S I =>
  plainObj_wpAny_Assign_Attribute (h.goS C S fun v n1 h1 tk1 C1 q1 => q1.goS C1 S fun x n2 h2 tk2 C2 q2 => q2.goS C2 fun _ n3 h3 tk3 C3 q3 => ⟨l, m, cs, n3, h3, tk3, rfl, C3, S, I, q3⟩) (swaps_plain hc _ _ _)
theorem sv_asgI {o i e : Expr} {sp pos : Pos} {Q : Flow → Lc → Led → Prop} (hc : isLComp e = false)
    (h : EV w k env ns (eval e env) l n fun v n1 => EV w k env ns (eval o env) l n1 fun x n2 => EV w k env ns (eval i env) l n2 fun y n3 => OK w k (setItem x y v) n3 fun _ n4 => Q .next l n4) : SV w k env ns (exec (.Assign [.Subscript o i sp] e pos) env) l n Q := fun A g m R cs s C S I =>
  wpAny_Assign_Subscript (h.goS C S fun v n1 h1 tk1 C1 q1 => q1.goS C1 S fun x n2 h2 tk2 C2 q2 => q2.goS C2 S fun y n3 h3 tk3 C3 q3 => q3.goS C3 fun _ n4 h4 tk4 C4 q4 => ⟨l, m, cs, n4, h4, tk4, rfl, C4, S, I, q4⟩) (swaps_plain hc _ _ _)

theorem sv_unpack {ts : List Expr} {is : List Nat} {kk : Nat} {tp : Pos} {t : Addr} {its : Array Value} {Q : Unit → Lc → Led → Prop} (E : EnvOk env sc) (ap : Ap env) (hnd : ns.Nodup) (ht : cTargets sc ns ts = some is) (hm : (t, tupOf its) ∈ n) (hl : its.size = is.length)
    (q : Q () (setAll is its.toList l) n) : SV w k env ns (assign (.Tuple ts kk tp) env (.ref t)) l n Q := fun A g m R cs s C S I => by
  obtain ⟨a, b, c⟩ := cTargets_len (env := env) ht
  have hm' : (t, tupOf its) ∈ R ++ (cs ++ n) := List.mem_append_right _ (List.mem_append_right _ hm)
  refine assign_Tuple_tuple C.hd ⟨_, C.at hm', rfl, _, rfl⟩ (by rw [b, hl, a]) c fun h' he => ?_
  refine SV.go (sv_inOrder (vs := its.toList) E ap hnd ht (by simp [hl, a]) q) (s := { s with heap := h' }) (C.keeps fun b o e => he b o (Nat.ne_of_lt (Heap.lt_size e)) e) S I fun _ l1 m1 cs1 n1 h1 tk1 C1 S1 I1 q1 => ⟨l1, m1, cs1, n1, h1, tk1, rfl, C1, S1, I1, q1⟩
theorem sv_asgT {ts : List Expr} {is : List Nat} {kk : Nat} {tp pos : Pos} {e : Expr} {Q : Flow → Lc → Led → Prop} (E : EnvOk env sc) (ap : Ap env) (hnd : ns.Nodup) (ht : cTargets sc ns ts = some is) (hc : isLComp e = false) (hw : swappedStores [.Tuple ts kk tp] e env = pure none)
    (h : EV w k env ns (eval e env) l n fun v n1 => ∃ t its, v = .ref t ∧ (t, tupOf its) ∈ n1 ∧ its.size = is.length ∧ Q .next (setAll is its.toList l) n1) : SV w k env ns (exec (.Assign [.Tuple ts kk tp] e pos) env) l n Q := fun A g m R cs s C S I => by
  refine Assign_Tuple (h.goS C S fun v n1 h1 tk1 C1 q1 => ?_) (swaps_plain hc (some (.Tuple ts kk tp)) pos.line env) hw
  obtain ⟨t, its, rfl, hm, hl, q⟩ := q1
  exact SV.go (sv_unpack (Q := fun _ l' n' => Q .next l' n') E ap hnd ht hm hl q) C1 S I fun _ l1 m1 cs1 n1 h1 tk1 C1 S1 I1 q1 => ⟨l1, m1, cs1, n1, h1, tk1, rfl, C1, S1, I1, q1⟩

theorem sv_names (E : EnvOk env sc) (ap : Ap env) (hnd : ns.Nodup) : ∀ {xs : List Str} {is : List Nat} {vs : List Value} {l : Lc} {Q : Unit → Lc → Led → Prop}, is.map (fun i => ns[i]?) = xs.map some → (∀ x ∈ xs, sc.names.lookup x = some .local) → vs.length = xs.length →
    Q () (setAll is vs l) n → SV w k env ns (assignInOrder (xs.map fun n => bindName env n) vs) l n Q
  | [], is, vs, l, Q, h, _, hl, q => by
    simp at h; subst h
    simp at hl; subst hl
    exact SV.pure q
  | x :: r, is, vs, l, Q, h, hk, hl, q => by
    cases is with
    | nil => simp at h
    | cons i is =>
      simp only [List.map_cons, List.cons.injEq] at h
      cases vs with
      | nil => simp at hl
      | cons v vs =>
        show SV w k env ns (assignInOrder (bindName env x :: (r.map fun n => bindName env n)) (v :: vs)) l n Q
        unfold assignInOrder
        exact SV.bind (SV.hold (sv_bind E ap hnd h.1 (.inl (hk x (.head _))) (sv_names E ap hnd h.2 (fun y hy => hk y (.tail _ hy)) (by simpa using hl) q)))
end
/-! Sound8 -/
section
variable {w : World} {k : Nat} {env : Env} {ns : List Str} {l : Lc} {n : Led} {sc : Scope}
theorem tNames_name (x : Str) (p : Pos) (r : List Expr) : tNames (.Name x p :: r) = x :: tNames r := rfl
theorem sameLine_name (ln : Nat) (x : Str) (p : Pos) (r : List Expr) : sameLine ln (.Name x p :: r) = (p.line == ln && sameLine ln r) := rfl
theorem cTargets_names : ∀ {ts : List Expr} {is : List Nat}, cTargets sc ns ts = some is → is.map (fun i => ns[i]?) = (tNames ts).map some ∧ (∀ x ∈ tNames ts, sc.names.lookup x = some .local) ∧ (tNames ts).length = ts.length
  | [], is, h => by cases h; exact ⟨rfl, fun _ h => absurd h List.not_mem_nil, rfl⟩
  | e :: r, is, h => by
    obtain ⟨x, p, i, is', rfl, hk, h1, h3, rfl⟩ := cTargets_cons h
    obtain ⟨a, b, c⟩ := cTargets_names h3
    refine ⟨?_, fun y hy => ?_, by rw [tNames_name, List.length_cons, List.length_cons, c]⟩
    · show ns[i]? :: is'.map (fun i => ns[i]?) = some x :: (tNames r).map some
      rw [a, idxOf_get h1]
    · rcases List.mem_cons.mp hy with rfl | hy
      · exact hk
      · exact b y hy
theorem filter_names (E : EnvOk env sc) (ln : Nat) : ∀ {ts : List Expr} {is : List Nat}, cTargets sc ns ts = some is → sameLine ln ts = true →
    (ts.filterMap fun | .Name id pos => if (env.kindOf id == some .local && pos.line == ln) = true then some id else none | _ => none) = tNames ts
  | [], _, _, _ => rfl
  | e :: r, is, h, hl => by
    obtain ⟨x, p, i, is', rfl, hk, h1, h3, rfl⟩ := cTargets_cons h
    rw [sameLine_name, Bool.and_eq_true] at hl
    rw [List.filterMap_cons]
    have : (env.kindOf x == some NameKind.local && p.line == ln) = true := by
      rw [E.loc x hk, hl.1]; rfl
    simp only [this, if_true]
    rw [filter_names E ln h3 hl.2]; rfl
theorem swapped_ok {ts vs : List Expr} {is : List Nat} {kk k2 : Nat} {tp vp : Pos} (E : EnvOk env sc) (ht : cTargets sc ns ts = some is) (h1 : vs.length = ts.length) (h2 : vs.any isStar = false) (h3 : ts.length = 2) (h4 : sameLine (lineOf ts) ts = true)
    (h5 : ((tNames ts).eraseDups.length == (tNames ts).length) = true) (h6 : vs.all (foldedForSure 8) = false) (h7 : vs.all (constantsAlone 8) = false) : swappedStores [.Tuple ts kk tp] (.Tuple vs k2 vp) env = pure (some (tNames ts)) := by
  have hb : env.blockKind = .function := by unfold Env.blockKind; rw [E.kind]; rfl
  have e1 : (!(ts.length == 2 || ts.length == 3) || vs.length != ts.length || env.blockKind != .function) = false := by rw [h1, h3, hb]; rfl
  have e3 := filter_names E (lineOf ts) ht h4
  unfold lineOf at e3
  have e4 : ((tNames ts).length != ts.length || (tNames ts).eraseDups.length != (tNames ts).length) = false := by
    rw [(cTargets_names ht).2.2, (beq_iff_eq.mp h5), (cTargets_names ht).2.2]; simp
  unfold swappedStores
  dsimp only
  rw [if_neg (by rw [e1]; exact Bool.false_ne_true)]
  split
  · rename_i hq
    obtain ⟨e, he, hs⟩ := List.any_eq_true.mp hq
    have : vs.any isStar = true := List.any_eq_true.mpr ⟨e, he, by cases e <;> first | rfl | cases hs⟩
    rw [h2] at this; cases this
  · split
    · rename_i hq
      exfalso
      have hq' : ((tNames ts).length != ts.length || (tNames ts).eraseDups.length != (tNames ts).length) = true := by
        rw [← e3]; exact hq
      rw [e4] at hq'; cases hq'
    · rw [if_neg (by rw [h6]; exact Bool.false_ne_true), if_neg (by rw [h7]; exact Bool.false_ne_true)]
      exact congrArg (fun x => (pure (some x) : Sem (Option (List Str)))) e3
end
/-! Sound9 -/
section
variable {w : World} {k : Nat} {env : Env} {ns : List Str} {l : Lc} {n : Led} {sc : Scope}
theorem sv_asgR {ts vs : List Expr} {is : List Nat} {kk k2 : Nat} {tp vp pos : Pos} {Q : Flow → Lc → Led → Prop} (E : EnvOk env sc) (ap : Ap env) (hnd : ns.Nodup) (ht : cTargets sc ns ts = some is) (hw : swappedStores [.Tuple ts kk tp] (.Tuple vs k2 vp) env = pure (some (tNames ts)))
    (h : EV w k env ns (eval (.Tuple vs k2 vp) env) l n fun v n1 => ∃ t its, v = .ref t ∧ (t, tupOf its) ∈ n1 ∧ its.size = is.length ∧ Q .next (setAll is.reverse its.toList.reverse l) n1) : SV w k env ns (exec (.Assign [.Tuple ts kk tp] (.Tuple vs k2 vp) pos) env) l n Q := fun A g m R cs s C S I => by
  refine Assign_Tuple_swapped (h.goS C S fun v n1 h1 tk1 C1 q1 => ?_) rfl hw
  obtain ⟨t, its, rfl, hm, hl, q⟩ := q1
  have hm' : (t, tupOf its) ∈ R ++ (cs ++ n1) := List.mem_append_right _ (List.mem_append_right _ hm)
  obtain ⟨a, b, c⟩ := cTargets_names ht
  have hlen : (tNames ts).length = its.size := by rw [hl, c, (cTargets_len (env := env) ht).1]
  rw [hlen]
  refine unpackItems_tuple C1.hd ⟨_, C1.at hm', rfl, _, rfl⟩ fun h' he => ?_
  refine SV.go (sv_names (xs := (tNames ts).reverse) (is := is.reverse) (vs := its.toList.reverse) (Q := fun _ l' n' => Q .next l' n') E ap hnd (by rw [List.map_reverse, List.map_reverse, a]) (fun x hx => b x (List.mem_reverse.mp hx)) (by simp [hlen]) q) (s := { s with heap := h', toks := tk1 }) (C1.keeps fun b o e => he b o (Nat.ne_of_lt (Heap.lt_size e)) e) S I fun _ l1 m1 cs1 n1 h1 tk1 C1 S1 I1 q1 => ⟨l1, m1, cs1, n1, h1, tk1, rfl, C1, S1, I1, q1⟩
end
/-! Sound10 -/
section
variable {w : World} {k : Nat} {env : Env} {ns : List Str} {l : Lc} {n : Led} {sc : Scope}

theorem sv_if {t : Expr} {a b : List Stmt} {pos : Pos} {Q : Flow → Lc → Led → Prop} (h : EV w k env ns (isTrue t env (eval t env)) l n fun c n1 => match c with | true => SV w k env ns (execs a env) l n1 Q | false => SV w k env ns (execs b env) l n1 Q) :
    SV w k env ns (exec (.If t a b pos) env) l n Q := fun A g m R cs s C S I => by
  refine wpAny_If (h.goS C S fun c n1 h1 tk1 C1 q => ?_)
  cases c with
  | true => simp only [if_true]; exact SV.go q C1 S I fun _ l1 m1 cs1 n1 h1 tk1 C1 S1 I1 q1 => ⟨l1, m1, cs1, n1, h1, tk1, rfl, C1, S1, I1, q1⟩
  | false => simp only [Bool.false_eq_true, if_false]; exact SV.go q C1 S I fun _ l1 m1 cs1 n1 h1 tk1 C1 S1 I1 q1 => ⟨l1, m1, cs1, n1, h1, tk1, rfl, C1, S1, I1, q1⟩

theorem sv_while {t : Expr} {b : List Stmt} {pos : Pos} {Q : Flow → Lc → Led → Prop} (I : Nat → Lc → Led → Prop) (h0 : ∃ j, I j l n)
    (h : ∀ j l1 n1, I j l1 n1 → EV w k env ns (isTrue t env (eval t env)) l1 n1 fun c n2 => match c with
      | true => SV w k env ns (execs b env) l1 n2 fun f l3 n3 => match f with
          | .next | .cont => ∃ i, i < j ∧ I i l3 n3
          | .brk => Q .next l3 n3
          | .ret v => Q (.ret v) l3 n3
      | false => Q .next l1 n2) : SV w k env ns (exec (.While t b [] pos) env) l n Q := fun A g m R cs s C S CI => by
  obtain ⟨j0, hj0⟩ := h0
  refine wpAny_While (codeAny_whileLoop (fun j s' => SPost w k A g env ns R s (I j) s') ?_ j0 ⟨l, m, cs, n, s.heap, s.toks, rfl, C, S, CI, hj0⟩)
  rintro j _ ⟨l1, m1, cs1, n1, h1, tk1, rfl, C1, S1, I1, hj⟩
  refine (h j l1 n1 hj).goS C1 S1 fun c n2 h2 tk2 C2 q => ?_
  cases c with
  | false =>
    simp only [Bool.false_eq_true, if_false]
    exact wpAny_execs_nil ⟨l1, m1, cs1, n2, h2, tk2, rfl, C2, S1, I1, q⟩
  | true =>
    simp only [if_true]
    refine SV.go q C2 S1 I1 fun f l3 m3 cs3 n3 h3 tk3 C3 S3 I3 q3 => ?_
    cases f with
    | next => obtain ⟨i, hi, q⟩ := q3; exact ⟨i, hi, l3, m3, cs3, n3, h3, tk3, rfl, C3, S3, I3, q⟩
    | cont => obtain ⟨i, hi, q⟩ := q3; exact ⟨i, hi, l3, m3, cs3, n3, h3, tk3, rfl, C3, S3, I3, q⟩
    | brk => exact ⟨l3, m3, cs3, n3, h3, tk3, rfl, C3, S3, I3, q3⟩
    | ret v => exact ⟨l3, m3, cs3, n3, h3, tk3, rfl, C3, S3, I3, q3⟩

theorem sv_for {target it : Expr} {b : List Stmt} {pos : Pos} {Q : Flow → Lc → Led → Prop} (hs : ∀ x, foldedSetIterable it env x = pure x)
    (h : EV w k env ns (eval it env) l n fun v n1 => ∃ S : Src, S.val = v ∧ S.live n1 ∧ S.fits ∧ ∃ I : Nat → Lc → Led → Prop, I 0 l n1 ∧
      ∀ i l2 n2, I i l2 n2 → S.live n2 ∧ (i < S.cnt → ∀ y, S.item i y →
        (∀ (A : Around) (s : Shared) (it' : Addr) (oI : Obj) (X : Value → Shared → Prop) (P : Unit → Shared → Prop), S.isIt oI (i + 1) → s.heap.get? it' = some oI → P () s → wpAny (model PR w) A (letOwnedTupleGo target (.ref it') y) P X s) ∧
        SV w k env ns (assign target env y) l2 n2 fun _ l2 n2 => SV w k env ns (execs b env) l2 n2 fun f l3 n3 => match f with
          | .next | .cont => I (i + 1) l3 n3
          | .brk => Q .next l3 n3
          | .ret v => Q (.ret v) l3 n3) ∧ (i = S.cnt → Q .next l2 n2)) : SV w k env ns (exec (.For target it b [] pos) env) l n Q := fun A g m R cs s C S CI => by
  refine wpAny_For (h.goS C S fun v n1 h1 tk1 C1 q => ?_) hs
  obtain ⟨Sr, rfl, hlive, hfits, I, i0, tn⟩ := q
  refine src_iter C1 (Src.live_mono hlive fun p hp => List.mem_append_right _ (List.mem_append_right _ hp)) hfits fun It oI h2 hI C2 keep2 => ?_
  refine codeAny_forLoop_any (fun kk s' => ∃ i l2 m2 cs2 n2 h2 tk oI, s' = { s with heap := h2, toks := tk } ∧ i ≤ Sr.cnt ∧ kk = Sr.cnt + 1 - i ∧ Sr.isIt oI i ∧ Cx w k A g env.locals m2 ((It, oI) :: (R ++ (cs2 ++ n2))) h2 ∧ Sit env ns l2 m2 cs2 ∧ CellsIn env cs2 ∧ I i l2 n2)
    ?_ (Sr.cnt + 1) ⟨0, l, m, cs, n1, h2, tk1, oI, rfl, Nat.zero_le _, rfl, hI, C2, S, CI, i0⟩
  rintro kk _ ⟨i, l2, m2, cs2, n2, h2, tk, oI, rfl, hi, rfl, hI, CC, SS, II, hJ⟩
  obtain ⟨jl, jb, je⟩ := tn i l2 n2 hJ
  refine src_next hI hi CC (Src.live_mono jl fun p hp => List.mem_append_right _ (List.mem_append_right _ hp)) (fun hlt v oI2 h2' tk2 hv hI2 CC2 => ?_) fun he h2' CC2 => ?_
  · obtain ⟨own, asg⟩ := jb hlt v hv
    refine own A _ It oI2 _ _ hI2 (CC2.at (.head _)) ?_
    refine SV.go (R := (It, oI2) :: R) asg CC2 SS II fun _ l3 m3 cs3 n3 h3 tk3 C3 S3 I3 q3 => ?_
    refine SV.go q3 C3 S3 I3 fun f l4 m4 cs4 n4 h4 tk4 C4 S4 I4 q4 => ?_
    cases f with
    | next => exact ⟨Sr.cnt + 1 - (i + 1), by omega, i + 1, l4, m4, cs4, n4, h4, tk4, oI2, rfl, hlt, rfl, hI2, C4, S4, I4, q4⟩
    | cont => exact ⟨Sr.cnt + 1 - (i + 1), by omega, i + 1, l4, m4, cs4, n4, h4, tk4, oI2, rfl, hlt, rfl, hI2, C4, S4, I4, q4⟩
    | brk => exact ⟨l4, m4, cs4, n4, h4, tk4, rfl, C4.sub (List.sublist_cons_self _ _), S4, I4, q4⟩
    | ret v => exact ⟨l4, m4, cs4, n4, h4, tk4, rfl, C4.sub (List.sublist_cons_self _ _), S4, I4, q4⟩
  · exact wpAny_execs_nil ⟨l2, m2, cs2, n2, h2', tk, rfl, CC2, SS, II, je he⟩
theorem sv_cons {s : Stmt} {r : List Stmt} {Q : Flow → Lc → Led → Prop} (h : SV w k env ns (exec s env) l n fun f l1 n1 => match f with | .next => SV w k env ns (execs r env) l1 n1 Q | f => Q f l1 n1) : SV w k env ns (execs (s :: r) env) l n Q := fun A g m R cs st C S I => by
  refine wpAny_execs_cons (h.go C S I fun f l1 m1 cs1 n1 h1 tk1 C1 S1 I1 q1 => ?_)
  cases f with
  | next => exact SV.go q1 C1 S1 I1 fun _ l1 m1 cs1 n1 h1 tk1 C1 S1 I1 q1 => ⟨l1, m1, cs1, n1, h1, tk1, rfl, C1, S1, I1, q1⟩
  | brk => exact ⟨l1, m1, cs1, n1, h1, tk1, rfl, C1, S1, I1, q1⟩
  | cont => exact ⟨l1, m1, cs1, n1, h1, tk1, rfl, C1, S1, I1, q1⟩
  | ret v => exact ⟨l1, m1, cs1, n1, h1, tk1, rfl, C1, S1, I1, q1⟩
end
/-! Sound11 -/
section
variable {w : World} {k : Nat}
theorem isLComp_of {KP : Frag} {f : Nat} {sc : Scope} {ns : List Str} {e : Expr} {ce : Ex} (h : cE KP f sc ns e = some ce) (hc : isLComp e = true) : ∃ elt gens csc pos, e = .ListComp elt gens csc pos := by
  cases e with
  | ListComp elt gens csc pos => exact ⟨_, _, _, _, rfl⟩
  | SetComp => cases f <;> cases h
  | DictComp => cases f <;> cases h
  | _ => exact false_ne hc
theorem swapped_none {ts : List Expr} {kk : Nat} {tp : Pos} {e : Expr} {env : Env} (h : isTuple e = false) : swappedStores [.Tuple ts kk tp] e env = pure none := by
  cases e <;> first | rfl | cases h
theorem swapped_four {ts vs : List Expr} {kk k2 : Nat} {tp vp : Pos} {env : Env} (h : ts.length = 4) : swappedStores [.Tuple ts kk tp] (.Tuple vs k2 vp) env = pure none := by
  unfold swappedStores
  dsimp only
  rw [if_pos (by rw [h]; rfl)]
theorem isStar_of {e : Expr} (h : isLComp e = true) {KP : Frag} : isTuple e = false := by cases e <;> first | rfl | cases h

theorem sAsg {f : Nat} {sc : Scope} {ns : List Str} {env : Env} {x : Str} {px pos : Pos} {e : Expr} {i : Nat} {c : Ex} {l : Lc} {n : Led} {Q : Flow → Lc → Led → Prop} (E : EnvOk env sc) (ap : Ap env) (hnd : ns.Nodup)
    (h0 : (isLComp e && !swapOne sc x px e && sc.names.lookup x != some .cell) = false) (h1 : cIdx sc ns x = some i) (h2 : cE (KK w.params) f sc ns e = some c) (q : wE w k c l n fun v n1 => Q .next (lset i v l) n1) :
    SV w k env ns (exec (.Assign [.Name x px] e pos) env) l n Q := by
  obtain ⟨hx, hk⟩ := cIdx_ok h1
  by_cases hc : isLComp e = true
  · obtain ⟨elt, gens, csc, cp, rfl⟩ := isLComp_of h2 hc
    obtain ⟨f, rfl⟩ : ∃ f', f = f' + 1 := by
      cases f with
      | zero => cases h2
      | succ f => exact ⟨f, rfl⟩
    obtain ⟨y, py, it, ifs, ci, cel, rfl, K, a1, a2, a3⟩ := cE_comp h2
    by_cases hcell : sc.names.lookup x = some .cell
    · refine sv_asg E ap hnd hx hk ?_ ((sE _ sc ns env E _ _ h2).1 _ _ _ q)
      show (pure (env.blockKind == .function && env.kindOf x == some .local && _ && _) : Sem Bool) = _
      rw [E.isCell x hcell]
      have : (some NameKind.cell == some NameKind.local) = false := rfl
      rw [this]; simp
    · have hl : sc.names.lookup x = some .local := hk.elim id fun z => absurd z hcell
      have hsw : swapOne sc x px (.ListComp elt [⟨.Name y py, it, ifs, 0⟩] csc cp) = true := by
        cases z : swapOne sc x px (.ListComp elt [⟨.Name y py, it, ifs, 0⟩] csc cp) with
        | true => rfl
        | false =>
          rw [hc, z, hl] at h0
          cases h0
      refine sv_asgComp (Q := Q) K E ap hnd hx hl (fold_ok a1 env) ?_ (comp_hyp E K (fun e ce h => (sE f sc ns env E e ce h).1) (fun env' E' e ce h => sE f csc (ns ++ [y]) env' E' e ce h) a1 a2 a3 q)
      simp only [swapOne, Bool.and_eq_true] at hsw
      have hb : env.blockKind = .function := by unfold Env.blockKind; rw [E.kind]; rfl
      show (pure (env.blockKind == .function && env.kindOf x == some .local && px.line == cp.line && !(csc.names.any fun y => y.1 == x && (y.2 == .local || y.2 == .cell))) : Sem Bool) = _
      rw [hb, E.loc x hl]
      have e1 : (px.line == cp.line) = true := hsw.1.2
      have e2 : (!(csc.names.any fun y => y.1 == x && (y.2 == .local || y.2 == .cell))) = true := hsw.2
      rw [e1, e2]; rfl
  · rw [Bool.not_eq_true] at hc
    exact sv_asg E ap hnd hx hk (swaps_plain hc _ _ _) ((sE _ sc ns env E _ _ h2).1 _ _ _ q)

theorem sAsgn {f : Nat} {sc : Scope} {ns : List Str} {env : Env} {t e : Expr} {pos : Pos} {cs : St} {l : Lc} {n : Led} {Q : Flow → Lc → Led → Prop} (E : EnvOk env sc) (ap : Ap env) (hnd : ns.Nodup)
    (h : cS (KK w.params) (f + 1) sc ns (.Assign [t] e pos) = some cs) (q : wS w k cs l n Q) : SV w k env ns (exec (.Assign [t] e pos) env) l n Q := by
  have h : (match (generalizing := false) nameOf t with
          | some (x, px) => if (isLComp e && !swapOne sc x px e && sc.names.lookup x != some .cell) = true then none else (cIdx sc ns x).bind fun i => (cE (KK w.params) f sc ns e).map fun c => St.asg i c
          | none => match (generalizing := false) attrOf t with
            | some (o, nm, _) => if isLComp e = true then none else (cE (KK w.params) f sc ns e).bind fun c => (cE (KK w.params) f sc ns o).map fun a => St.asgA a nm c
            | none => match (generalizing := false) subOf t with
              | some (o, i, _) => if (isLComp e || isSlice i) = true then none else (cE (KK w.params) f sc ns e).bind fun c => (cE (KK w.params) f sc ns o).bind fun a => (cE (KK w.params) f sc ns i).map fun b => St.asgI a b c
              | none => match (generalizing := false) tupleOf t with
                | none => none
                | some (ts, _, _) => (cTargets sc ns ts).bind fun is => (cE (KK w.params) f sc ns e).bind fun c => match (generalizing := false) tupleOf e with
                  | some (vs, _, _) => if (vs.length != ts.length || vs.any isStar) = true then none
                      else if (ts.length == 4) = true then some (St.asgT is c)
                      else if (!(ts.length == 2 && sameLine (lineOf ts) ts && (tNames ts).eraseDups.length == (tNames ts).length && !(vs.all (foldedForSure 8)) && !(vs.all (constantsAlone 8)))) = true then none
                      else some (St.asgR is c)
                  | none => if (isTuple e || isLComp e) = true then none else some (St.asgT is c)) = some cs := h
  cases hn : nameOf t with
  | some qn =>
    obtain ⟨x, px⟩ := qn
    rw [hn] at h
    cases nameOf_some hn
    obtain ⟨h0, h⟩ := ite_none h
    obtain ⟨i, h1, h2⟩ := Option.bind_eq_some_iff.mp h
    obtain ⟨c, h3, rfl⟩ := Option.map_eq_some_iff.mp h2
    replace q := wS_asg q
    exact sAsg E ap hnd h0 h1 h3 q
  | none =>
  rw [hn] at h
  cases ha : attrOf t with
  | some qa =>
    obtain ⟨o, nm, p⟩ := qa
    rw [ha] at h
    cases attrOf_some ha
    obtain ⟨hc, h⟩ := ite_none h
    obtain ⟨c, h1, h2⟩ := Option.bind_eq_some_iff.mp h
    obtain ⟨a, h3, rfl⟩ := Option.map_eq_some_iff.mp h2
    replace q := wS_asgA q
    exact sv_asgA hc (((sE f sc ns env E _ _ h1).1 _ _ _ q).mono fun v n1 q => ((sE f sc ns env E _ _ h3).1 _ _ _ q).mono fun x n2 q => q)
  | none =>
  rw [ha] at h
  cases hs : subOf t with
  | some qs =>
    obtain ⟨o, i, p⟩ := qs
    rw [hs] at h
    cases subOf_some hs
    obtain ⟨hc, h⟩ := ite_none h
    simp only [Bool.or_eq_false_iff] at hc
    obtain ⟨c, h1, h2⟩ := Option.bind_eq_some_iff.mp h
    obtain ⟨a, h3, h4⟩ := Option.bind_eq_some_iff.mp h2
    obtain ⟨b, h5, rfl⟩ := Option.map_eq_some_iff.mp h4
    replace q := wS_asgI q
    exact sv_asgI hc.1 (((sE f sc ns env E _ _ h1).1 _ _ _ q).mono fun v n1 q => ((sE f sc ns env E _ _ h3).1 _ _ _ q).mono fun x n2 q => ((sE f sc ns env E _ _ h5).1 _ _ _ q).mono fun y n3 q => q)
  | none =>
  rw [hs] at h
  cases ht : tupleOf t with
  | none => rw [ht] at h; cases h
  | some qt =>
  obtain ⟨ts, kk, tp⟩ := qt
  rw [ht] at h
  cases tupleOf_some ht
  obtain ⟨is, h1, h2⟩ := Option.bind_eq_some_iff.mp h
  obtain ⟨c, h3, h4⟩ := Option.bind_eq_some_iff.mp h2
  cases he : tupleOf e with
  | none =>
    rw [he] at h4
    obtain ⟨hc, h4⟩ := ite_none h4
    simp only [Bool.or_eq_false_iff] at hc
    cases h4
    replace q := wS_asgT q
    exact sv_asgT E ap hnd h1 hc.2 (swapped_none hc.1) ((sE f sc ns env E _ _ h3).1 _ _ _ q)
  | some qe =>
    obtain ⟨vs, k2, vp⟩ := qe
    rw [he] at h4
    cases tupleOf_some he
    obtain ⟨hv, h4⟩ := ite_none h4
    simp only [Bool.or_eq_false_iff, bne_eq_false_iff_eq] at hv
    by_cases hl : (ts.length == 4) = true
    · rw [if_pos hl] at h4
      cases h4
      replace q := wS_asgT q
      exact sv_asgT E ap hnd h1 rfl (swapped_four (beq_iff_eq.mp hl)) ((sE f sc ns env E _ _ h3).1 _ _ _ q)
    · rw [if_neg hl] at h4
      obtain ⟨hl, h4⟩ := ite_none h4
      simp only [Bool.not_eq_false', Bool.and_eq_true, Bool.not_eq_true'] at hl
      obtain ⟨⟨⟨⟨l1, l2⟩, l3⟩, l4⟩, l5⟩ := hl
      cases h4
      replace q := wS_asgR q
      exact sv_asgR E ap hnd h1 (swapped_ok E h1 hv.1 hv.2 (beq_iff_eq.mp l1) l2 l3 l4 l5) ((sE f sc ns env E _ _ h3).1 _ _ _ q)

structure SS1 (w : World) (k : Nat) (env : Env) (ns : List Str) (s : Stmt) (cs : St) : Prop where
  go : ∀ (l : Lc) (n : Led) (Q : Flow → Lc → Led → Prop), wS w k cs l n Q → SV w k env ns (exec s env) l n Q
structure SB1 (w : World) (k : Nat) (env : Env) (ns : List Str) (b : List Stmt) (cb : Sts) : Prop where
  go : ∀ (l : Lc) (n : Led) (Q : Flow → Lc → Led → Prop), wB w k cb l n Q → SV w k env ns (execs b env) l n Q
structure SSB (w : World) (k f : Nat) (sc : Scope) (ns : List Str) (env : Env) : Prop where
  s : ∀ (s : Stmt) (cs : St), cS (KK w.params) f sc ns s = some cs → SS1 w k env ns s cs
  b : ∀ (b : List Stmt) (cb : Sts), cB (KK w.params) f sc ns b = some cb → SB1 w k env ns b cb
theorem sSB : ∀ (f : Nat) (sc : Scope) (ns : List Str) (env : Env), EnvOk env sc → Ap env → ns.Nodup →
    SSB w k f sc ns env
  | 0, _, _, _, _, _, _ => ⟨(fun _ _ h => nomatch h), (fun _ _ h => nomatch h)⟩
  | f + 1, sc, ns, env, E, ap, hnd => by
    obtain ⟨ihS, ihB⟩ := sSB f sc ns env E ap hnd
    refine ⟨fun s cs h => ?_, fun b cb h => ?_⟩
    · cases s with
      | Expr e pos =>
        obtain ⟨hc, h⟩ := ite_none h
        obtain ⟨c, h1, rfl⟩ := Option.map_eq_some_iff.mp h
        refine ⟨fun l n Q q => ?_⟩
        replace q := wS_expr q
        exact sv_expr E hc ((sE f sc ns env E _ _ h1).1 _ _ _ q)
      | Return v pos =>
        cases v with
        | none => cases h
        | some e =>
          obtain ⟨c, h1, rfl⟩ := Option.map_eq_some_iff.mp h
          refine ⟨fun l n Q q => ?_⟩
          replace q := wS_ret q
          exact sv_ret ((sE f sc ns env E _ _ h1).1 _ _ _ q)
      | Assign tg e pos =>
        cases tg with
        | nil => cases h
        | cons t rr =>
        cases rr with
        | cons => cases h
        | nil => exact ⟨fun l n Q q => sAsgn E ap hnd h q⟩
      | If t a b pos =>
        obtain ⟨x, h1, h2⟩ := Option.bind_eq_some_iff.mp h
        obtain ⟨y, h3, h4⟩ := Option.bind_eq_some_iff.mp h2
        obtain ⟨z, h5, rfl⟩ := Option.map_eq_some_iff.mp h4
        refine ⟨fun l n Q q => ?_⟩
        replace q := wS_ite q
        refine sv_if (((sE f sc ns env E _ _ h1).2 _ _ _ q).mono fun c n1 q => ?_)
        cases c with
        | true => exact (ihB _ _ h3).go _ _ _ q
        | false => exact (ihB _ _ h5).go _ _ _ q
      | While t b els pos =>
        cases els with
        | cons => cases h
        | nil =>
        obtain ⟨x, h1, h2⟩ := Option.bind_eq_some_iff.mp h
        obtain ⟨y, h3, rfl⟩ := Option.map_eq_some_iff.mp h2
        refine ⟨fun l n Q q => ?_⟩
        replace q := wS_loop q
        obtain ⟨I, i0, it⟩ := q
        refine sv_while I i0 fun j l1 n1 hI => ((sE f sc ns env E _ _ h1).2 _ _ _ (it j l1 n1 hI)).mono fun c n2 q => ?_
        cases c with
        | true => exact ((ihB _ _ h3).go _ _ _ q).mono fun f l3 n3 q => by cases f <;> exact q
        | false => exact q
      | For t it b els pos =>
        cases els with
        | cons => cases h
        | nil =>
        have h : (match (generalizing := false) nameOf t with
          | some (x, _) => if (sc.names.lookup x != some .local) = true then none else (ns.idxOf? x).bind fun i => (cE (KK w.params) f sc ns it).bind fun c => (cB (KK w.params) f sc ns b).map fun y => St.each i c y
          | none => match (generalizing := false) tupleOf t with
            | none => none
            | some (ts, _, _) => (cTargets sc ns ts).bind fun is => (cE (KK w.params) f sc ns it).bind fun c => (cB (KK w.params) f sc ns b).map fun y => St.eachT is c y) = some cs := h
        cases hn : nameOf t with
        | some qn =>
          obtain ⟨x, px⟩ := qn
          rw [hn] at h
          cases nameOf_some hn
          obtain ⟨hk, h⟩ := ite_none h
          simp only [bne_eq_false_iff_eq] at hk
          obtain ⟨i, h1, h2⟩ := Option.bind_eq_some_iff.mp h
          obtain ⟨c, h3, h4⟩ := Option.bind_eq_some_iff.mp h2
          obtain ⟨y, h5, rfl⟩ := Option.map_eq_some_iff.mp h4
          refine ⟨fun l n Q q => ?_⟩
          replace q := wS_each q
          refine sv_for (fold_ok h3 env) (((sE f sc ns env E _ _ h3).1 _ _ _ q).mono fun v n1 q => ?_)
          obtain ⟨S, e1, e2, e3, J, j0, jt⟩ := q
          refine ⟨S, e1, e2, e3, J, j0, fun i' l2 n2 hJ => ?_⟩
          obtain ⟨t1, t2, t3⟩ := jt i' l2 n2 hJ
          refine ⟨t1, fun hi y hy => ⟨fun A s it' oI X P _ _ hP => wpAny_pure hP, ?_⟩, t3⟩
          exact sv_assign E ap hnd (idxOf_get h1) (.inl hk) (((ihB _ _ h5).go _ _ _ (t2 hi y hy)).mono fun f l3 n3 q => by cases f <;> exact q)
        | none =>
          rw [hn] at h
          cases ht : tupleOf t with
          | none => rw [ht] at h; cases h
          | some qt =>
          obtain ⟨ts, kk, tp⟩ := qt
          rw [ht] at h
          cases tupleOf_some ht
          obtain ⟨is, h1, h2⟩ := Option.bind_eq_some_iff.mp h
          obtain ⟨c, h3, h4⟩ := Option.bind_eq_some_iff.mp h2
          obtain ⟨y, h5, rfl⟩ := Option.map_eq_some_iff.mp h4
          refine ⟨fun l n Q q => ?_⟩
          replace q := wS_eachT q
          refine sv_for (fold_ok h3 env) (((sE f sc ns env E _ _ h3).1 _ _ _ q).mono fun v n1 q => ?_)
          obtain ⟨lA, its0, ep, rfl, e2, J, j0, jt⟩ := q
          refine ⟨.list lA its0 ep, rfl, e2, trivial, J, j0, fun i' l2 n2 hJ => ?_⟩
          obtain ⟨t1, t2, t3⟩ := jt i' l2 n2 hJ
          refine ⟨t1, fun hi y hy => ?_, t3⟩
          obtain ⟨t, its, rfl, hm, hl, q⟩ := t2 hi y hy
          refine ⟨fun A s it' oI X P hI hg hP => wpAny_letOwnedTupleGo_listiter ⟨oI, hg, hI⟩ hP, ?_⟩
          exact sv_unpack E ap hnd h1 hm hl (((ihB _ _ h5).go _ _ _ q).mono fun f l3 n3 q => by cases f <;> exact q)
      | _ => cases h
    · cases b with
      | nil =>
        cases h
        refine ⟨fun l n Q q => ?_⟩
        replace q := wB_nil q
        exact SV.pure q
      | cons s r =>
        obtain ⟨a, h1, h2⟩ := Option.bind_eq_some_iff.mp h
        obtain ⟨b, h3, rfl⟩ := Option.map_eq_some_iff.mp h2
        refine ⟨fun l n Q q => ?_⟩
        replace q := wB_cons q
        refine sv_cons (((ihS _ _ h1).go _ _ _ q).mono fun f l1 n1 q => ?_)
        cases f with
        | next => exact (ihB _ _ h3).go _ _ _ q
        | brk => exact q
        | cont => exact q
        | ret v => exact q
end
/-! Call1 -/
theorem cellsFrom_has : ∀ (names : List (Str × NameKind)) (n : Nat) (acc : List (Str × Addr)) (x : Str), ((x, NameKind.cell) ∈ names ∨ x ∈ acc.map (·.1)) → ∃ c, (cellsFrom n names acc).lookup x = some c
  | [], n, acc, x, h => by
    rcases h with h | h
    · cases h
    · unfold cellsFrom
      cases q : acc.lookup x with
      | some c => exact ⟨c, rfl⟩
      | none =>
        obtain ⟨p, hp, e⟩ := List.mem_map.mp h
        have := List.lookup_eq_none_iff.mp q p hp
        simp [e] at this
  | (y, kd) :: r, n, acc, x, h => by
    unfold cellsFrom
    by_cases hk : kd = .cell
    · rw [if_pos (by simp [hk])]
      refine cellsFrom_has r _ _ x ?_
      rcases h with h | h
      · rcases List.mem_cons.mp h with e | h
        · cases e; exact .inr (.head _)
        · exact .inl h
      · exact .inr (.tail _ h)
    · rw [if_neg (by simpa using hk)]
      refine cellsFrom_has r _ _ x ?_
      rcases h with h | h
      · rcases List.mem_cons.mp h with e | h
        · cases e; exact absurd rfl hk
        · exact .inl h
      · exact .inr h

theorem bindL_get (kf : Str → Option NameKind) : ∀ (binds : List (Str × Value)) (m : Str → Option Value) (x : Str) (v : Value), kf x = some .local → (binds.map (·.1)).Nodup → ((x, v) ∈ binds ∨ (x ∉ binds.map (·.1) ∧ m x = some v)) → bindL kf binds m x = some v
  | [], m, x, v, _, _, h => by
    rcases h with h | h
    · cases h
    · exact h.2
  | (y, u) :: r, m, x, v, hk, hnd, h => by
    obtain ⟨n1, n2⟩ := List.nodup_cons.mp hnd
    unfold bindL
    refine bindL_get kf r _ x v hk n2 ?_
    rcases h with h | ⟨h1, h2⟩
    · rcases List.mem_cons.mp h with e | h
      · cases e
        exact .inr ⟨n1, by rw [if_pos hk]; exact if_pos rfl⟩
      · exact .inl h
    · refine .inr ⟨fun q => h1 (.tail _ q), ?_⟩
      have hxy : x ≠ y := fun e => h1 (e ▸ List.Mem.head _)
      split
      · exact (if_neg hxy).trans h2
      · exact h2
theorem bindC_get (kf : Str → Option NameKind) : ∀ (binds : List (Str × Value)) (m : Str → Option Value) (x : Str) (v : Value), kf x ≠ some .local → (binds.map (·.1)).Nodup → ((x, v) ∈ binds ∨ (x ∉ binds.map (·.1) ∧ m x = some v)) → bindC kf binds m x = some v
  | [], m, x, v, _, _, h => by
    rcases h with h | h
    · cases h
    · exact h.2
  | (y, u) :: r, m, x, v, hk, hnd, h => by
    obtain ⟨n1, n2⟩ := List.nodup_cons.mp hnd
    unfold bindC
    refine bindC_get kf r _ x v hk n2 ?_
    rcases h with h | ⟨h1, h2⟩
    · rcases List.mem_cons.mp h with e | h
      · cases e
        exact .inr ⟨n1, by rw [if_neg hk]; exact if_pos rfl⟩
      · exact .inl h
    · refine .inr ⟨fun q => h1 (.tail _ q), ?_⟩
      have hxy : x ≠ y := fun e => h1 (e ▸ List.Mem.head _)
      split
      · exact h2
      · exact (if_neg hxy).trans h2

/-- the locals with which a call begins -/
noncomputable def initL (vals : List Value) : Lc := fun i => vals[i]?

/-- the conditions upon a def of the text that are decided by looking -/
noncomputable def fnOk (KP : Frag) (fd : FuncData) (ns : List Str) (np : Nat) : Bool :=
  fd.scope.kind == .function && !fd.scope.isCoroutine && !fd.scope.isGenerator && fd.closure.isEmpty && fd.globals == mainGlobals && fd.builtins == builtinsNs && codeIn KP fd.code fd.qualname &&
  decide ns.Nodup && decide (fd.scope.names.map (·.1)).Nodup && decide ((cellsFrom 0 fd.scope.names []).map (·.1)).Nodup &&
  (ns.take np).all (fun x => fd.scope.names.lookup x == some .local || fd.scope.names.lookup x == some .cell) && fd.scope.names.all (fun y => y.2 != .free)

noncomputable def retOf : Flow → Value
  | .ret v => v
  | _ => .none

theorem cells_led {h₀ h : Heap} {L : Addr} {cm : Str → Option Value} : ∀ {cs : List (Str × Addr)} {cells : Led}, CellsAre cm cs cells → keys cells = cs.map (·.2) ∧ ∀ x c, (x, c) ∈ cs → ∃ o, (c, o) ∈ cells ∧ o.data = .cell (cm x)
  | _, _, .nil => ⟨rfl, fun _ _ h => nomatch h⟩
  | _, _, .cons (n := n) (c := c) (o := o) hd r => by
    obtain ⟨h1, h2⟩ := cells_led (h₀ := h₀) (h := h) (L := L) r
    refine ⟨by show c :: keys _ = c :: _; rw [h1], fun x c' hm => ?_⟩
    rcases List.mem_cons.mp hm with e | hm
    · cases e; exact ⟨o, .head _, hd⟩
    · obtain ⟨o', a, b⟩ := h2 x c' hm
      exact ⟨o', .tail _ a, b⟩

/-- the call itself, not behind the tree of a call -/
noncomputable def CallOK (w : World) (k : Nat) (f : Value) (vals : List Value) (n : Led) (Q : Value → Led → Prop) : Prop :=
  ∀ A g L m R s, Cx w k A g L m (R ++ n) s.heap → ∀ RR : Result → Shared → Prop, (∀ v s', Post w k A g L m R s (Q v) s' → RR (.ok (.ret v)) s') → codeAny (model PR w) A (.call f ⟨vals, []⟩) RR s
theorem CallOK.ok {w : World} {k : Nat} {f : Value} {vals : List Value} {n : Led} {Q : Value → Led → Prop} (h : CallOK w k f vals n Q) : OK w k (call f vals) n Q := fun A g L m R s C => wpAny_call (h A g L m R s C _ fun _ _ p => p)
theorem CallOK.mono {w : World} {k : Nat} {f : Value} {vals : List Value} {n : Led} {Q Q' : Value → Led → Prop} (h : CallOK w k f vals n Q) (hq : ∀ v n', Q v n' → Q' v n') : CallOK w k f vals n Q' := fun A g L m R s C RR hRR =>
  h A g L m R s C RR fun v s' ⟨n', h', tk, e, C', q⟩ => hRR v s' ⟨n', h', tk, e, C', hq v n' q⟩

section
variable {w : World} {k : Nat}

theorem callOK_fn {f : Addr} {o : Obj} {fd : FuncData} {body : List Stmt} {ns : List Str} {F : Nat} {cb : Sts} {vals : List Value} {n : Led} {Q : Value → Led → Prop}
    (ho : (KK w.params).lookup f = some o) (hd : o.data = .func fd) (hb : fd.body = .stmts body) (hok : fnOk (KK w.params) fd ns vals.length = true)
    (hbind : bindArgs fd ⟨vals, []⟩ = pure ((ns.take vals.length).zip vals)) (hlen : vals.length ≤ ns.length)
    (hcomp : cB (KK w.params) F fd.scope ns body = some cb)
    (h : wB w k cb (initL vals) n fun f _ n' => Q (retOf f) n') : CallOK w (k + 1) (.ref f) vals n Q := by
  intro A g L m R s C RR hRR
  simp only [fnOk, Bool.and_eq_true, beq_iff_eq, Bool.not_eq_true', List.isEmpty_iff, decide_eq_true_eq] at hok
  obtain ⟨⟨⟨⟨⟨⟨⟨⟨⟨⟨⟨k1, k2⟩, k3⟩, k4⟩, k5⟩, k6⟩, k7⟩, k8⟩, k9⟩, k10⟩, k11⟩, k12⟩ := hok
  have X := C.good'.k
  have binds_nd : (((ns.take vals.length).zip vals).map (·.1)).Nodup := by
    have : ((ns.take vals.length).zip vals).map (·.1) = ns.take vals.length := by
      rw [List.map_fst_zip]
      simp [hlen]
    rw [this]
    exact (List.take_sublist _ _).nodup k8
  have kinds : ∀ x ∈ (ns.take vals.length).zip vals, fd.scope.names.lookup x.1 = some .local ∨ fd.scope.names.lookup x.1 = some .cell := fun x hx => by
    obtain ⟨x, v⟩ := x
    have := List.all_eq_true.mp k11 x (List.of_mem_zip hx).1
    simpa using this
  refine codeAny_call_cells (by have := C.room; omega) (X _ _ ho) hd C.good'.lim (codeRec_of X k7) hb hbind k4 (fun x hx => ?_) (fun s₁ Y => ?_) k2 k3 k1
  · refine (kinds x hx).imp id fun q => ⟨q, ?_⟩
    obtain ⟨c, e⟩ := cellsFrom_has fd.scope.names (s.heap.objs.size + 1) [] x.1 (.inl (mem_of_lookup_k q))
    rw [e]; rfl
  · obtain ⟨h₁, tk, rfl, hk⟩ := Y.done
    have hcs : ∀ (x : Str) (c : Addr), (callEnvC fd s.heap.objs.size f).cells.lookup x = some c → (x, c) ∈ (callEnvC fd s.heap.objs.size f).cells := fun x c e => mem_of_lookup e
    have hnd : ((callEnvC fd s.heap.objs.size f).cells.map (·.1)).Nodup := by
      show ((cellsFrom (s.heap.objs.size + 1) fd.scope.names []).map (·.1)).Nodup
      rw [cellsFrom_names fd.scope.names (s.heap.objs.size + 1) 0 [] [] rfl]; exact k10
    obtain ⟨cells, N, Z⟩ := Cl.news (h₀ := s.heap) (h := h₁) (L := (callEnvC fd s.heap.objs.size f).locals) (Nat.le_refl _) (cs := (callEnvC fd s.heap.objs.size f).cells)
      (cm := bindC (callEnvC fd s.heap.objs.size f).kindOf ((ns.take vals.length).zip vals) fun _ => none) fun x c hm => ⟨Y.cell x c (lookup_of_mem_nodup hnd hm), Y.above x c hm⟩
    obtain ⟨z1, z2⟩ := cells_led (h₀ := s.heap) (h := h₁) (L := 0) Z
    obtain ⟨oL, hL, C1⟩ := C.enter Y.toInCall.ns Y.toInCall.keep Y.toInCall.fresh
    have E : EnvOk (callEnvC fd s.heap.objs.size f) fd.scope := ⟨k1, k5, k6, fun _ h => h, fun _ h => h, fun _ h => h, fun _ h => h, fun y hy => cellsFrom_has _ _ _ _ (.inl (mem_of_lookup_k hy))⟩
    have ap : Ap (callEnvC fd s.heap.objs.size f) := fun x y c h1 h2 => name_of_addr Y.apart (hcs x c h1) (hcs y c h2)
    have above : ∀ p ∈ cells, s.heap.objs.size < p.1 := fun p hp => by
      have : p.1 ∈ (callEnvC fd s.heap.objs.size f).cells.map (·.2) := z1 ▸ List.mem_map.mpr ⟨p, hp, rfl⟩
      obtain ⟨q, hq, e⟩ := List.mem_map.mp this
      have := Y.above q.1 q.2 hq
      rw [e] at this
      exact this
    have nd1 : (keys cells).Nodup := by
      rw [z1]
      have := Y.apart
      rw [List.Nodup, List.pairwise_map]
      exact this
    have C2 : Cx w (k + 1) A g (callEnvC fd s.heap.objs.size f).locals (bindL (callEnvC fd s.heap.objs.size f).kindOf ((ns.take vals.length).zip vals) fun _ => none) (((L, oL) :: R) ++ (cells ++ n)) h₁ := by
      refine ⟨C1.hd, C1.room, C1.units, C1.good, C1.fr, fun p hp => ?_, ?_⟩
      · have hp' : p ∈ cells ∨ p ∈ (L, oL) :: (R ++ n) := by
          simp only [List.cons_append, List.mem_cons, List.mem_append] at hp ⊢
          rcases hp with hp | hp | hp | hp
          · exact .inr (.inl hp)
          · exact .inr (.inr (.inl hp))
          · exact .inl hp
          · exact .inr (.inr (.inr hp))
        rcases hp' with hp | hp
        · refine ⟨(N p hp).1, (N p hp).2.1, ?_⟩
          exact C.g_none (Nat.le_of_lt (above p hp))
        · exact C1.nw p hp
      · have p1 : (((L, oL) :: R) ++ (cells ++ n)).Perm (cells ++ ((L, oL) :: (R ++ n))) := by
          show ((L, oL) :: (R ++ (cells ++ n))).Perm _
          refine List.Perm.trans ?_ List.perm_middle.symm
          refine List.Perm.cons _ ?_
          rw [← List.append_assoc, ← List.append_assoc]
          exact List.Perm.append_right _ List.perm_append_comm
        refine ((p1.map _).nodup_iff).mpr ?_
        show (keys (cells ++ ((L, oL) :: (R ++ n)))).Nodup
        rw [keys_append, List.nodup_append]
        refine ⟨nd1, C1.nd, fun a ha b hb e => ?_⟩
        obtain ⟨p, hp, e1⟩ := List.mem_map.mp ha
        obtain ⟨q, hq, e2⟩ := List.mem_map.mp hb
        have h1 := above p hp
        have h2 : q.1 < s.heap.objs.size := by
          rcases List.mem_cons.mp hq with rfl | hq
          · exact C.fr.ns.lt
          · exact C.lt hq
        rw [e1] at h1; rw [e2] at h2
        rw [e] at h1
        exact Nat.lt_asymm h1 h2
    have S0 : Sit (callEnvC fd s.heap.objs.size f) ns (initL vals) (bindL (callEnvC fd s.heap.objs.size f).kindOf ((ns.take vals.length).zip vals) fun _ => none) cells := fun i x v hx hv => by
      have hm : (x, v) ∈ (ns.take vals.length).zip vals := by
        have hi : i < vals.length := (List.getElem?_eq_some_iff.mp hv).1
        refine List.mem_of_getElem? (i := i) ?_
        rw [List.getElem?_zip_eq_some]
        exact ⟨by rw [List.getElem?_take, if_pos hi]; exact hx, hv⟩
      refine ⟨fun hl => bindL_get _ _ _ _ _ hl binds_nd (.inl hm), fun hc => ?_⟩
      have hc' : (callEnvC fd s.heap.objs.size f).kindOf x = some .cell := by
        rcases hc with hc | hc
        · exact hc
        · have := List.all_eq_true.mp k12 _ (mem_of_lookup_k hc)
          simp at this
      obtain ⟨c, e⟩ := E.hasCell x hc'
      obtain ⟨o, a, b⟩ := z2 x c (hcs x c e)
      refine ⟨c, o, e, a, b.trans ?_⟩
      rw [bindC_get _ _ _ x v (by rw [hc']; decide) binds_nd (.inl hm)]
    have I0 : CellsIn (callEnvC fd s.heap.objs.size f) cells := fun x hx => by
      obtain ⟨c, e⟩ := E.hasCell x hx
      obtain ⟨o, a, b⟩ := z2 x c (hcs x c e)
      exact ⟨c, o, _, e, a, b⟩
    have C3 : Cx w k (A.deeper (callEnvC fd s.heap.objs.size f)) g (callEnvC fd s.heap.objs.size f).locals (bindL (callEnvC fd s.heap.objs.size f).kindOf ((ns.take vals.length).zip vals) fun _ => none) (((L, oL) :: R) ++ (cells ++ n)) h₁ :=
      C2.inA C2.hd (by have := C2.room; show A.depth + 1 + k < _; omega) (by have := C2.units; show A.units + 3 + 8 * k < _; omega)
    refine SV.go (((sSB F fd.scope ns _ E ap k8).2 body cb hcomp).go _ _ _ h) (s := { s with heap := h₁, toks := tk }) C3 S0 I0 fun fl l1 m1 cs1 n1 h1 tk1 C4 _ _ q => ?_
    have C5 : Cx w (k + 1) A g (callEnvC fd s.heap.objs.size f).locals m1 ((L, oL) :: (R ++ n1)) h1 := by
      refine (C4.inA C.hd C.room C.units).sub ?_
      show ((L, oL) :: (R ++ n1)).Sublist ((L, oL) :: (R ++ (cs1 ++ n1)))
      exact ((List.sublist_append_right _ _).append_left _).cons_cons _
    have C6 := C5.leave hL C.fr.above
    cases fl <;> exact hRR _ _ ⟨n1, h1, tk1, rfl, C6, q⟩
theorem ok_fn {f : Addr} {o : Obj} {fd : FuncData} {body : List Stmt} {ns : List Str} {F : Nat} {cb : Sts} {vals : List Value} {n : Led} {Q : Value → Led → Prop}
    (ho : (KK w.params).lookup f = some o) (hd : o.data = .func fd) (hb : fd.body = .stmts body) (hok : fnOk (KK w.params) fd ns vals.length = true)
    (hbind : bindArgs fd ⟨vals, []⟩ = pure ((ns.take vals.length).zip vals)) (hlen : vals.length ≤ ns.length)
    (hcomp : cB (KK w.params) F fd.scope ns body = some cb)
    (h : wB w k cb (initL vals) n fun f _ n' => Q (retOf f) n') : OK w (k + 1) (call (.ref f) vals) n Q := (callOK_fn ho hd hb hok hbind hlen hcomp h).ok
end
/-! Irs -/
noncomputable def ns_Node_parts : List Str := [⟨#[115, 101, 108, 102]⟩]
noncomputable def ir_Node_parts : Sts := (.cons (.ret (.list .nil))
    .nil)
theorem c_Node_parts (P : Params) : cB (KK P) 40 (fdS (mAt 14 1)) ns_Node_parts (fdB (mAt 14 1)) = some ir_Node_parts := by kernel_rfl
theorem k_Node_parts (P : Params) : (KK P).lookup 35 = some (ob35 P) := by kernel_rfl
noncomputable def ns_Const_U__initUU : List Str := [⟨#[115, 101, 108, 102]⟩, ⟨#[118, 97, 108, 117, 101]⟩]
noncomputable def ir_Const_U__initUU : Sts := (.cons (.asgA (.v 0) ⟨#[118, 97, 108, 117, 101]⟩ (.v 1))
    .nil)
theorem c_Const_U__initUU (P : Params) : cB (KK P) 40 (fdS (mAt 15 1)) ns_Const_U__initUU (fdB (mAt 15 1)) = some ir_Const_U__initUU := by kernel_rfl
theorem k_Const_U__initUU (P : Params) : (KK P).lookup 63 = some (ob63 P) := by kernel_rfl
noncomputable def ns_Local_U__initUU : List Str := [⟨#[115, 101, 108, 102]⟩, ⟨#[110, 117, 109, 98, 101, 114]⟩]
noncomputable def ir_Local_U__initUU : Sts := (.cons (.asgA (.v 0) ⟨#[110, 117, 109, 98, 101, 114]⟩ (.v 1))
    .nil)
theorem c_Local_U__initUU (P : Params) : cB (KK P) 40 (fdS (mAt 16 1)) ns_Local_U__initUU (fdB (mAt 16 1)) = some ir_Local_U__initUU := by kernel_rfl
theorem k_Local_U__initUU (P : Params) : (KK P).lookup 82 = some (ob82 P) := by kernel_rfl
noncomputable def ns_Global_U__initUU : List Str := [⟨#[115, 101, 108, 102]⟩, ⟨#[115, 121, 109, 98, 111, 108]⟩]
noncomputable def ir_Global_U__initUU : Sts := (.cons (.asgA (.v 0) ⟨#[115, 121, 109, 98, 111, 108]⟩ (.v 1))
    .nil)
theorem c_Global_U__initUU (P : Params) : cB (KK P) 40 (fdS (mAt 17 1)) ns_Global_U__initUU (fdB (mAt 17 1)) = some ir_Global_U__initUU := by kernel_rfl
theorem k_Global_U__initUU (P : Params) : (KK P).lookup 101 = some (ob101 P) := by kernel_rfl
noncomputable def ns_SetLocal_U__initUU : List Str := [⟨#[115, 101, 108, 102]⟩, ⟨#[110, 117, 109, 98, 101, 114]⟩, ⟨#[118, 97, 108, 117, 101]⟩]
noncomputable def ir_SetLocal_U__initUU : Sts := (.cons (.asgA (.v 0) ⟨#[110, 117, 109, 98, 101, 114]⟩ (.v 1))
    (.cons (.asgA (.v 0) ⟨#[118, 97, 108, 117, 101]⟩ (.v 2))
    .nil))
theorem c_SetLocal_U__initUU (P : Params) : cB (KK P) 40 (fdS (mAt 18 1)) ns_SetLocal_U__initUU (fdB (mAt 18 1)) = some ir_SetLocal_U__initUU := by kernel_rfl
theorem k_SetLocal_U__initUU (P : Params) : (KK P).lookup 120 = some (ob120 P) := by kernel_rfl
noncomputable def ns_SetLocal_parts : List Str := [⟨#[115, 101, 108, 102]⟩]
noncomputable def ir_SetLocal_parts : Sts := (.cons (.ret (.list (.cons (.attr (.v 0) ⟨#[118, 97, 108, 117, 101]⟩) .nil)))
    .nil)
theorem c_SetLocal_parts (P : Params) : cB (KK P) 40 (fdS (mAt 18 2)) ns_SetLocal_parts (fdB (mAt 18 2)) = some ir_SetLocal_parts := by kernel_rfl
theorem k_SetLocal_parts (P : Params) : (KK P).lookup 127 = some (ob127 P) := by kernel_rfl
noncomputable def ns_SetGlobal_U__initUU : List Str := [⟨#[115, 101, 108, 102]⟩, ⟨#[115, 121, 109, 98, 111, 108]⟩, ⟨#[118, 97, 108, 117, 101]⟩]
noncomputable def ir_SetGlobal_U__initUU : Sts := (.cons (.asgA (.v 0) ⟨#[115, 121, 109, 98, 111, 108]⟩ (.v 1))
    (.cons (.asgA (.v 0) ⟨#[118, 97, 108, 117, 101]⟩ (.v 2))
    .nil))
theorem c_SetGlobal_U__initUU (P : Params) : cB (KK P) 40 (fdS (mAt 19 1)) ns_SetGlobal_U__initUU (fdB (mAt 19 1)) = some ir_SetGlobal_U__initUU := by kernel_rfl
theorem k_SetGlobal_U__initUU (P : Params) : (KK P).lookup 153 = some (ob153 P) := by kernel_rfl
noncomputable def ns_SetGlobal_parts : List Str := [⟨#[115, 101, 108, 102]⟩]
noncomputable def ir_SetGlobal_parts : Sts := (.cons (.ret (.list (.cons (.attr (.v 0) ⟨#[118, 97, 108, 117, 101]⟩) .nil)))
    .nil)
theorem c_SetGlobal_parts (P : Params) : cB (KK P) 40 (fdS (mAt 19 2)) ns_SetGlobal_parts (fdB (mAt 19 2)) = some ir_SetGlobal_parts := by kernel_rfl
theorem k_SetGlobal_parts (P : Params) : (KK P).lookup 160 = some (ob160 P) := by kernel_rfl
noncomputable def ns_Define_U__initUU : List Str := [⟨#[115, 101, 108, 102]⟩, ⟨#[115, 121, 109, 98, 111, 108]⟩, ⟨#[118, 97, 108, 117, 101]⟩]
noncomputable def ir_Define_U__initUU : Sts := (.cons (.asgA (.v 0) ⟨#[115, 121, 109, 98, 111, 108]⟩ (.v 1))
    (.cons (.asgA (.v 0) ⟨#[118, 97, 108, 117, 101]⟩ (.v 2))
    .nil))
theorem c_Define_U__initUU (P : Params) : cB (KK P) 40 (fdS (mAt 20 1)) ns_Define_U__initUU (fdB (mAt 20 1)) = some ir_Define_U__initUU := by kernel_rfl
theorem k_Define_U__initUU (P : Params) : (KK P).lookup 186 = some (ob186 P) := by kernel_rfl
noncomputable def ns_Define_parts : List Str := [⟨#[115, 101, 108, 102]⟩]
noncomputable def ir_Define_parts : Sts := (.cons (.ret (.list (.cons (.attr (.v 0) ⟨#[118, 97, 108, 117, 101]⟩) .nil)))
    .nil)
theorem c_Define_parts (P : Params) : cB (KK P) 40 (fdS (mAt 20 2)) ns_Define_parts (fdB (mAt 20 2)) = some ir_Define_parts := by kernel_rfl
theorem k_Define_parts (P : Params) : (KK P).lookup 193 = some (ob193 P) := by kernel_rfl
noncomputable def ns_If_U__initUU : List Str := [⟨#[115, 101, 108, 102]⟩, ⟨#[116, 101, 115, 116]⟩, ⟨#[121, 101, 115]⟩, ⟨#[110, 111]⟩]
noncomputable def ir_If_U__initUU : Sts := (.cons (.asgA (.v 0) ⟨#[116, 101, 115, 116]⟩ (.v 1))
    (.cons (.asgA (.v 0) ⟨#[121, 101, 115]⟩ (.v 2))
    (.cons (.asgA (.v 0) ⟨#[110, 111]⟩ (.v 3))
    .nil)))
theorem c_If_U__initUU (P : Params) : cB (KK P) 40 (fdS (mAt 21 1)) ns_If_U__initUU (fdB (mAt 21 1)) = some ir_If_U__initUU := by kernel_rfl
theorem k_If_U__initUU (P : Params) : (KK P).lookup 219 = some (ob219 P) := by kernel_rfl
noncomputable def ns_If_parts : List Str := [⟨#[115, 101, 108, 102]⟩]
noncomputable def ir_If_parts : Sts := (.cons (.ret (.list (.cons (.attr (.v 0) ⟨#[116, 101, 115, 116]⟩) (.cons (.attr (.v 0) ⟨#[121, 101, 115]⟩) (.cons (.attr (.v 0) ⟨#[110, 111]⟩) .nil)))))
    .nil)
theorem c_If_parts (P : Params) : cB (KK P) 40 (fdS (mAt 21 2)) ns_If_parts (fdB (mAt 21 2)) = some ir_If_parts := by kernel_rfl
theorem k_If_parts (P : Params) : (KK P).lookup 226 = some (ob226 P) := by kernel_rfl
noncomputable def ns_Lambda_U__initUU : List Str := [⟨#[115, 101, 108, 102]⟩, ⟨#[108, 97, 98, 101, 108]⟩, ⟨#[112, 97, 114, 97, 109, 115]⟩, ⟨#[114, 101, 115, 116]⟩, ⟨#[98, 111, 100, 121]⟩]
noncomputable def ir_Lambda_U__initUU : Sts := (.cons (.asgA (.v 0) ⟨#[108, 97, 98, 101, 108]⟩ (.v 1))
    (.cons (.asgA (.v 0) ⟨#[112, 97, 114, 97, 109, 115]⟩ (.v 2))
    (.cons (.asgA (.v 0) ⟨#[114, 101, 115, 116]⟩ (.v 3))
    (.cons (.asgA (.v 0) ⟨#[98, 111, 100, 121]⟩ (.v 4))
    .nil))))
theorem c_Lambda_U__initUU (P : Params) : cB (KK P) 40 (fdS (mAt 22 1)) ns_Lambda_U__initUU (fdB (mAt 22 1)) = some ir_Lambda_U__initUU := by kernel_rfl
theorem k_Lambda_U__initUU (P : Params) : (KK P).lookup 252 = some (ob252 P) := by kernel_rfl
noncomputable def ns_Lambda_parts : List Str := [⟨#[115, 101, 108, 102]⟩]
noncomputable def ir_Lambda_parts : Sts := (.cons (.ret (.list (.cons (.attr (.v 0) ⟨#[98, 111, 100, 121]⟩) .nil)))
    .nil)
theorem c_Lambda_parts (P : Params) : cB (KK P) 40 (fdS (mAt 22 2)) ns_Lambda_parts (fdB (mAt 22 2)) = some ir_Lambda_parts := by kernel_rfl
theorem k_Lambda_parts (P : Params) : (KK P).lookup 259 = some (ob259 P) := by kernel_rfl
noncomputable def ns_Lambda_binders : List Str := [⟨#[115, 101, 108, 102]⟩]
noncomputable def ir_Lambda_binders : Sts := (.cons (.ret (.ite (.cmp .GtE (.attr (.v 0) ⟨#[114, 101, 115, 116]⟩) (.int (0))) (.bin .Add (.attr (.v 0) ⟨#[112, 97, 114, 97, 109, 115]⟩) (.list (.cons (.attr (.v 0) ⟨#[114, 101, 115, 116]⟩) .nil))) (.call (.g (.type "list")) (.cons (.attr (.v 0) ⟨#[112, 97, 114, 97, 109, 115]⟩) .nil))))
    .nil)
theorem c_Lambda_binders (P : Params) : cB (KK P) 40 (fdS (mAt 22 4)) ns_Lambda_binders (fdB (mAt 22 4)) = some ir_Lambda_binders := by kernel_rfl
theorem k_Lambda_binders (P : Params) : (KK P).lookup 273 = some (ob273 P) := by kernel_rfl
noncomputable def ns_Call_U__initUU : List Str := [⟨#[115, 101, 108, 102]⟩, ⟨#[111, 112, 101, 114, 97, 116, 111, 114]⟩, ⟨#[111, 112, 101, 114, 97, 110, 100, 115]⟩]
noncomputable def ir_Call_U__initUU : Sts := (.cons (.asgA (.v 0) ⟨#[111, 112, 101, 114, 97, 116, 111, 114]⟩ (.v 1))
    (.cons (.asgA (.v 0) ⟨#[111, 112, 101, 114, 97, 110, 100, 115]⟩ (.v 2))
    .nil))
theorem c_Call_U__initUU (P : Params) : cB (KK P) 40 (fdS (mAt 23 1)) ns_Call_U__initUU (fdB (mAt 23 1)) = some ir_Call_U__initUU := by kernel_rfl
theorem k_Call_U__initUU (P : Params) : (KK P).lookup 299 = some (ob299 P) := by kernel_rfl
noncomputable def ns_Call_parts : List Str := [⟨#[115, 101, 108, 102]⟩]
noncomputable def ir_Call_parts : Sts := (.cons (.ret (.bin .Add (.list (.cons (.attr (.v 0) ⟨#[111, 112, 101, 114, 97, 116, 111, 114]⟩) .nil)) (.attr (.v 0) ⟨#[111, 112, 101, 114, 97, 110, 100, 115]⟩)))
    .nil)
theorem c_Call_parts (P : Params) : cB (KK P) 40 (fdS (mAt 23 2)) ns_Call_parts (fdB (mAt 23 2)) = some ir_Call_parts := by kernel_rfl
theorem k_Call_parts (P : Params) : (KK P).lookup 306 = some (ob306 P) := by kernel_rfl
noncomputable def ns_Seq_U__initUU : List Str := [⟨#[115, 101, 108, 102]⟩, ⟨#[105, 116, 101, 109, 115]⟩]
noncomputable def ir_Seq_U__initUU : Sts := (.cons (.asgA (.v 0) ⟨#[105, 116, 101, 109, 115]⟩ (.v 1))
    .nil)
theorem c_Seq_U__initUU (P : Params) : cB (KK P) 40 (fdS (mAt 24 1)) ns_Seq_U__initUU (fdB (mAt 24 1)) = some ir_Seq_U__initUU := by kernel_rfl
theorem k_Seq_U__initUU (P : Params) : (KK P).lookup 332 = some (ob332 P) := by kernel_rfl
noncomputable def ns_Seq_parts : List Str := [⟨#[115, 101, 108, 102]⟩]
noncomputable def ir_Seq_parts : Sts := (.cons (.ret (.call (.g (.type "list")) (.cons (.attr (.v 0) ⟨#[105, 116, 101, 109, 115]⟩) .nil)))
    .nil)
theorem c_Seq_parts (P : Params) : cB (KK P) 40 (fdS (mAt 24 2)) ns_Seq_parts (fdB (mAt 24 2)) = some ir_Seq_parts := by kernel_rfl
theorem k_Seq_parts (P : Params) : (KK P).lookup 339 = some (ob339 P) := by kernel_rfl
noncomputable def ns_Prim_U__initUU : List Str := [⟨#[115, 101, 108, 102]⟩, ⟨#[111, 112]⟩, ⟨#[111, 112, 101, 114, 97, 110, 100, 115]⟩]
noncomputable def ir_Prim_U__initUU : Sts := (.cons (.asgA (.v 0) ⟨#[111, 112]⟩ (.v 1))
    (.cons (.asgA (.v 0) ⟨#[111, 112, 101, 114, 97, 110, 100, 115]⟩ (.v 2))
    .nil))
theorem c_Prim_U__initUU (P : Params) : cB (KK P) 40 (fdS (mAt 25 1)) ns_Prim_U__initUU (fdB (mAt 25 1)) = some ir_Prim_U__initUU := by kernel_rfl
theorem k_Prim_U__initUU (P : Params) : (KK P).lookup 365 = some (ob365 P) := by kernel_rfl
noncomputable def ns_Prim_parts : List Str := [⟨#[115, 101, 108, 102]⟩]
noncomputable def ir_Prim_parts : Sts := (.cons (.ret (.call (.g (.type "list")) (.cons (.attr (.v 0) ⟨#[111, 112, 101, 114, 97, 110, 100, 115]⟩) .nil)))
    .nil)
theorem c_Prim_parts (P : Params) : cB (KK P) 40 (fdS (mAt 25 2)) ns_Prim_parts (fdB (mAt 25 2)) = some ir_Prim_parts := by kernel_rfl
theorem k_Prim_parts (P : Params) : (KK P).lookup 372 = some (ob372 P) := by kernel_rfl
noncomputable def ns_Fix_U__initUU : List Str := [⟨#[115, 101, 108, 102]⟩, ⟨#[110, 117, 109, 98, 101, 114, 115]⟩, ⟨#[108, 97, 109, 98, 100, 97, 115]⟩, ⟨#[98, 111, 100, 121]⟩]
noncomputable def ir_Fix_U__initUU : Sts := (.cons (.asgA (.v 0) ⟨#[110, 117, 109, 98, 101, 114, 115]⟩ (.v 1))
    (.cons (.asgA (.v 0) ⟨#[108, 97, 109, 98, 100, 97, 115]⟩ (.v 2))
    (.cons (.asgA (.v 0) ⟨#[98, 111, 100, 121]⟩ (.v 3))
    .nil)))
theorem c_Fix_U__initUU (P : Params) : cB (KK P) 40 (fdS (mAt 26 1)) ns_Fix_U__initUU (fdB (mAt 26 1)) = some ir_Fix_U__initUU := by kernel_rfl
theorem k_Fix_U__initUU (P : Params) : (KK P).lookup 398 = some (ob398 P) := by kernel_rfl
noncomputable def ns_Fix_parts : List Str := [⟨#[115, 101, 108, 102]⟩]
noncomputable def ir_Fix_parts : Sts := (.cons (.ret (.bin .Add (.attr (.v 0) ⟨#[108, 97, 109, 98, 100, 97, 115]⟩) (.list (.cons (.attr (.v 0) ⟨#[98, 111, 100, 121]⟩) .nil))))
    .nil)
theorem c_Fix_parts (P : Params) : cB (KK P) 40 (fdS (mAt 26 2)) ns_Fix_parts (fdB (mAt 26 2)) = some ir_Fix_parts := by kernel_rfl
theorem k_Fix_parts (P : Params) : (KK P).lookup 405 = some (ob405 P) := by kernel_rfl
noncomputable def ns_is_let : List Str := [⟨#[110, 111, 100, 101]⟩]
noncomputable def ir_is_let : Sts := (.cons (.ite (.or (.cmp .NotEq (.attr (.v 0) q_kind) (.g (.int (8) 212))) (.cmp .NotEq (.attr (.attr (.v 0) ⟨#[111, 112, 101, 114, 97, 116, 111, 114]⟩) q_kind) (.g (.int (7) 210)))) (.cons (.ret (.bool false))
    .nil) .nil)
    (.cons (.ret (.and (.cmp .Lt (.attr (.attr (.v 0) ⟨#[111, 112, 101, 114, 97, 116, 111, 114]⟩) ⟨#[114, 101, 115, 116]⟩) (.int (0))) (.cmp .Eq (.call (.g (.builtin "len")) (.cons (.attr (.attr (.v 0) ⟨#[111, 112, 101, 114, 97, 116, 111, 114]⟩) ⟨#[112, 97, 114, 97, 109, 115]⟩) .nil)) (.call (.g (.builtin "len")) (.cons (.attr (.v 0) ⟨#[111, 112, 101, 114, 97, 110, 100, 115]⟩) .nil)))))
    .nil))
theorem c_is_let (P : Params) : cB (KK P) 40 (fdS (dAt 27)) ns_is_let (fdB (dAt 27)) = some ir_is_let := by kernel_rfl
theorem k_is_let (P : Params) : (KK P).lookup 424 = some (ob424 P) := by kernel_rfl
noncomputable def ns_Facts_U__initUU : List Str := [⟨#[115, 101, 108, 102]⟩]
noncomputable def ir_Facts_U__initUU : Sts := (.cons (.asgA (.v 0) ⟨#[114, 101, 97, 100]⟩ .dict)
    (.cons (.asgA (.v 0) ⟨#[115, 101, 116]⟩ .dict)
    (.cons (.asgA (.v 0) ⟨#[99, 97, 108, 108, 101, 100]⟩ .dict)
    (.cons (.asgA (.v 0) ⟨#[98, 111, 117, 110, 100]⟩ .dict)
    (.cons (.asgA (.v 0) ⟨#[99, 97, 117, 103, 104, 116]⟩ .dict)
    (.cons (.asgA (.v 0) ⟨#[112, 97, 114, 101, 110, 116]⟩ .dict)
    (.cons (.asgA (.v 0) ⟨#[108, 101, 116, 115]⟩ .dict)
    (.cons (.asgA (.v 0) ⟨#[105, 110, 110, 101, 114]⟩ .dict)
    (.cons (.asgA (.v 0) ⟨#[114, 101, 97, 100, 95, 103, 108, 111, 98, 97, 108, 115]⟩ .dict)
    (.cons (.asgA (.v 0) ⟨#[115, 101, 116, 95, 103, 108, 111, 98, 97, 108, 115]⟩ .dict)
    .nil))))))))))
theorem c_Facts_U__initUU (P : Params) : cB (KK P) 40 (fdS (mAt 30 0)) ns_Facts_U__initUU (fdB (mAt 30 0)) = some ir_Facts_U__initUU := by kernel_rfl
theorem k_Facts_U__initUU (P : Params) : (KK P).lookup 438 = some (ob438 P) := by kernel_rfl
noncomputable def ns_Facts_is_set : List Str := [⟨#[115, 101, 108, 102]⟩, ⟨#[110, 117, 109, 98, 101, 114]⟩]
noncomputable def ir_Facts_is_set : Sts := (.cons (.ret (.cmp .Gt (.meth (.attr (.v 0) ⟨#[115, 101, 116]⟩) ⟨#[103, 101, 116]⟩ (.cons (.v 1) (.cons (.int (0)) .nil))) (.int (0))))
    .nil)
theorem c_Facts_is_set (P : Params) : cB (KK P) 40 (fdS (mAt 30 1)) ns_Facts_is_set (fdB (mAt 30 1)) = some ir_Facts_is_set := by kernel_rfl
theorem k_Facts_is_set (P : Params) : (KK P).lookup 445 = some (ob445 P) := by kernel_rfl
noncomputable def ns_Facts_is_set_global : List Str := [⟨#[115, 101, 108, 102]⟩, ⟨#[115, 121, 109, 98, 111, 108]⟩]
noncomputable def ir_Facts_is_set_global : Sts := (.cons (.ret (.cmp .Gt (.meth (.attr (.v 0) ⟨#[115, 101, 116, 95, 103, 108, 111, 98, 97, 108, 115]⟩) ⟨#[103, 101, 116]⟩ (.cons (.v 1) (.cons (.int (0)) .nil))) (.int (0))))
    .nil)
theorem c_Facts_is_set_global (P : Params) : cB (KK P) 40 (fdS (mAt 30 2)) ns_Facts_is_set_global (fdB (mAt 30 2)) = some ir_Facts_is_set_global := by kernel_rfl
theorem k_Facts_is_set_global (P : Params) : (KK P).lookup 452 = some (ob452 P) := by kernel_rfl
noncomputable def ns_Facts_times_read : List Str := [⟨#[115, 101, 108, 102]⟩, ⟨#[110, 117, 109, 98, 101, 114]⟩]
noncomputable def ir_Facts_times_read : Sts := (.cons (.ret (.meth (.attr (.v 0) ⟨#[114, 101, 97, 100]⟩) ⟨#[103, 101, 116]⟩ (.cons (.v 1) (.cons (.int (0)) .nil))))
    .nil)
theorem c_Facts_times_read (P : Params) : cB (KK P) 40 (fdS (mAt 30 3)) ns_Facts_times_read (fdB (mAt 30 3)) = some ir_Facts_times_read := by kernel_rfl
theorem k_Facts_times_read (P : Params) : (KK P).lookup 459 = some (ob459 P) := by kernel_rfl
noncomputable def ns_Facts_times_called : List Str := [⟨#[115, 101, 108, 102]⟩, ⟨#[110, 117, 109, 98, 101, 114]⟩]
noncomputable def ir_Facts_times_called : Sts := (.cons (.ret (.meth (.attr (.v 0) ⟨#[99, 97, 108, 108, 101, 100]⟩) ⟨#[103, 101, 116]⟩ (.cons (.v 1) (.cons (.int (0)) .nil))))
    .nil)
theorem c_Facts_times_called (P : Params) : cB (KK P) 40 (fdS (mAt 30 4)) ns_Facts_times_called (fdB (mAt 30 4)) = some ir_Facts_times_called := by kernel_rfl
theorem k_Facts_times_called (P : Params) : (KK P).lookup 466 = some (ob466 P) := by kernel_rfl
noncomputable def ns_Facts_free : List Str := [⟨#[115, 101, 108, 102]⟩, ⟨#[108, 97, 98, 101, 108]⟩]
noncomputable def ir_Facts_free : Sts := (.cons (.ret (.call (.g (.builtin "sorted")) (.cons (.meth (.attr (.v 0) ⟨#[105, 110, 110, 101, 114]⟩) ⟨#[103, 101, 116]⟩ (.cons (.v 1) (.cons .dict .nil))) .nil)))
    .nil)
theorem c_Facts_free (P : Params) : cB (KK P) 40 (fdS (mAt 30 5)) ns_Facts_free (fdB (mAt 30 5)) = some ir_Facts_free := by kernel_rfl
theorem k_Facts_free (P : Params) : (KK P).lookup 473 = some (ob473 P) := by kernel_rfl
noncomputable def ns_Facts_meet : List Str := [⟨#[115, 101, 108, 102]⟩, ⟨#[110, 117, 109, 98, 101, 114]⟩, ⟨#[108, 97, 98, 101, 108]⟩, ⟨#[97, 116]⟩]
noncomputable def ir_Facts_meet : Sts := (.cons (.asg 3 (.v 2))
    (.cons (.loop (.cmp .NotEq (.v 3) (.idx (.attr (.v 0) ⟨#[98, 111, 117, 110, 100]⟩) (.v 1))) (.cons (.asgI (.idx (.attr (.v 0) ⟨#[105, 110, 110, 101, 114]⟩) (.v 3)) (.v 1) (.bool true))
    (.cons (.ite (.cmp .NotIn (.v 3) (.attr (.v 0) ⟨#[108, 101, 116, 115]⟩)) (.cons (.asgI (.attr (.v 0) ⟨#[99, 97, 117, 103, 104, 116]⟩) (.v 1) (.bool true))
    .nil) .nil)
    (.cons (.asg 3 (.idx (.attr (.v 0) ⟨#[112, 97, 114, 101, 110, 116]⟩) (.v 3)))
    .nil))))
    .nil))
theorem c_Facts_meet (P : Params) : cB (KK P) 40 (fdS (mAt 30 6)) ns_Facts_meet (fdB (mAt 30 6)) = some ir_Facts_meet := by kernel_rfl
theorem k_Facts_meet (P : Params) : (KK P).lookup 480 = some (ob480 P) := by kernel_rfl
noncomputable def ns_count_in : List Str := [⟨#[99, 111, 117, 110, 116, 115]⟩, ⟨#[107, 101, 121]⟩]
noncomputable def ir_count_in : Sts := (.cons (.asgI (.v 0) (.v 1) (.bin .Add (.meth (.v 0) ⟨#[103, 101, 116]⟩ (.cons (.v 1) (.cons (.int (0)) .nil))) (.int (1))))
    .nil)
theorem c_count_in (P : Params) : cB (KK P) 40 (fdS (dAt 31)) ns_count_in (fdB (dAt 31)) = some ir_count_in := by kernel_rfl
theorem k_count_in (P : Params) : (KK P).lookup 494 = some (ob494 P) := by kernel_rfl
noncomputable def ns_note_node : List Str := [⟨#[102, 97, 99, 116, 115]⟩, ⟨#[110, 111, 100, 101]⟩, ⟨#[108, 97, 98, 101, 108]⟩, ⟨#[110, 117, 109, 98, 101, 114]⟩]
noncomputable def ir_note_node : Sts := (.cons (.ite (.cmp .Eq (.attr (.v 1) q_kind) (.g (.int (1) 198))) (.cons (.expr (.call (.g (.ref 494)) (.cons (.attr (.v 0) ⟨#[114, 101, 97, 100]⟩) (.cons (.attr (.v 1) ⟨#[110, 117, 109, 98, 101, 114]⟩) .nil))))
    (.cons (.expr (.meth (.v 0) q_meet (.cons (.attr (.v 1) ⟨#[110, 117, 109, 98, 101, 114]⟩) (.cons (.v 2) .nil))))
    .nil)) (.cons (.ite (.cmp .Eq (.attr (.v 1) q_kind) (.g (.int (3) 202))) (.cons (.expr (.call (.g (.ref 494)) (.cons (.attr (.v 0) ⟨#[115, 101, 116]⟩) (.cons (.attr (.v 1) ⟨#[110, 117, 109, 98, 101, 114]⟩) .nil))))
    (.cons (.expr (.meth (.v 0) q_meet (.cons (.attr (.v 1) ⟨#[110, 117, 109, 98, 101, 114]⟩) (.cons (.v 2) .nil))))
    .nil)) (.cons (.ite (.cmp .Eq (.attr (.v 1) q_kind) (.g (.int (2) 200))) (.cons (.expr (.call (.g (.ref 494)) (.cons (.attr (.v 0) ⟨#[114, 101, 97, 100, 95, 103, 108, 111, 98, 97, 108, 115]⟩) (.cons (.attr (.v 1) ⟨#[115, 121, 109, 98, 111, 108]⟩) .nil))))
    .nil) (.cons (.ite (.cmp .In (.attr (.v 1) q_kind) (.tuple (.cons (.g (.int (4) 204)) (.cons (.g (.int (5) 206)) .nil)))) (.cons (.expr (.call (.g (.ref 494)) (.cons (.attr (.v 0) ⟨#[115, 101, 116, 95, 103, 108, 111, 98, 97, 108, 115]⟩) (.cons (.attr (.v 1) ⟨#[115, 121, 109, 98, 111, 108]⟩) .nil))))
    .nil) (.cons (.ite (.cmp .Eq (.attr (.v 1) q_kind) (.g (.int (11) 218))) (.cons (.each 3 (.attr (.v 1) ⟨#[110, 117, 109, 98, 101, 114, 115]⟩) (.cons (.asgI (.attr (.v 0) ⟨#[98, 111, 117, 110, 100]⟩) (.v 3) (.v 2))
    .nil))
    .nil) (.cons (.ite (.cmp .Eq (.attr (.v 1) q_kind) (.g (.int (7) 210))) (.cons (.asgI (.attr (.v 0) ⟨#[112, 97, 114, 101, 110, 116]⟩) (.attr (.v 1) ⟨#[108, 97, 98, 101, 108]⟩) (.v 2))
    (.cons (.asgI (.attr (.v 0) ⟨#[105, 110, 110, 101, 114]⟩) (.attr (.v 1) ⟨#[108, 97, 98, 101, 108]⟩) .dict)
    (.cons (.each 3 (.meth (.v 1) q_binders .nil) (.cons (.asgI (.attr (.v 0) ⟨#[98, 111, 117, 110, 100]⟩) (.v 3) (.attr (.v 1) ⟨#[108, 97, 98, 101, 108]⟩))
    .nil))
    .nil))) (.cons (.ite (.cmp .Eq (.attr (.v 1) q_kind) (.g (.int (8) 212))) (.cons (.ite (.cmp .Eq (.attr (.attr (.v 1) ⟨#[111, 112, 101, 114, 97, 116, 111, 114]⟩) q_kind) (.g (.int (1) 198))) (.cons (.expr (.call (.g (.ref 494)) (.cons (.attr (.v 0) ⟨#[99, 97, 108, 108, 101, 100]⟩) (.cons (.attr (.attr (.v 1) ⟨#[111, 112, 101, 114, 97, 116, 111, 114]⟩) ⟨#[110, 117, 109, 98, 101, 114]⟩) .nil))))
    .nil) .nil)
    (.cons (.ite (.call (.g (.ref 424)) (.cons (.v 1) .nil)) (.cons (.asgI (.attr (.v 0) ⟨#[108, 101, 116, 115]⟩) (.attr (.attr (.v 1) ⟨#[111, 112, 101, 114, 97, 116, 111, 114]⟩) ⟨#[108, 97, 98, 101, 108]⟩) (.bool true))
    .nil) .nil)
    .nil)) .nil)
    .nil))
    .nil))
    .nil))
    .nil))
    .nil))
    .nil))
    .nil)
theorem c_note_node (P : Params) : cB (KK P) 40 (fdS (dAt 32)) ns_note_node (fdB (dAt 32)) = some ir_note_node := by kernel_rfl
theorem k_note_node (P : Params) : (KK P).lookup 501 = some (ob501 P) := by kernel_rfl
noncomputable def ns_facts_of : List Str := [⟨#[110, 111, 100, 101, 115]⟩, ⟨#[102, 97, 99, 116, 115]⟩, ⟨#[110, 111, 100, 101]⟩, ⟨#[119, 97, 105, 116, 105, 110, 103]⟩, ⟨#[104, 101, 114, 101]⟩, ⟨#[108, 97, 98, 101, 108]⟩, ⟨#[119, 105, 116, 104, 105, 110]⟩, ⟨#[112, 97, 114, 116]⟩]
noncomputable def ir_facts_of : Sts := (.cons (.asg 1 (.call (.g (.ref 483)) .nil))
    (.cons (.each 2 (.v 0) (.cons (.asg 3 (.list (.cons (.tuple (.cons (.v 2) (.cons (.g (.int (-1) 754)) .nil))) .nil)))
    (.cons (.loop (.cmp .Gt (.call (.g (.builtin "len")) (.cons (.v 3) .nil)) (.int (0))) (.cons (.asgT [4, 5] (.meth (.v 3) ⟨#[112, 111, 112]⟩ .nil))
    (.cons (.expr (.call (.g (.ref 501)) (.cons (.v 1) (.cons (.v 4) (.cons (.v 5) .nil)))))
    (.cons (.asg 6 (.ite (.cmp .Eq (.attr (.v 4) q_kind) (.g (.int (7) 210))) (.attr (.v 4) ⟨#[108, 97, 98, 101, 108]⟩) (.v 5)))
    (.cons (.each 7 (.rev (.meth (.v 4) q_parts .nil)) (.cons (.expr (.meth (.v 3) ⟨#[97, 112, 112, 101, 110, 100]⟩ (.cons (.tuple (.cons (.v 7) (.cons (.v 6) .nil))) .nil)))
    .nil))
    .nil)))))
    .nil)))
    (.cons (.ret (.v 1))
    .nil)))
theorem c_facts_of (P : Params) : cB (KK P) 40 (fdS (dAt 33)) ns_facts_of (fdB (dAt 33)) = some ir_facts_of := by kernel_rfl
theorem k_facts_of (P : Params) : (KK P).lookup 508 = some (ob508 P) := by kernel_rfl
noncomputable def ns_law_draw : List Str := [⟨#[95, 108, 97, 119, 95, 100, 101, 99, 107]⟩, ⟨#[95, 108, 97, 119, 95, 109, 97, 110, 121]⟩, ⟨#[95, 108, 97, 119, 95, 102, 111, 117, 110, 100]⟩]
noncomputable def ir_law_draw : Sts := (.cons (.loop (.and (.cmp .NotEq (.v 0) (.list .nil)) (.cmp .Eq (.idx (.v 0) (.int (0))) (.int (0)))) (.cons (.expr (.meth (.v 0) ⟨#[112, 111, 112]⟩ (.cons (.int (0)) .nil)))
    .nil))
    (.cons (.ite (.cmp .Eq (.v 0) (.list .nil)) (.cons (.ret (.int (0)))
    .nil) .nil)
    (.cons (.asg 2 (.bin .Mod (.idx (.v 0) (.int (0))) (.v 1)))
    (.cons (.asgI (.v 0) (.int (0)) (.bin .FloorDiv (.idx (.v 0) (.int (0))) (.v 1)))
    (.cons (.ret (.v 2))
    .nil)))))
theorem c_law_draw (P : Params) : cB (KK P) 40 (fdS (dAt 36)) ns_law_draw (fdB (dAt 36)) = some ir_law_draw := by kernel_rfl
theorem k_law_draw (P : Params) : (KK P).lookup 515 = some (ob515 P) := by kernel_rfl
noncomputable def ns_law_deck_of : List Str := [⟨#[115, 99, 114, 105, 112, 116]⟩]
noncomputable def ir_law_deck_of : Sts := (.cons (.ret (.bin .Add (.comp (.bin .Mod (.call (.g (.builtin "abs")) (.cons (.v 1) .nil)) (.bin .Pow (.int (10)) (.int (60)))) 1 (.cutTo (.v 0) (.int (24)))) (.list (.cons (.int (1234567890123456789012345)) .nil))))
    .nil)
theorem c_law_deck_of (P : Params) : cB (KK P) 40 (fdS (dAt 37)) ns_law_deck_of (fdB (dAt 37)) = some ir_law_deck_of := by kernel_rfl
theorem k_law_deck_of (P : Params) : (KK P).lookup 520 = some (ob520 P) := by kernel_rfl
noncomputable def ns_law_one : List Str := [⟨#[95, 108, 97, 119, 95, 100, 101, 99, 107]⟩, ⟨#[95, 108, 97, 119, 95, 105, 116, 101, 109, 115]⟩]
noncomputable def ir_law_one : Sts := (.cons (.ret (.idx (.v 1) (.call (.g (.ref 515)) (.cons (.v 0) (.cons (.call (.g (.builtin "len")) (.cons (.v 1) .nil)) .nil)))))
    .nil)
theorem c_law_one (P : Params) : cB (KK P) 40 (fdS (dAt 38)) ns_law_one (fdB (dAt 38)) = some ir_law_one := by kernel_rfl
theorem k_law_one (P : Params) : (KK P).lookup 527 = some (ob527 P) := by kernel_rfl
noncomputable def ns_law_new : List Str := [⟨#[95, 108, 97, 119, 95, 115, 116, 97, 116, 101]⟩, ⟨#[95, 108, 97, 119, 95, 97, 116]⟩]
noncomputable def ir_law_new : Sts := (.cons (.asgI (.v 0) (.v 1) (.bin .Add (.idx (.v 0) (.v 1)) (.int (1))))
    (.cons (.ret (.idx (.v 0) (.v 1)))
    .nil))
theorem c_law_new (P : Params) : cB (KK P) 40 (fdS (dAt 39)) ns_law_new (fdB (dAt 39)) = some ir_law_new := by kernel_rfl
theorem k_law_new (P : Params) : (KK P).lookup 534 = some (ob534 P) := by kernel_rfl
noncomputable def ns_law_lam : List Str := [⟨#[95, 108, 97, 119, 95, 100, 101, 99, 107]⟩, ⟨#[95, 108, 97, 119, 95, 115, 116, 97, 116, 101]⟩, ⟨#[95, 108, 97, 119, 95, 107, 110, 111, 119, 110]⟩, ⟨#[95, 108, 97, 119, 95, 100, 101, 101, 112]⟩, ⟨#[95, 108, 97, 119, 95, 110, 117, 109, 98, 101, 114, 115]⟩, ⟨#[95, 108, 97, 119, 95, 114, 101, 115, 116]⟩, ⟨#[95, 108, 97, 119, 95, 105, 110, 110, 101, 114]⟩, ⟨#[95, 108, 97, 119, 95, 108, 97, 98, 101, 108]⟩]
noncomputable def ir_law_lam : Sts := (.cons (.asg 4 (.comp (.call (.g (.ref 534)) (.cons (.v 1) (.cons (.int (0)) .nil))) 8 (.call (.g (.type "range")) (.cons (.call (.g (.ref 515)) (.cons (.v 0) (.cons (.int (3)) .nil))) .nil))))
    (.cons (.asg 5 (.ite (.cmp .Eq (.call (.g (.ref 515)) (.cons (.v 0) (.cons (.int (4)) .nil))) (.int (3))) (.call (.g (.ref 534)) (.cons (.v 1) (.cons (.int (0)) .nil))) (.neg (.int (1)))))
    (.cons (.asg 6 (.bin .Add (.bin .Add (.v 2) (.v 4)) (.ite (.cmp .GtE (.v 5) (.int (0))) (.list (.cons (.v 5) .nil)) (.list .nil))))
    (.cons (.asg 7 (.call (.g (.ref 534)) (.cons (.v 1) (.cons (.int (1)) .nil))))
    (.cons (.ret (.call (.g (.ref 283)) (.cons (.v 7) (.cons (.v 4) (.cons (.v 5) (.cons (.call (.g (.ref 544)) (.cons (.v 0) (.cons (.v 1) (.cons (.v 6) (.cons (.bin .Sub (.v 3) (.int (1))) .nil))))) .nil))))))
    .nil)))))
theorem c_law_lam (P : Params) : cB (KK P) 40 (fdS (dAt 40)) ns_law_lam (fdB (dAt 40)) = some ir_law_lam := by kernel_rfl
theorem k_law_lam (P : Params) : (KK P).lookup 539 = some (ob539 P) := by kernel_rfl
noncomputable def ns_law_node_of : List Str := [⟨#[95, 108, 97, 119, 95, 100, 101, 99, 107]⟩, ⟨#[95, 108, 97, 119, 95, 115, 116, 97, 116, 101]⟩, ⟨#[95, 108, 97, 119, 95, 107, 110, 111, 119, 110]⟩, ⟨#[95, 108, 97, 119, 95, 100, 101, 101, 112]⟩, ⟨#[95, 108, 97, 119, 95, 119, 97, 121]⟩, ⟨#[95, 108, 97, 119, 95, 110, 117, 109, 98, 101, 114, 115]⟩, ⟨#[95, 108, 97, 119, 95, 112, 97, 114, 116, 115]⟩, ⟨#[95, 108, 97, 119, 95, 111, 119, 110]⟩]
noncomputable def ir_law_node_of : Sts := (.cons (.asg 4 (.ite (.cmp .Gt (.v 3) (.int (0))) (.call (.g (.ref 515)) (.cons (.v 0) (.cons (.int (12)) .nil))) (.call (.g (.ref 515)) (.cons (.v 0) (.cons (.int (3)) .nil)))))
    (.cons (.ite (.or (.cmp .Eq (.v 4) (.int (0))) (.and (.cmp .Eq (.v 4) (.int (1))) (.cmp .Eq (.v 2) (.list .nil)))) (.cons (.ret (.call (.g (.ref 66)) (.cons (.call (.g (.ref 515)) (.cons (.v 0) (.cons (.int (9)) .nil))) .nil)))
    .nil) .nil)
    (.cons (.ite (.cmp .Eq (.v 4) (.int (1))) (.cons (.ret (.call (.g (.ref 85)) (.cons (.call (.g (.ref 527)) (.cons (.v 0) (.cons (.v 2) .nil))) .nil)))
    .nil) .nil)
    (.cons (.ite (.cmp .Eq (.v 4) (.int (2))) (.cons (.ret (.call (.g (.ref 104)) (.cons (.call (.g (.ref 515)) (.cons (.v 0) (.cons (.int (4)) .nil))) .nil)))
    .nil) .nil)
    (.cons (.ite (.cmp .Eq (.v 4) (.int (3))) (.cons (.ret (.call (.g (.ref 539)) (.cons (.v 0) (.cons (.v 1) (.cons (.v 2) (.cons (.v 3) .nil))))))
    .nil) .nil)
    (.cons (.ite (.cmp .Eq (.v 4) (.int (4))) (.cons (.asg 5 (.comp (.call (.g (.ref 534)) (.cons (.v 1) (.cons (.int (0)) .nil))) 8 (.call (.g (.type "range")) (.cons (.bin .Add (.int (1)) (.call (.g (.ref 515)) (.cons (.v 0) (.cons (.int (2)) .nil)))) .nil))))
    (.cons (.asg 6 (.comp (.call (.g (.ref 539)) (.cons (.v 0) (.cons (.v 1) (.cons (.bin .Add (.v 2) (.v 5)) (.cons (.bin .Sub (.v 3) (.int (1))) .nil))))) 8 (.v 5)))
    (.cons (.ret (.call (.g (.ref 415)) (.cons (.v 5) (.cons (.v 6) (.cons (.call (.g (.ref 544)) (.cons (.v 0) (.cons (.v 1) (.cons (.bin .Add (.v 2) (.v 5)) (.cons (.bin .Sub (.v 3) (.int (1))) .nil))))) .nil)))))
    .nil))) .nil)
    (.cons (.ite (.and (.cmp .Eq (.v 4) (.int (5))) (.cmp .NotEq (.v 2) (.list .nil))) (.cons (.ret (.call (.g (.ref 137)) (.cons (.call (.g (.ref 527)) (.cons (.v 0) (.cons (.v 2) .nil))) (.cons (.call (.g (.ref 544)) (.cons (.v 0) (.cons (.v 1) (.cons (.v 2) (.cons (.bin .Sub (.v 3) (.int (1))) .nil))))) .nil))))
    .nil) .nil)
    (.cons (.ite (.cmp .Lt (.v 4) (.int (7))) (.cons (.ret (.call (.g (.ref 170)) (.cons (.call (.g (.ref 515)) (.cons (.v 0) (.cons (.int (4)) .nil))) (.cons (.call (.g (.ref 544)) (.cons (.v 0) (.cons (.v 1) (.cons (.v 2) (.cons (.bin .Sub (.v 3) (.int (1))) .nil))))) .nil))))
    .nil) .nil)
    (.cons (.ite (.cmp .Eq (.v 4) (.int (7))) (.cons (.asg 7 (.call (.g (.ref 539)) (.cons (.v 0) (.cons (.v 1) (.cons (.v 2) (.cons (.v 3) .nil))))))
    (.cons (.ret (.call (.g (.ref 316)) (.cons (.v 7) (.cons (.comp (.call (.g (.ref 544)) (.cons (.v 0) (.cons (.v 1) (.cons (.v 2) (.cons (.bin .Sub (.v 3) (.int (1))) .nil))))) 8 (.attr (.v 7) ⟨#[112, 97, 114, 97, 109, 115]⟩)) .nil))))
    .nil)) .nil)
    (.cons (.asg 6 (.comp (.call (.g (.ref 544)) (.cons (.v 0) (.cons (.v 1) (.cons (.v 2) (.cons (.bin .Sub (.v 3) (.int (1))) .nil))))) 8 (.call (.g (.type "range")) (.cons (.bin .Add (.int (1)) (.call (.g (.ref 515)) (.cons (.v 0) (.cons (.int (3)) .nil)))) .nil))))
    (.cons (.ite (.cmp .Eq (.v 4) (.int (8))) (.cons (.ret (.call (.g (.ref 236)) (.cons (.idx (.v 6) (.int (0))) (.cons (.idx (.v 6) (.neg (.int (1)))) (.cons (.call (.g (.ref 66)) (.cons (.int (0)) .nil)) .nil)))))
    .nil) .nil)
    (.cons (.ite (.cmp .Eq (.v 4) (.int (9))) (.cons (.ret (.call (.g (.ref 349)) (.cons (.v 6) .nil)))
    .nil) .nil)
    (.cons (.ret (.ite (.cmp .Eq (.v 4) (.int (10))) (.call (.g (.ref 316)) (.cons (.idx (.v 6) (.int (0))) (.cons (.cutFrom (.v 6) (.int (1))) .nil))) (.call (.g (.ref 382)) (.cons (.g (.int (46) 875)) (.cons (.v 6) .nil)))))
    .nil)))))))))))))
theorem c_law_node_of (P : Params) : cB (KK P) 40 (fdS (dAt 41)) ns_law_node_of (fdB (dAt 41)) = some ir_law_node_of := by kernel_rfl
theorem k_law_node_of (P : Params) : (KK P).lookup 544 = some (ob544 P) := by kernel_rfl
noncomputable def ns_law_is_own_let : List Str := [⟨#[95, 108, 97, 119, 95, 110, 111, 100, 101]⟩]
noncomputable def ir_law_is_own_let : Sts := (.cons (.ite (.or (.cmp .NotEq (.attr (.v 0) q_kind) (.g (.int (8) 212))) (.cmp .NotEq (.attr (.attr (.v 0) ⟨#[111, 112, 101, 114, 97, 116, 111, 114]⟩) q_kind) (.g (.int (7) 210)))) (.cons (.ret (.bool false))
    .nil) .nil)
    (.cons (.ret (.and (.cmp .Lt (.attr (.attr (.v 0) ⟨#[111, 112, 101, 114, 97, 116, 111, 114]⟩) ⟨#[114, 101, 115, 116]⟩) (.int (0))) (.cmp .Eq (.call (.g (.builtin "len")) (.cons (.attr (.attr (.v 0) ⟨#[111, 112, 101, 114, 97, 116, 111, 114]⟩) ⟨#[112, 97, 114, 97, 109, 115]⟩) .nil)) (.call (.g (.builtin "len")) (.cons (.attr (.v 0) ⟨#[111, 112, 101, 114, 97, 110, 100, 115]⟩) .nil)))))
    .nil))
theorem c_law_is_own_let (P : Params) : cB (KK P) 40 (fdS (dAt 42)) ns_law_is_own_let (fdB (dAt 42)) = some ir_law_is_own_let := by kernel_rfl
theorem k_law_is_own_let (P : Params) : (KK P).lookup 551 = some (ob551 P) := by kernel_rfl
noncomputable def ns_law_walk : List Str := [⟨#[95, 108, 97, 119, 95, 110, 111, 100, 101]⟩, ⟨#[95, 108, 97, 119, 95, 102, 111, 117, 110, 100]⟩, ⟨#[95, 108, 97, 119, 95, 99, 104, 97, 105, 110]⟩, ⟨#[95, 108, 97, 119, 95, 104, 111, 109, 101, 115]⟩, ⟨#[95, 108, 97, 119, 95, 108, 101, 116, 115]⟩, ⟨#[95, 108, 97, 119, 95, 108, 97, 98, 101, 108]⟩, ⟨#[95, 108, 97, 119, 95, 110, 117, 109, 98, 101, 114]⟩, ⟨#[95, 108, 97, 119, 95, 112, 97, 114, 116]⟩]
noncomputable def ir_law_walk : Sts := (.cons (.asg 5 (.ite (.cmp .NotEq (.v 2) (.tuple .nil)) (.idx (.v 2) (.int (0))) (.neg (.int (1)))))
    (.cons (.ite (.cmp .In (.attr (.v 0) q_kind) (.tuple (.cons (.g (.int (1) 198)) (.cons (.g (.int (3) 202)) .nil)))) (.cons (.expr (.meth (.v 1) ⟨#[97, 112, 112, 101, 110, 100]⟩ (.cons (.tuple (.cons (.ite (.cmp .Eq (.attr (.v 0) q_kind) (.g (.int (1) 198))) (.str ⟨#[114, 101, 97, 100]⟩) (.str ⟨#[115, 101, 116]⟩)) (.cons (.attr (.v 0) ⟨#[110, 117, 109, 98, 101, 114]⟩) (.cons (.v 2) .nil)))) .nil)))
    .nil) .nil)
    (.cons (.ite (.cmp .Eq (.attr (.v 0) q_kind) (.g (.int (2) 200))) (.cons (.expr (.meth (.v 1) ⟨#[97, 112, 112, 101, 110, 100]⟩ (.cons (.tuple (.cons (.str ⟨#[103, 108, 111, 98, 97, 108]⟩) (.cons (.attr (.v 0) ⟨#[115, 121, 109, 98, 111, 108]⟩) (.cons (.v 2) .nil)))) .nil)))
    .nil) .nil)
    (.cons (.ite (.cmp .In (.attr (.v 0) q_kind) (.tuple (.cons (.g (.int (4) 204)) (.cons (.g (.int (5) 206)) .nil)))) (.cons (.expr (.meth (.v 1) ⟨#[97, 112, 112, 101, 110, 100]⟩ (.cons (.tuple (.cons (.str ⟨#[115, 101, 116, 32, 103, 108, 111, 98, 97, 108]⟩) (.cons (.attr (.v 0) ⟨#[115, 121, 109, 98, 111, 108]⟩) (.cons (.v 2) .nil)))) .nil)))
    .nil) .nil)
    (.cons (.ite (.and (.cmp .Eq (.attr (.v 0) q_kind) (.g (.int (8) 212))) (.cmp .Eq (.attr (.attr (.v 0) ⟨#[111, 112, 101, 114, 97, 116, 111, 114]⟩) q_kind) (.g (.int (1) 198)))) (.cons (.expr (.meth (.v 1) ⟨#[97, 112, 112, 101, 110, 100]⟩ (.cons (.tuple (.cons (.str ⟨#[99, 97, 108, 108, 101, 100]⟩) (.cons (.attr (.attr (.v 0) ⟨#[111, 112, 101, 114, 97, 116, 111, 114]⟩) ⟨#[110, 117, 109, 98, 101, 114]⟩) (.cons (.v 2) .nil)))) .nil)))
    .nil) .nil)
    (.cons (.ite (.call (.g (.ref 551)) (.cons (.v 0) .nil)) (.cons (.expr (.meth (.v 4) ⟨#[97, 112, 112, 101, 110, 100]⟩ (.cons (.attr (.attr (.v 0) ⟨#[111, 112, 101, 114, 97, 116, 111, 114]⟩) ⟨#[108, 97, 98, 101, 108]⟩) .nil)))
    .nil) .nil)
    (.cons (.ite (.cmp .Eq (.attr (.v 0) q_kind) (.g (.int (11) 218))) (.cons (.each 6 (.attr (.v 0) ⟨#[110, 117, 109, 98, 101, 114, 115]⟩) (.cons (.asgI (.v 3) (.v 6) (.v 5))
    .nil))
    .nil) .nil)
    (.cons (.ite (.cmp .Eq (.attr (.v 0) q_kind) (.g (.int (7) 210))) (.cons (.each 6 (.bin .Add (.attr (.v 0) ⟨#[112, 97, 114, 97, 109, 115]⟩) (.ite (.cmp .GtE (.attr (.v 0) ⟨#[114, 101, 115, 116]⟩) (.int (0))) (.list (.cons (.attr (.v 0) ⟨#[114, 101, 115, 116]⟩) .nil)) (.list .nil))) (.cons (.asgI (.v 3) (.v 6) (.attr (.v 0) ⟨#[108, 97, 98, 101, 108]⟩))
    .nil))
    (.cons (.expr (.meth (.v 1) ⟨#[97, 112, 112, 101, 110, 100]⟩ (.cons (.tuple (.cons (.str ⟨#[108, 97, 109, 98, 100, 97]⟩) (.cons (.attr (.v 0) ⟨#[108, 97, 98, 101, 108]⟩) (.cons (.v 2) .nil)))) .nil)))
    (.cons (.asg 2 (.bin .Add (.tuple (.cons (.attr (.v 0) ⟨#[108, 97, 98, 101, 108]⟩) .nil)) (.v 2)))
    .nil))) .nil)
    (.cons (.each 7 (.meth (.v 0) q_parts .nil) (.cons (.expr (.call (.g (.ref 558)) (.cons (.v 7) (.cons (.v 1) (.cons (.v 2) (.cons (.v 3) (.cons (.v 4) .nil)))))))
    .nil))
    .nil)))))))))
theorem c_law_walk (P : Params) : cB (KK P) 40 (fdS (dAt 43)) ns_law_walk (fdB (dAt 43)) = some ir_law_walk := by kernel_rfl
theorem k_law_walk (P : Params) : (KK P).lookup 558 = some (ob558 P) := by kernel_rfl
noncomputable def ns_law_count : List Str := [⟨#[95, 108, 97, 119, 95, 102, 111, 117, 110, 100]⟩, ⟨#[95, 108, 97, 119, 95, 119, 104, 97, 116]⟩, ⟨#[95, 108, 97, 119, 95, 110, 117, 109, 98, 101, 114]⟩]
noncomputable def ir_law_count : Sts := (.cons (.ret (.call (.g (.builtin "len")) (.cons (.compIf (.int (1)) 3 (.v 0) (.and (.cmp .Eq (.idx (.v 3) (.int (0))) (.v 1)) (.cmp .Eq (.idx (.v 3) (.int (1))) (.v 2)))) .nil)))
    .nil)
theorem c_law_count (P : Params) : cB (KK P) 40 (fdS (dAt 44)) ns_law_count (fdB (dAt 44)) = some ir_law_count := by kernel_rfl
theorem k_law_count (P : Params) : (KK P).lookup 563 = some (ob563 P) := by kernel_rfl
noncomputable def ns_law_taken : List Str := [⟨#[95, 108, 97, 119, 95, 102, 111, 117, 110, 100]⟩, ⟨#[95, 108, 97, 119, 95, 108, 97, 98, 101, 108]⟩, ⟨#[95, 108, 97, 119, 95, 104, 111, 109, 101, 115]⟩, ⟨#[95, 108, 97, 119, 95, 115, 111, 109, 101]⟩, ⟨#[95, 108, 97, 119, 95, 119, 104, 97, 116]⟩, ⟨#[95, 108, 97, 119, 95, 110, 117, 109, 98, 101, 114]⟩, ⟨#[95, 108, 97, 119, 95, 99, 104, 97, 105, 110]⟩]
noncomputable def ir_law_taken : Sts := (.cons (.asg 3 (.list .nil))
    (.cons (.eachT [4, 5, 6] (.v 0) (.cons (.ite (.and (.cmp .In (.v 4) (.tuple (.cons (.str ⟨#[114, 101, 97, 100]⟩) (.cons (.str ⟨#[115, 101, 116]⟩) .nil)))) (.and (.cmp .In (.v 1) (.v 6)) (.cmp .NotIn (.v 5) (.v 3)))) (.cons (.ite (.cmp .NotIn (.idx (.v 2) (.v 5)) (.cutTo (.v 6) (.bin .Add (.meth (.v 6) ⟨#[105, 110, 100, 101, 120]⟩ (.cons (.v 1) .nil)) (.int (1))))) (.cons (.expr (.meth (.v 3) ⟨#[97, 112, 112, 101, 110, 100]⟩ (.cons (.v 5) .nil)))
    .nil) .nil)
    .nil) .nil)
    .nil))
    (.cons (.ret (.call (.g (.builtin "sorted")) (.cons (.v 3) .nil)))
    .nil)))
theorem c_law_taken (P : Params) : cB (KK P) 40 (fdS (dAt 45)) ns_law_taken (fdB (dAt 45)) = some ir_law_taken := by kernel_rfl
theorem k_law_taken (P : Params) : (KK P).lookup 570 = some (ob570 P) := by kernel_rfl
noncomputable def ns_law_is_caught : List Str := [⟨#[95, 108, 97, 119, 95, 102, 111, 117, 110, 100]⟩, ⟨#[95, 108, 97, 119, 95, 110, 117, 109, 98, 101, 114]⟩, ⟨#[95, 108, 97, 119, 95, 104, 111, 109, 101]⟩, ⟨#[95, 108, 97, 119, 95, 108, 101, 116, 115]⟩, ⟨#[95, 108, 97, 119, 95, 119, 104, 97, 116]⟩, ⟨#[95, 108, 97, 119, 95, 108, 111, 99, 97, 108]⟩, ⟨#[95, 108, 97, 119, 95, 99, 104, 97, 105, 110]⟩, ⟨#[95, 108, 97, 119, 95, 105, 110, 110, 101, 114]⟩]
noncomputable def ir_law_is_caught : Sts := (.cons (.eachT [4, 5, 6] (.v 0) (.cons (.ite (.and (.cmp .In (.v 4) (.tuple (.cons (.str ⟨#[114, 101, 97, 100]⟩) (.cons (.str ⟨#[115, 101, 116]⟩) .nil)))) (.cmp .Eq (.v 5) (.v 1))) (.cons (.asg 7 (.ite (.cmp .In (.v 2) (.v 6)) (.cutTo (.v 6) (.meth (.v 6) ⟨#[105, 110, 100, 101, 120]⟩ (.cons (.v 2) .nil))) (.v 6)))
    (.cons (.ite (.cmp .NotEq (.compIf (.int (1)) 8 (.v 7) (.cmp .NotIn (.v 8) (.v 3))) (.list .nil)) (.cons (.ret (.bool true))
    .nil) .nil)
    .nil)) .nil)
    .nil))
    (.cons (.ret (.bool false))
    .nil))
theorem c_law_is_caught (P : Params) : cB (KK P) 40 (fdS (dAt 46)) ns_law_is_caught (fdB (dAt 46)) = some ir_law_is_caught := by kernel_rfl
theorem k_law_is_caught (P : Params) : (KK P).lookup 575 = some (ob575 P) := by kernel_rfl
noncomputable def ns_law : List Str := [⟨#[115, 99, 114, 105, 112, 116]⟩, ⟨#[95, 108, 97, 119, 95, 100, 101, 99, 107]⟩, ⟨#[95, 108, 97, 119, 95, 115, 116, 97, 116, 101]⟩, ⟨#[95, 108, 97, 119, 95, 105, 110, 110, 101, 114]⟩, ⟨#[95, 108, 97, 119, 95, 110, 111, 100, 101, 115]⟩, ⟨#[95, 108, 97, 119, 95, 102, 111, 117, 110, 100]⟩, ⟨#[95, 108, 97, 119, 95, 104, 111, 109, 101, 115]⟩, ⟨#[95, 108, 97, 119, 95, 108, 101, 116, 115]⟩, ⟨#[95, 108, 97, 119, 95, 102, 97, 99, 116, 115]⟩, ⟨#[95, 108, 97, 119, 95, 110, 111, 100, 101]⟩, ⟨#[95, 108, 97, 119, 95, 110, 117, 109, 98, 101, 114]⟩, ⟨#[95, 108, 97, 119, 95, 114, 101, 97, 100]⟩, ⟨#[95, 108, 97, 119, 95, 104, 111, 109, 101]⟩, ⟨#[95, 108, 97, 119, 95, 116, 111, 108, 100]⟩, ⟨#[95, 108, 97, 119, 95, 119, 104, 97, 116]⟩, ⟨#[95, 108, 97, 119, 95, 108, 97, 98, 101, 108]⟩, ⟨#[95, 108, 97, 119, 95, 99, 104, 97, 105, 110]⟩, ⟨#[95, 108, 97, 119, 95, 115, 121, 109, 98, 111, 108]⟩, ⟨#[95, 108, 97, 119, 95, 100, 117, 101]⟩]
noncomputable def ir_law : Sts := (.cons (.asgR [1, 2] (.tuple (.cons (.call (.g (.ref 520)) (.cons (.v 0) .nil)) (.cons (.list (.cons (.int (2)) (.cons (.int (0)) .nil))) .nil))))
    (.cons (.asg 3 (.call (.g (.ref 283)) (.cons (.call (.g (.ref 534)) (.cons (.v 2) (.cons (.int (1)) .nil))) (.cons (.list .nil) (.cons (.neg (.int (1))) (.cons (.call (.g (.ref 137)) (.cons (.int (1)) (.cons (.call (.g (.ref 66)) (.cons (.int (4)) .nil)) .nil))) .nil))))))
    (.cons (.asg 4 (.list (.cons (.call (.g (.ref 283)) (.cons (.call (.g (.ref 534)) (.cons (.v 2) (.cons (.int (1)) .nil))) (.cons (.list (.cons (.int (1)) .nil)) (.cons (.int (2)) (.cons (.call (.g (.ref 349)) (.cons (.list (.cons (.v 3) (.cons (.call (.g (.ref 544)) (.cons (.v 1) (.cons (.v 2) (.cons (.list (.cons (.int (1)) (.cons (.int (2)) .nil))) (.cons (.int (2)) .nil))))) .nil))) .nil)) .nil))))) .nil)))
    (.cons (.ite (.cmp .Eq (.call (.g (.ref 515)) (.cons (.v 1) (.cons (.int (2)) .nil))) (.int (1))) (.cons (.expr (.meth (.v 4) ⟨#[97, 112, 112, 101, 110, 100]⟩ (.cons (.call (.g (.ref 203)) (.cons (.int (1)) (.cons (.call (.g (.ref 544)) (.cons (.v 1) (.cons (.v 2) (.cons (.list .nil) (.cons (.int (2)) .nil))))) .nil))) .nil)))
    .nil) .nil)
    (.cons (.asgT [5, 6, 7, 8] (.tuple (.cons (.list .nil) (.cons .dict (.cons (.list .nil) (.cons (.call (.g (.ref 508)) (.cons (.v 4) .nil)) .nil))))))
    (.cons (.each 9 (.v 4) (.cons (.expr (.call (.g (.ref 558)) (.cons (.v 9) (.cons (.v 5) (.cons (.tuple .nil) (.cons (.v 6) (.cons (.v 7) .nil)))))))
    .nil))
    (.cons (.each 10 (.call (.g (.builtin "sorted")) (.cons (.v 6) .nil)) (.cons (.asgR [11, 12] (.tuple (.cons (.call (.g (.ref 563)) (.cons (.v 5) (.cons (.str ⟨#[114, 101, 97, 100]⟩) (.cons (.v 10) .nil)))) (.cons (.idx (.v 6) (.v 10)) .nil))))
    (.cons (.asg 13 (.list (.cons (.meth (.v 8) q_times_read (.cons (.v 10) .nil)) (.cons (.meth (.attr (.v 8) ⟨#[115, 101, 116]⟩) ⟨#[103, 101, 116]⟩ (.cons (.v 10) (.cons (.int (0)) .nil))) (.cons (.meth (.v 8) q_times_called (.cons (.v 10) .nil)) (.cons (.idx (.attr (.v 8) ⟨#[98, 111, 117, 110, 100]⟩) (.v 10)) .nil))))))
    (.cons (.ite (.cmp .NotEq (.v 13) (.list (.cons (.v 11) (.cons (.call (.g (.ref 563)) (.cons (.v 5) (.cons (.str ⟨#[115, 101, 116]⟩) (.cons (.v 10) .nil)))) (.cons (.call (.g (.ref 563)) (.cons (.v 5) (.cons (.str ⟨#[99, 97, 108, 108, 101, 100]⟩) (.cons (.v 10) .nil)))) (.cons (.v 12) .nil)))))) (.cons (.ret (.bool false))
    .nil) .nil)
    (.cons (.ite (.or (.cmp .NotEq (.meth (.v 8) q_is_set (.cons (.v 10) .nil)) (.cmp .Gt (.idx (.v 13) (.int (1))) (.int (0)))) (.cmp .NotEq (.meth (.attr (.v 8) ⟨#[99, 97, 117, 103, 104, 116]⟩) ⟨#[103, 101, 116]⟩ (.cons (.v 10) (.cons (.bool false) .nil))) (.call (.g (.ref 575)) (.cons (.v 5) (.cons (.v 10) (.cons (.v 12) (.cons (.v 7) .nil))))))) (.cons (.ret (.bool false))
    .nil) .nil)
    .nil)))))
    (.cons (.eachT [14, 15, 16] (.v 5) (.cons (.ite (.and (.cmp .Eq (.v 14) (.str ⟨#[108, 97, 109, 98, 100, 97]⟩)) (.cmp .NotEq (.meth (.v 8) q_free (.cons (.v 15) .nil)) (.call (.g (.ref 570)) (.cons (.v 5) (.cons (.v 15) (.cons (.v 6) .nil)))))) (.cons (.ret (.bool false))
    .nil) .nil)
    (.cons (.ite (.and (.cmp .Eq (.v 14) (.str ⟨#[108, 97, 109, 98, 100, 97]⟩)) (.cmp .NotEq (.idx (.attr (.v 8) ⟨#[112, 97, 114, 101, 110, 116]⟩) (.v 15)) (.ite (.cmp .NotEq (.v 16) (.tuple .nil)) (.idx (.v 16) (.int (0))) (.neg (.int (1)))))) (.cons (.ret (.bool false))
    .nil) .nil)
    .nil)))
    (.cons (.each 17 (.call (.g (.type "range")) (.cons (.int (4)) .nil)) (.cons (.asg 18 (.call (.g (.ref 563)) (.cons (.v 5) (.cons (.str ⟨#[115, 101, 116, 32, 103, 108, 111, 98, 97, 108]⟩) (.cons (.v 17) .nil)))))
    (.cons (.ite (.or (.cmp .NotEq (.meth (.attr (.v 8) ⟨#[114, 101, 97, 100, 95, 103, 108, 111, 98, 97, 108, 115]⟩) ⟨#[103, 101, 116]⟩ (.cons (.v 17) (.cons (.int (0)) .nil))) (.call (.g (.ref 563)) (.cons (.v 5) (.cons (.str ⟨#[103, 108, 111, 98, 97, 108]⟩) (.cons (.v 17) .nil))))) (.cmp .NotEq (.meth (.attr (.v 8) ⟨#[115, 101, 116, 95, 103, 108, 111, 98, 97, 108, 115]⟩) ⟨#[103, 101, 116]⟩ (.cons (.v 17) (.cons (.int (0)) .nil))) (.v 18))) (.cons (.ret (.bool false))
    .nil) .nil)
    (.cons (.ite (.cmp .NotEq (.meth (.v 8) q_is_set_global (.cons (.v 17) .nil)) (.cmp .Gt (.v 18) (.int (0)))) (.cons (.ret (.bool false))
    .nil) .nil)
    .nil))))
    (.cons (.ret (.cmp .Eq (.call (.g (.builtin "sorted")) (.cons (.attr (.v 8) ⟨#[98, 111, 117, 110, 100]⟩) .nil)) (.call (.g (.builtin "sorted")) (.cons (.v 6) .nil))))
    .nil))))))))))
theorem c_law (P : Params) : cB (KK P) 40 (fdS (dAt 47)) ns_law (fdB (dAt 47)) = some ir_law := by kernel_rfl
theorem k_law (P : Params) : (KK P).lookup 582 = some (ob582 P) := by kernel_rfl
/-! Prim1 -/
section
variable {w : World} {k : Nat} {n : Led} {Q : Value → Led → Prop}

theorem ok_add {a b : Int} {t u : Tok} (h : ∀ t, Q (.int (a + b) t) n) : OK w k (binaryOp .Add (.int a t) (.int b u)) n Q := fun A g L m R s C => add_int ⟨n, s.heap, _, rfl, C, h _⟩
theorem ok_sub {a b : Int} {t u : Tok} (h : ∀ t, Q (.int (a - b) t) n) : OK w k (binaryOp .Sub (.int a t) (.int b u)) n Q := fun A g L m R s C => sub_int ⟨n, s.heap, _, rfl, C, h _⟩
theorem ok_mod {a b : Int} {t u : Tok} (hb : b ≠ 0) (h : ∀ t, Q (.int (a.fmod b) t) n) : OK w k (binaryOp .Mod (.int a t) (.int b u)) n Q := fun A g L m R s C => mod_int' hb ⟨n, s.heap, _, rfl, C, h _⟩
theorem ok_floordiv {a b : Int} {t u : Tok} (hb : b ≠ 0) (hp : Builtin.divisionGoesByPylong a b = false) (h : ∀ t, Q (.int (a.fdiv b) t) n) : OK w k (binaryOp .FloorDiv (.int a t) (.int b u)) n Q := fun A g L m R s C =>
  floordiv_int hb ⟨n, s.heap, _, rfl, C, h _⟩ (.inl hp)
theorem ok_pow {a b : Int} {t u : Tok} (hb : 0 ≤ b) (hs : ↑(Builtin.Int.intBits a) * b ≤ 2 ^ 27) (h : ∀ t, Q (.int (a ^ b.toNat) t) n) : OK w k (binaryOp .Pow (.int a t) (.int b u)) n Q := fun A g L m R s C =>
  pow_int hb hs ⟨n, s.heap, _, rfl, C, h _⟩
theorem ok_eq_int {a b : Int} {t u : Tok} (h : Q (.bool (a == b)) n) : OK w k (compareOp .Eq (.int a t) (.int b u)) n Q := fun A g L m R s C => eq_int ⟨n, s.heap, s.toks, rfl, C, h⟩
theorem ok_ne_int {a b : Int} {t u : Tok} (h : Q (.bool (a != b)) n) : OK w k (compareOp .NotEq (.int a t) (.int b u)) n Q := fun A g L m R s C => ne_int ⟨n, s.heap, s.toks, rfl, C, h⟩
theorem ok_lt_int {a b : Int} {t u : Tok} (h : Q (.bool (decide (a < b))) n) : OK w k (compareOp .Lt (.int a t) (.int b u)) n Q := fun A g L m R s C => lt_int ⟨n, s.heap, s.toks, rfl, C, h⟩
theorem ok_gt_int {a b : Int} {t u : Tok} (h : Q (.bool (decide (b < a))) n) : OK w k (compareOp .Gt (.int a t) (.int b u)) n Q := fun A g L m R s C => gt_int ⟨n, s.heap, s.toks, rfl, C, h⟩
theorem ok_ge_int {a b : Int} {t u : Tok} (h : Q (.bool (decide (b ≤ a))) n) : OK w k (compareOp .GtE (.int a t) (.int b u)) n Q := fun A g L m R s C => ge_int ⟨n, s.heap, s.toks, rfl, C, h⟩
theorem ok_ne_bool {a b : Bool} (h : Q (.bool (a != b)) n) : OK w k (compareOp .NotEq (.bool a) (.bool b)) n Q := fun A g L m R s C => ne_bool ⟨n, s.heap, s.toks, rfl, C, h⟩
theorem ok_eq_str {a b : Str} {t u : Tok} (h : Q (.bool (a == b)) n) : OK w k (compareOp .Eq (.str a t) (.str b u)) n Q := fun A g L m R s C => eq_str ⟨n, s.heap, s.toks, rfl, C, h⟩
theorem ok_abs {a : Int} {t : Tok} (h : ∀ t, Q (.int (if a < 0 then -a else a) t) n) : OK w k (call (.builtin "abs") [.int a t]) n Q := fun A g L m R s C => call_abs_int fun u tk => ⟨n, s.heap, _, rfl, C, h _⟩

section
variable {A : Around} {g h : Heap} {L : Addr} {m : Str → Option Value} {R : Led}
theorem Cx.isList (C : Cx w k A g L m (R ++ n) h) {a : Addr} {its : Array Value} {e : Nat} (hm : (a, listOf its e) ∈ n) : h.IsList a its := ⟨_, C.get hm, rfl, _, rfl⟩
theorem Cx.isTup (C : Cx w k A g L m (R ++ n) h) {a : Addr} {its : Array Value} (hm : (a, tupOf its) ∈ n) : IsTup h a its := ⟨_, C.get hm, rfl, _, rfl⟩
theorem Cx.u64 (C : Cx w k A g L m (R ++ n) h) (hk : 8 ≤ k) : A.units + 64 < cLine := by have := C.units; omega
theorem fresh_of (C : Cx w k A g L m (R ++ n) h) {l : Addr} (lt : ∀ p ∈ R ++ n, p.1 < l) : l ∉ keys n := fun hl => by
  obtain ⟨p, hp, e⟩ := List.mem_map.mp hl
  have := lt p (List.mem_append_right _ hp)
  rw [e] at this
  exact Nat.lt_irrefl _ this
end

/-- comparison of lists of ints -/
theorem ok_eq_ints {a b : Addr} {vs us : List Value} {ns ms : List Int} {e e' : Nat} (hk : 8 ≤ k) (ha : (a, listOf vs.toArray e) ∈ n) (hb : (b, listOf us.toArray e') ∈ n) (hi : IntsAre vs ns) (hj : IntsAre us ms)
    (h : Q (.bool (decide (ns = ms))) n) : OK w k (compareOp .Eq (.ref a) (.ref b)) n Q := fun A g L m R s C => eq_intsK (C.isList ha) hi (C.isList hb) hj (C.u64 hk) ⟨n, s.heap, s.toks, rfl, C, h⟩
theorem ok_ne_ints {a b : Addr} {vs us : List Value} {ns ms : List Int} {e e' : Nat} (hk : 8 ≤ k) (ha : (a, listOf vs.toArray e) ∈ n) (hb : (b, listOf us.toArray e') ∈ n) (hi : IntsAre vs ns) (hj : IntsAre us ms)
    (h : Q (.bool (!decide (ns = ms))) n) : OK w k (compareOp .NotEq (.ref a) (.ref b)) n Q := fun A g L m R s C => ne_intsK (C.isList ha) hi (C.isList hb) hj (C.u64 hk) ⟨n, s.heap, s.toks, rfl, C, h⟩
theorem shaped_tup (ns : List Int) : SeqAt.shaped (.tuple (ns.map PyData.int)) = true := by
  have h1 := PySem.W.depthAll_ints ns
  have h2 : PyData.depth (.tuple (ns.map PyData.int)) ≤ 64 := by simp only [PyData.depth]; omega
  show (PyData.canLay0 (.tuple (ns.map PyData.int)) && decide (PyData.depth (.tuple (ns.map PyData.int)) ≤ 64)) = true
  rw [Bool.and_eq_true]
  exact ⟨by simp only [PyData.canLay0]; exact canLayAll0_ints ns, decide_eq_true h2⟩
theorem ok_ne_tups {a b : Addr} {vs us : List Value} {ns ms : List Int} (hk : 8 ≤ k) (ha : (a, tupOf vs.toArray) ∈ n) (hb : (b, tupOf us.toArray) ∈ n) (hi : IntsAre vs ns) (hj : IntsAre us ms)
    (h : Q (.bool (!decide (ns = ms))) n) : OK w k (compareOp .NotEq (.ref a) (.ref b)) n Q := fun A g L m R s C => by
  have r1 : Reads s.heap (.ref a) (.tuple (ns.map PyData.int)) [] := reads_tuple_at (C.get ha) rfl rfl (by simpa using readsAll_of_ints hi)
  have r2 : Reads s.heap (.ref b) (.tuple (ms.map PyData.int)) [] := reads_tuple_at (C.get hb) rfl rfl (by simpa using readsAll_of_ints hj)
  exact ne_dataH_same r1 r2 (shaped_tup ns) (shaped_tup ms) (C.u64 hk) (by simp only [SeqAt.noMix]; exact noMix_ints ns ms) (by simp only [PySem.Spec.same]; rw [same_ints]; exact ⟨n, s.heap, s.toks, rfl, C, h⟩)

/-- items -/
theorem sub_of_type {A : Around} {E : Value → Shared → Prop} {s : Shared} {o i : Value} {T id : String} {Q' : Value → Shared → Prop} (hT : s.TypeIs o T) (hl : typeLookup (.type T) "__getitem__" = pure (some (.builtin id)))
    (h : wpAny (model PR w) A (getItem o i) Q' E s) : wpAny (model PR w) A (subTree o i) Q' E s := by
  unfold subTree
  refine wpAny_bind ?_
  rw [getitemInPython_of_ne hT.not_modules]
  refine wpAny_bind (wpAny_specialOf hT hl ?_)
  exact wpAny_pure (wpAny_operating h)
theorem cut_of_type {A : Around} {E : Value → Shared → Prop} {s : Shared} {o i : Value} {T id : String} {Q' : Value → Shared → Prop} (hT : s.TypeIs o T) (hl : typeLookup (.type T) "__getitem__" = pure (some (.builtin id)))
    (h : wpAny (model PR w) A (getItem o i) Q' E s) : wpAny (model PR w) A (cutTree o i) Q' E s := by
  unfold cutTree
  refine wpAny_bind ?_
  rw [getitemInPython_of_ne hT.not_modules]
  refine wpAny_bind (wpAny_specialOf hT hl ?_)
  exact wpAny_pure (wpAny_operating h)
theorem ok_idx_list {a : Addr} {vs : List Value} {e : Nat} {i : Int} {t : Tok} {x : Value} (ha : (a, listOf vs.toArray e) ∈ n) (h0 : 0 ≤ i) (h1 : i < 2 ^ 63) (hx : vs[i.toNat]? = some x) (h : Q x n) : OK w k (subTree (.ref a) (.int i t)) n Q := fun A g L m R s C =>
  sub_of_type (C.isList ha).typeIs list_getitem_lookup (getItem_listL (C.isList ha) h0 h1 hx ⟨n, s.heap, s.toks, rfl, C, h⟩)
end
/-! Prim2 -/
section
variable {w : World} {k : Nat} {n : Led} {Q : Value → Led → Prop}

theorem ok_idx_last {a : Addr} {vs : List Value} {e : Nat} {t : Tok} {x : Value} (ha : (a, listOf vs.toArray e) ∈ n) (hx : vs.getLast? = some x) (h : Q x n) : OK w k (subTree (.ref a) (.int (-1) t)) n Q := fun A g L m R s C => by
  have hne : 0 < vs.length := by cases vs with | nil => cases hx | cons => simp
  refine sub_of_type (C.isList ha).typeIs list_getitem_lookup (wpAny_getItem_list_neg (C.isList ha) (by decide) ?_ (by decide) ?_ ⟨n, s.heap, s.toks, rfl, C, h⟩)
  · simp; omega
  · rw [List.getLast?_eq_getElem?] at hx
    have e : ((-1 : Int) + (vs.toArray.size : Int)).toNat = vs.length - 1 := by simp; omega
    rw [e]; simpa using hx
theorem ok_idx_tup {a : Addr} {vs : List Value} {i : Int} {t : Tok} {x : Value} (ha : (a, tupOf vs.toArray) ∈ n) (h0 : 0 ≤ i) (h1 : i < 2 ^ 63) (hx : vs[i.toNat]? = some x) (h : Q x n) : OK w k (subTree (.ref a) (.int i t)) n Q := fun A g L m R s C => by
  have hlt : i.toNat < vs.length := (List.getElem?_eq_some_iff.mp hx).1
  refine sub_of_type (C.isTup ha).typeIs slot_tuple_getitem.lookup (getItem_tuple (j := i.toNat) (C.isTup ha) (by omega) h1 ?_ (by simpa using hx) ⟨n, s.heap, s.toks, rfl, C, h⟩)
  unfold seqIndex?
  have h2 : ¬ i < 0 := by omega
  simp only [h2, if_false]
  rw [if_pos (by simp; omega)]
theorem ok_setItem_list {a : Addr} {vs : List Value} {e : Nat} {i : Int} {t : Tok} {v : Value} {Q : Unit → Led → Prop} (ha : (a, listOf vs.toArray e) ∈ n) (h0 : 0 ≤ i) (h1 : i < 2 ^ 63) (h2 : i.toNat < vs.length)
    (h : Q () (upd a (listOf (vs.set i.toNat v).toArray e) n)) : OK w k (setItem (.ref a) (.int i t) v) n Q := fun A g L m R s C => by
  have ho := C.get ha
  refine ki_setAt ho h0 h1 (by simp; omega) ?_
  have hs : Heap.SameBut a s.heap (s.heap.update a (Obj.mapSeq (·.setIfInBounds i.toNat v))) := Heap.SameBut.update ..
  have ho' := PySem.IsL.update (n := e) ho (·.setIfInBounds i.toNat v)
  rw [if_pos (by simp)] at ho'
  have e1 : vs.toArray.setIfInBounds i.toNat v = (vs.set i.toNat v).toArray := by simp
  rw [e1] at ho'
  have := C.put (List.mem_append_right _ ha) hs ho'
  rw [upd_append, upd_off (C.off (mem_keys ha))] at this
  exact ⟨_, _, s.toks, rfl, this, h⟩
theorem ok_pop0 {a : Addr} {x : Value} {vs : List Value} {e : Nat} {t : Tok} (ha : (a, listOf (x :: vs).toArray e) ∈ n) (hz : (x :: vs).length ≤ sizeLine) (h : Q x (upd a (listOf vs.toArray (e + 1)) n)) :
    OK w k (call (.builtin "list.pop") [.ref a, .int 0 t]) n Q := fun A g L m R s C => by
  have := kl_popAt (prog := PR) (w := w) (p := []) (q := vs) (y := x) (k := 0) (u := t) (i := 0) (A := A) (E := fun _ _ => False) (Q := fun v s' => Post w k A g L m R s (Q v) s') C.fr C.nw (by decide) (by simp [seqIndex?]) (by rfl) (C.to ha) (by simpa using hz)
    fun h' F N => ⟨_, h', s.toks, rfl, C.changed ha F N, h⟩
  exact this
theorem last_cut (p : List Value) (y : Value) : kl_last (p ++ [y]) = some (p, y) := by
  induction p with
  | nil => rfl
  | cons a r ih =>
    cases r with
    | nil => simp [kl_last]
    | cons b r => simp only [List.cons_append] at ih ⊢; unfold kl_last; rw [ih]
theorem ok_pop {a : Addr} {x : Value} {vs : List Value} {e : Nat} (ha : (a, listOf (vs ++ [x]).toArray e) ∈ n) (hz : (vs ++ [x]).length ≤ sizeLine) (h : Q x (upd a (listOf vs.toArray (e + 1)) n)) :
    OK w k (call (.builtin "list.pop") [.ref a]) n Q := fun A g L m R s C =>
  kl_pop (p := vs) (y := x) C.fr C.nw (last_cut vs x) (C.to ha) hz fun h' F N => ⟨_, h', s.toks, rfl, C.changed ha F N, h⟩
theorem ok_len_list {a : Addr} {vs : List Value} {e : Nat} (ha : (a, listOf vs.toArray e) ∈ n) (hz : vs.length ≤ sizeLine) (h : ∀ t, Q (.int vs.length t) n) : OK w k (call (.builtin "len") [.ref a]) n Q := fun A g L m R s C =>
  len_list (C.isList ha) (by have : sizeLine = 2 ^ 24 := rfl; simp; omega) ⟨n, s.heap, _, rfl, C, by simpa using h _⟩
theorem ok_copy_list {a : Addr} {vs : List Value} {e : Nat} (ha : (a, listOf vs.toArray e) ∈ n) (hz : vs.length ≤ sizeLine) (h : ∀ d c, d ∉ keys n → Q (.ref d) ((d, listOf vs.toArray c) :: n)) : OK w k (call (.type "list") [.ref a]) n Q := fun A g L m R s C =>
  list_copyK C.fr C.nw (C.isList ha) (fun D c h' F N lt => ⟨_, h', s.toks, rfl, C.alloc F N lt, h D c (fresh_of C lt)⟩) (by simpa using hz)
theorem ok_add_list {a b : Addr} {vs us : List Value} {e e' : Nat} (ha : (a, listOf vs.toArray e) ∈ n) (hb : (b, listOf us.toArray e') ∈ n) (hz : vs.length + us.length ≤ sizeLine) (h : ∀ d, d ∉ keys n → Q (.ref d) ((d, listOf (vs ++ us).toArray 0) :: n)) :
    OK w k (binaryOp .Add (.ref a) (.ref b)) n Q := fun A g L m R s C => by
  have lt : ∀ p ∈ R ++ n, p.1 < s.heap.objs.size := fun p hp => C.lt hp
  refine add_arrays (its := vs.toArray) (its2 := us.toArray) C.fr C.nw (C.isList ha) (C.isList hb) (fun h' F N => ?_) (by simpa using hz)
  exact ⟨_, h', s.toks, rfl, C.alloc F N lt, h _ (fresh_of C lt)⟩
theorem ok_add_tup {a b : Addr} {x : Value} {us : List Value} (ha : (a, tupOf [x].toArray) ∈ n) (hb : (b, tupOf us.toArray) ∈ n) (hz : 1 + us.length ≤ sizeLine) (h : ∀ d n', (n' = n ∨ ∃ o, d ∉ keys n ∧ n' = (d, o) :: n) → (d, tupOf (x :: us).toArray) ∈ n' → Q (.ref d) n') :
    OK w k (binaryOp .Add (.ref a) (.ref b)) n Q := fun A g L m R s C => by
  have lt : ∀ p ∈ R ++ n, p.1 < s.heap.objs.size := fun p hp => C.lt hp
  refine add_tuples (vs := [x]) (ws := us) C.fr C.nw (C.isTup ha) (C.isTup hb) (fun h => nomatch h) (fun _ e => ?_) (fun _ _ h' F N => ?_) (by simpa using hz)
  · subst e
    exact ⟨n, s.heap, s.toks, rfl, C, h a n (.inl rfl) ha⟩
  · exact ⟨_, h', s.toks, rfl, C.alloc F N lt, h _ _ (.inr ⟨_, fresh_of C lt, rfl⟩) (.head _)⟩

/-- slices -/
theorem cut_list {a i : Addr} {vs : List Value} {e : Nat} {vl vu vk : Value} {lo hi st : Option Int} (ha : (a, listOf vs.toArray e) ∈ n) (pl : IsPart vl lo) (pu : IsPart vu hi) (pk : IsPart vk st) (h0 : st ≠ some 0) (hz : vs.length ≤ sizeLine)
    {A : Around} {g : Heap} {L : Addr} {m : Str → Option Value} {R : Led} {s : Shared} (C : Cx w k A g L m (R ++ ((i, sliceOf vl vu vk) :: n)) s.heap) {E : Value → Shared → Prop}
    (h : ∀ d, d ∉ keys n → Q (.ref d) ((d, listOf (slicePick vs.toArray lo hi st) 0) :: n)) : wpAny (model PR w) A (getItem (.ref a) (.ref i)) (fun v s' => Post w k A g L m R s (Q v) s') E s := by
  have him : (i, sliceOf vl vu vk) ∈ (i, sliceOf vl vu vk) :: n := .head _
  have C' : Cx w k A g L m (R ++ n) s.heap := C.sub ((List.sublist_cons_self _ _).append_left _)
  refine wpAny_getItem_list_slice (C.isList (.tail _ ha)) ⟨_, C.get him, rfl, rfl⟩ pl pu pk h0 ?_ (by simpa using hz)
  obtain ⟨C1, q⟩ := C'.push (listOf (slicePick vs.toArray lo hi st) 0) rfl
  exact ⟨_, _, s.toks, rfl, C1, h _ q⟩
theorem ok_cutTo_list {a i : Addr} {vs : List Value} {e : Nat} {b : Int} {t : Tok} (ha : (a, listOf vs.toArray e) ∈ n) (hz : vs.length ≤ sizeLine)
    (h : ∀ d, d ∉ keys n → Q (.ref d) ((d, listOf (slicePick vs.toArray none (some b) none) 0) :: n)) : OK w k (cutTree (.ref a) (.ref i)) ((i, sliceOf .none (.int b t) .none) :: n) Q := fun A g L m R s C =>
  cut_of_type (C.isList (.tail _ ha)).typeIs list_getitem_lookup (cut_list ha .none (.int _ _) .none (by simp) hz C h)
theorem ok_cutFrom_list {a i : Addr} {vs : List Value} {e : Nat} {b : Int} {t : Tok} (ha : (a, listOf vs.toArray e) ∈ n) (hz : vs.length ≤ sizeLine)
    (h : ∀ d, d ∉ keys n → Q (.ref d) ((d, listOf (slicePick vs.toArray (some b) none none) 0) :: n)) : OK w k (cutTree (.ref a) (.ref i)) ((i, sliceOf (.int b t) .none .none) :: n) Q := fun A g L m R s C =>
  cut_of_type (C.isList (.tail _ ha)).typeIs list_getitem_lookup (cut_list ha (.int _ _) .none .none (by simp) hz C h)
theorem ok_rev_list {a i : Addr} {vs : List Value} {e : Nat} {t : Tok} (ha : (a, listOf vs.toArray e) ∈ n) (hz : vs.length ≤ sizeLine)
    (h : ∀ d, d ∉ keys n → Q (.ref d) ((d, listOf (slicePick vs.toArray none none (some (-1))) 0) :: n)) : OK w k (subTree (.ref a) (.ref i)) ((i, sliceOf .none .none (.int (-1) t)) :: n) Q := fun A g L m R s C =>
  sub_of_type (C.isList (.tail _ ha)).typeIs list_getitem_lookup (cut_list ha .none .none (.int _ _) (by simp) hz C h)
end
end
section
open PySem PySem.W PyProof.Rows PyProof.V
/-! Prim3 -/
noncomputable abbrev IK (w : World) := intKind PR w
/-- a dict with ints for keys -/
structure DictAt (w : World) (n : Led) (d : Addr) (kvs : List (Int × Value)) : Prop where
  at' : ∃ o, (d, o) ∈ n ∧ o.IsDictOf (IK w) kvs
  low : (d == sysModules) = false

theorem isDict_new (w : World) : (dictOf [] 0).IsDictOf (IK w) [] := by
  have h : (({ objs := #[], life := {} } : Heap).push (dictOf [] 0)).DictOf (IK w) ({ objs := #[], life := {} } : Heap).objs.size [] := Heap.DictOf.new _
  obtain ⟨o, e, x⟩ := Heap.dictOf_iff.mp h
  rw [Heap.get?_push_size _ rfl] at e
  cases e
  exact x
theorem DictAt.new {w : World} {n : Led} {d : Addr} (h : (d == sysModules) = false) : DictAt w ((d, dictOf [] 0) :: n) d [] := ⟨⟨_, .head _, isDict_new w⟩, h⟩
theorem DictAt.mono {w : World} {n n' : Led} {d : Addr} {kvs : List (Int × Value)} (D : DictAt w n d kvs) (h : ∀ p ∈ n, p ∈ n') : DictAt w n' d kvs := ⟨let ⟨o, a, b⟩ := D.at'; ⟨o, h _ a, b⟩, D.low⟩
theorem DictAt.upd {w : World} {n : Led} {d a : Addr} {o : Obj} {kvs : List (Int × Value)} (D : DictAt w n d kvs) (h : d ≠ a) : DictAt w (upd a o n) d kvs := ⟨let ⟨o', x, y⟩ := D.at'; ⟨o', mem_upd_ne x h, y⟩, D.low⟩
theorem DictAt.key {w : World} {n : Led} {d : Addr} {kvs : List (Int × Value)} (D : DictAt w n d kvs) : d ∈ keys n := let ⟨_, a, _⟩ := D.at'; mem_keys a
theorem DictAt.nodup {w : World} {n : Led} {d : Addr} {kvs : List (Int × Value)} (D : DictAt w n d kvs) : (kvs.map (·.1)).Nodup := let ⟨_, _, b⟩ := D.at'; keysNodup_of_isDictOf b

section
variable {w : World} {k : Nat} {n : Led} {Q : Value → Led → Prop}
theorem Cx.dict {A : Around} {g h : Heap} {L : Addr} {m : Str → Option Value} {R : Led} (C : Cx w k A g L m (R ++ n) h) {d : Addr} {kvs : List (Int × Value)} (D : DictAt w n d kvs) : h.DictOf (IK w) d kvs :=
  let ⟨o, a, b⟩ := D.at'; Heap.dictOf_iff.mpr ⟨o, C.get a, b⟩

theorem ok_get_dict {d : Addr} {kvs : List (Int × Value)} {i : Int} {t : Tok} {v : Value} (D : DictAt w n d kvs) (hv : valueAt kvs i = some v) (h : Q v n) : OK w k (subTree (.ref d) (.int i t)) n Q := fun A g L m R s C =>
  sub_of_type (C.dict D).typeIs slot_dict_getitem.lookup (wpAny_getItem_of (knd := IK w) (k := i) (by simp [IK, intKind, Value.isInt]) (C.dict D).mapOf hv ⟨n, s.heap, _, rfl, C, h⟩)
theorem ok_notin_dict {d : Addr} {kvs : List (Int × Value)} {i : Int} {t : Tok} (D : DictAt w n d kvs) (h : Q (.bool (!(valueAt kvs i).isSome)) n) : OK w k (compareOp .NotIn (.int i t) (.ref d)) n Q := fun A g L m R s C =>
  wpAny_notIn_of (knd := IK w) (k := i) (by simp [IK, intKind, Value.isInt]) D.low (C.dict D).mapOf ⟨n, s.heap, _, rfl, C, h⟩
theorem ok_dictget {d : Addr} {kvs : List (Int × Value)} {i : Int} {t : Tok} {dflt : Value} (D : DictAt w n d kvs) (h : Q ((valueAt kvs i).getD dflt) n) : OK w k (call (.builtin "dict.get") [.ref d, .int i t, dflt]) n Q := fun A g L m R s C =>
  call_meetsIn PySem.F.slot_dict_get (C.dict D).typeIs PySem.F.entry_dict_get (PySem.F.args_dict_get_3 _ _ _) (meets_dict_get_default (IK w) d (k := i) (by simp [IK, intKind, Value.isInt]) D.low dflt) ⟨_, (C.dict D).mapOf, n, s.heap, _, rfl, C, h⟩
theorem ok_setItem_dict {d : Addr} {kvs : List (Int × Value)} {i : Int} {t : Tok} {v : Value} {Q : Unit → Led → Prop} (D : DictAt w n d kvs) (hz : kvs.length ≤ sizeLine)
    (h : ∀ o, o.IsDictOf (IK w) (stored kvs i v) → DictAt w (upd d o n) d (stored kvs i v) → Q () (upd d o n)) : OK w k (setItem (.ref d) (.int i t) v) n Q := fun A g L m R s C => by
  obtain ⟨o, hm, hd⟩ := D.at'
  refine wpAny_setItem_pairs (knd := IK w) (k := i) (by simp [IK, intKind, Value.isInt]) (C.dict D) (fun h' hd' hs => ?_) hz
  obtain ⟨o', e, x⟩ := Heap.dictOf_iff.mp hd'
  have := C.put (List.mem_append_right _ hm) hs e
  rw [upd_append, upd_off (C.off (mem_keys hm))] at this
  exact ⟨_, h', _, rfl, this, h o' x ⟨⟨o', mem_upd_self hm, x⟩, D.low⟩⟩

/-- membership -/
theorem ok_in_tup {a : Addr} {vs : List Value} {x : Value} (e : Value → Bool) (ha : (a, tupOf vs.toArray) ∈ n) (he : ∀ y ∈ vs, MeetsSeq.EqGives y x (e y)) (h : Q (.bool (vs.any e)) n) : OK w k (compareOp .In x (.ref a)) n Q := fun A g L m R s C =>
  SeqAt.in_tupleAt (prog := PR) (w := w) e (C.isTup ha) (fun y hy => (he y (by simpa using hy)).at _ _) ⟨n, s.heap, s.toks, rfl, C, by simpa using h⟩
theorem ok_notin_tup {a : Addr} {vs : List Value} {x : Value} (e : Value → Bool) (ha : (a, tupOf vs.toArray) ∈ n) (he : ∀ y ∈ vs, MeetsSeq.EqGives y x (e y)) (h : Q (.bool (!vs.any e)) n) : OK w k (compareOp .NotIn x (.ref a)) n Q := fun A g L m R s C =>
  SeqAt.notIn_tupleAt (prog := PR) (w := w) e (C.isTup ha) (fun y hy => (he y (by simpa using hy)).at _ _) ⟨n, s.heap, s.toks, rfl, C, by simpa using h⟩
theorem ok_notin_list {a : Addr} {vs : List Value} {ep : Nat} {x : Value} (e : Value → Bool) (ha : (a, listOf vs.toArray ep) ∈ n) (he : ∀ y ∈ vs, MeetsSeq.EqGives y x (e y)) (h : Q (.bool (!vs.any e)) n) : OK w k (compareOp .NotIn x (.ref a)) n Q := fun A g L m R s C =>
  SeqAt.notIn_listAt (prog := PR) (w := w) e (C.isList ha) (fun y hy => (he y (by simpa using hy)).at _ _) ⟨n, s.heap, s.toks, rfl, C, by simpa using h⟩

theorem ok_range {i : Int} {t : Tok} {j : Nat} (hj : i = (j : Int)) (hs : j ≤ 1000) (h : ∀ r t u v, r ∉ keys n → Builtin.Range.small 0 i 1 = true → Q (.ref r) ((r, rangeOf j t u v) :: n)) : OK w k (call (.type "range") [.int i t]) n Q := fun A g L m R s C => by
  subst hj
  obtain ⟨C1, q⟩ := C.push (rangeOf j s.toks t (s.toks + 1)) rfl
  refine call_range_1 ⟨_, _, _, rfl, C1, h _ _ _ _ q ?_⟩
  unfold Builtin.Range.small Builtin.Range.rangeFitsLong Builtin.Range.rangeSize
  simp
  omega

theorem ok_sorted_list {a : Addr} {vs : List Value} {ns : List Int} {e : Nat} (ha : (a, listOf vs.toArray e) ∈ n) (hi : IntsAre vs ns) (h64 : ns.length < 64)
    (h : ∀ d vs' ns' c, d ∉ keys n → IntsAre vs' ns' → ns'.Perm ns → ns'.Pairwise (· ≤ ·) → Q (.ref d) ((d, listOf vs'.toArray c) :: n)) : OK w k (call (.builtin "sorted") [.ref a]) n Q := fun A g L m R s C =>
  kso_sorted C.fr C.nw (C.isList ha) hi h64 fun D vs' ns' c h' F N lt x1 x2 x3 x4 x5 => ⟨_, h', s.toks, rfl, C.alloc F N lt, h D vs' ns' c (fresh_of C lt) x1 x3 x4⟩
end
/-! Prim4 -/
theorem ints_of_idx : ∀ {vs : List Value} {ns : List Int}, vs.length = ns.length → (∀ (j : Nat) (v : Value) (i : Int), vs[j]? = some v → ns[j]? = some i → ∃ t, v = Value.int i t) → IntsAre vs ns
  | [], [], _, _ => .nil
  | v :: vs, i :: ns, h, hp => by
    obtain ⟨t, rfl⟩ := hp 0 v i rfl rfl
    exact .cons i t (ints_of_idx (by simpa using h) fun j v i a b => hp (j + 1) v i (by simpa using a) (by simpa using b))
  | [], _ :: _, h, _ => by cases h
  | _ :: _, [], h, _ => by cases h

section
variable {w : World} {k : Nat} {n : Led} {Q : Value → Led → Prop}

theorem Cx.swap {A : Around} {g h h' : Heap} {L : Addr} {m : Str → Option Value} {led : Led} {d : Addr} {o o' : Obj} (C : Cx w k A g L m ((d, o) :: led) h) (he : Heap.ExtBut d h h') (ho : h'.get? d = some o') : Cx w k A g L m ((d, o') :: led) h' :=
  (C.lose he).cons ho (C.notL (.head _)) (C.off_g (.head _)) (List.nodup_cons.mp C.nd).1

theorem ok_sorted_dict {d : Addr} {kvs : List (Int × Value)} (D : DictAt w n d kvs) (h64 : kvs.length < 64)
    (h : ∀ a vs' ns' c, a ∉ keys n → IntsAre vs' ns' → ns'.Perm (kvs.map (·.1)) → ns'.Pairwise (· ≤ ·) → Q (.ref a) ((a, listOf vs'.toArray c) :: n)) : OK w k (call (.builtin "sorted") [.ref d]) n Q := fun A g L m R s C => by
  obtain ⟨ep, hat⟩ := (C.dict D).dictAt
  refine kdu_sorted (kdl_dict (knd := IK w) (kvs := kvs) (ep := ep) D.low) C.hd C.fr C.nw hat (by have : sizeLine = 2 ^ 24 := rfl; omega) fun B h' tk vs F N lt hl hv => ?_
  have C1 : Cx w k A g L m ((B, listOf vs.toArray 0) :: (R ++ n)) h' := by
    have := C.alloc F N lt
    exact this.perm (perm_mid _ _ _).symm
  have hI : IntsAre vs (kvs.map (·.1)) := ints_of_idx (by simp [hl]) fun j v i a b => by
    obtain ⟨k', x, e1, e2⟩ := hv j v a
    rw [List.getElem?_map, e1] at b
    cases b
    exact Value.isInt_shape e2
  have hB := C1.at (.head _)
  refine wpAny_call_entry slot_list_sort ⟨_, hB, rfl⟩ entry_list_sort (list_sort_tree (n := 0) hB hI (by omega) fun out ns' a1 a2 a3 => ⟨_, rfl, ?_⟩) (args_list_sort _)
  obtain ⟨e, he⟩ := sortedHeap_at (out := out) hB
  have C2 := C1.swap (fun b o hb hg => (sortedHeap_old hb (Heap.lt_size hg)).trans hg) he
  exact ⟨_, _, tk, rfl, C2.perm (perm_mid _ _ _), by
    have := h B out.toList ns' e (fresh_of C lt) a1 a2 a3
    simpa using this⟩

theorem wpAny_retInt {M : Model} {A : Around} {E : Value → Shared → Prop} {s : Shared} {i : Int} {Q : Fin → Shared → Prop} (h : Q (.done (.ret (.int i s.toks))) { s with toks := s.toks + 1 }) : wpAny M A (retInt i) Q E s := fun _ _ _ => h
/-- the place of an item in a tuple -/
theorem index_loop {A : Around} {E : Value → Shared → Prop} {s : Shared} {xs : Array Value} {x : Value} {e : Value → Bool} (he : ∀ y ∈ xs, MeetsSeq.EqGives y x (e y)) {P : Option Fin × Unit → Shared → Prop} {prog : Program} {w : World}
    (f : Nat → Option Fin × Unit → Sem (ForInStep (Option Fin × Unit)))
    (hf : ∀ i y r, xs[i]? = some y → f i r = (do if (← eqBool y x) = true then do let v ← retInt i; pure (ForInStep.done (some v, ())) else pure (ForInStep.yield (none, ())))) :
    ∀ (l : List Nat) (j : Nat) (r : Option Fin × Unit), j ∈ l → l.Pairwise (· < ·) → (∀ i ∈ l, i < xs.size) → (∃ y, xs[j]? = some y ∧ e y = true) → (∀ i ∈ l, i < j → ∀ y, xs[i]? = some y → e y = false) →
      (∀ t, P (some (.done (.ret (.int j t))), ()) { s with toks := s.toks + 1 }) → wpAny (model prog w) A (forIn l r f) P E s
  | [], j, _, h, _, _, _, _, _ => nomatch h
  | i :: l, j, r, hm, hs, hlt, hj, hn, hP => by
    rw [List.forIn_cons]
    have hi := hlt i (.head _)
    have hy : xs[i]? = some xs[i] := Array.getElem?_eq_getElem hi
    rw [hf i xs[i] r hy]
    refine wpAny_bind (wpAny_bind ((he _ (Array.getElem_mem hi)).at A s prog w E _ ?_))
    rcases List.mem_cons.mp hm with e1 | hm
    · subst e1
      obtain ⟨y, e2, e3⟩ := hj
      rw [hy] at e2; cases e2
      rw [e3]
      simp only [if_true]
      exact wpAny_bind (wpAny_retInt (wpAny_pure (wpAny_pure (hP _))))
    · have hij := (List.pairwise_cons.mp hs).1 j hm
      rw [hn i (.head _) hij _ hy]
      simp only [Bool.false_eq_true, if_false]
      exact wpAny_pure (index_loop he f hf l j _ hm (List.pairwise_cons.mp hs).2 (fun i h => hlt i (.tail _ h)) hj (fun i h => hn i (.tail _ h)) hP)

theorem ok_index_tup {a : Addr} {vs : List Value} {x : Value} {t : Tok} (e : Value → Bool) (j : Nat) (ha : (a, tupOf vs.toArray) ∈ n) (he : ∀ y ∈ vs, MeetsSeq.EqGives y x (e y)) (hj : ∃ y, vs[j]? = some y ∧ e y = true)
    (hn : ∀ i < j, ∀ y, vs[i]? = some y → e y = false) (h : ∀ t, Q (.int (j : Nat) t) n) : OK w k (call (.builtin "tuple.index") [.ref a, x]) n Q := fun A g L m R s C => by
  have ht := C.isTup ha
  refine wpAny_call_entry PySem.F.slot_tuple_index ht.typeIs PySem.F.entry_tuple_index ?_ (PySem.F.args_tuple_index_2 _ _)
  unfold Builtin.«tuple.index»
  refine wpAny_bind (m := selfAndSome _ _ _ _ _) (wpAny_of_eq (a := (Value.ref a, [x])) rfl ?_)
  dsimp only
  refine wpAny_bind (tupleItemsOf_ ht ?_)
  refine wpAny_bind (wpAny_pure (wpAny_bind (wpAny_pure ?_)))
  rw [Std.Legacy.Range.forIn_eq_forIn_range']
  obtain ⟨y, hy, _⟩ := id hj
  have hlt : j < vs.length := (List.getElem?_eq_some_iff.mp hy).1
  refine wpAny_bind (index_loop (prog := PR) (w := w) (xs := vs.toArray) (x := x) (e := e) (fun y hy => he y (by simpa using hy)) _ (fun i y r hi => ?_) _ j _ ?_ ?_ ?_ (by simpa using hj) (fun i hi hij y hy => hn i hij y (by simpa using hy)) (fun t => ?_))
  · rw [hi]
  · simp [List.mem_range'_1, Std.Legacy.Range.size]; omega
  · exact List.pairwise_lt_range'
  · intro i hi
    simp [List.mem_range'_1, Std.Legacy.Range.size] at hi
    simp; omega
  · exact wpAny_pure ⟨_, rfl, n, s.heap, _, rfl, C, h _⟩
end
/-! Prim5 -/
theorem adjust_to (b n : Nat) (hb : b ≤ n) : Builtin.Slice.sliceAdjust none (some (b : Int)) 1 (n : Int) = (0, (b : Int)) := by
  unfold Builtin.Slice.sliceAdjust
  have h1 : ¬ ((1 : Int) < 0) := by omega
  have h2 : ¬ ((b : Int) < 0) := by omega
  simp only [h1, h2, if_false]
  congr 1
  omega
theorem places_to (b : Nat) : Builtin.Slice.slicePlaces 0 (b : Int) 1 = b := by
  unfold Builtin.Slice.slicePlaces
  have h1 : (1 : Int) > 0 := by omega
  simp only [h1, if_true, Int.ediv_one]
  split <;> omega
theorem pick_to (vs : List Value) (b : Nat) (hb : b ≤ vs.length) : ((List.range b).filterMap fun (k : Nat) => vs.toArray[((0 : Int) + (k : Int) * 1).toNat]?).toArray = (vs.take b).toArray := by
  congr 1
  have e : (fun (k : Nat) => vs.toArray[((0 : Int) + (k : Int) * 1).toNat]?) = fun k => vs[k]? := by
    funext k
    have : ((0 : Int) + (k : Int) * 1).toNat = k := by omega
    rw [this]; simp
  rw [e]
  induction b with
  | zero => simp
  | succ b ih =>
    rw [List.range_succ, List.filterMap_append, ih (by omega)]
    have hlt : b < vs.length := by omega
    rw [List.take_succ_eq_append_getElem hlt]
    simp [hlt]

section
variable {w : World} {k : Nat} {n : Led} {Q : Value → Led → Prop}
theorem ok_cutTo_tup {a i : Addr} {vs : List Value} {b : Nat} {t : Tok} (ha : (a, tupOf vs.toArray) ∈ n) (hb : b ≤ vs.length) (hz : vs.length ≤ sizeLine)
    (h : ∀ d n', (n' = n ∨ ∃ o, d ∉ keys n ∧ n' = (d, o) :: n) → (d, tupOf (vs.take b).toArray) ∈ n' → Q (.ref d) n') : OK w k (cutTree (.ref a) (.ref i)) ((i, sliceOf .none (.int (b : Int) t) .none) :: n) Q := fun A g L m R s C => by
  have him : (i, sliceOf .none (.int (b : Int) t) .none) ∈ (i, sliceOf .none (.int (b : Int) t) .none) :: n := .head _
  have C' : Cx w k A g L m (R ++ n) s.heap := C.sub ((List.sublist_cons_self _ _).append_left _)
  have ht : IsTup s.heap a vs.toArray := C'.isTup ha
  refine cut_of_type ht.typeIs slot_tuple_getitem.lookup ?_
  have hsl : s.heap.get? i = some (sliceOf .none (.int (b : Int) t) .none) := C.get him
  have hTs : s.TypeIs (.ref i) "slice" := ⟨_, hsl, rfl⟩
  unfold getItem
  try with_reducible refine wpAny_holding ?_
  first | refine wpAny_bind (wpAny_pure ?_) | skip
  refine wpAny_bind (wpAny_sequenceKey ht.typeIs (by decide) ?_)
  refine wpAny_bind (wpAny_callSpecial?_slot (name := Str.ofString "__getitem__") ht.typeIs slot_tuple_getitem
    (wpAny_call_entry slot_tuple_getitem ht.typeIs entry_tuple_getitem ?_ (args_tuple_getitem _ _)))
  show wpAny _ _ (Builtin.Tuple.tupleItemsOf (.ref a) >>= _) _ _ s
  refine wpAny_bind (tupleItemsOf_ ht ?_)
  refine wpAny_bind (wpAny_typeOf hTs ?_)
  rw [if_pos (by decide)]
  refine wpAny_bind (wpAny_mono (Q := fun r s' => r = ((0 : Int), (1 : Int), b) ∧ s' = s) ?_ ?_ (fun _ _ x => x))
  · unfold Builtin.Slice.sliceApplied Builtin.Slice.sliceFields
    refine wpAny_bind (wpAny_bind (wpAny_field hsl rfl (x := .none) rfl (wpAny_bind (wpAny_field hsl rfl (x := .int (b : Int) t) rfl (wpAny_bind (wpAny_field hsl rfl (x := .none) rfl (wpAny_pure ?_)))))))
    refine wpAny_bind (slicePart_none ?_)
    show wpAny _ _ (if ((1 : Int) == 0) = true then _ else _) _ _ s
    rw [if_neg (by decide)]
    refine wpAny_bind (slicePart_none (wpAny_bind (slicePart_int (wpAny_bind (wpAny_pure ?_)))))
    show wpAny _ _ (match Builtin.Slice.sliceAdjust none (some (b : Int)) 1 (vs.toArray.size : Int) with | (lo, hi) => pure (lo, (1 : Int), Builtin.Slice.slicePlaces lo hi 1)) _ _ s
    rw [adjust_to b _ (by simpa using hb)]
    show wpAny _ _ (pure ((0 : Int), (1 : Int), Builtin.Slice.slicePlaces 0 (b : Int) 1)) _ _ s
    rw [places_to b]
    exact wpAny_pure ⟨rfl, rfl⟩
  · rintro _ s' ⟨rfl, hs'⟩
    rw [hs']
    show wpAny _ _ (if ((0 : Int) == 0 && (1 : Int) == 1 && b == vs.toArray.size) = true then _ else _) _ _ s
    by_cases hbs : b = vs.length
    · rw [if_pos (by simp [hbs])]
      unfold Builtin.Tuple.tupleIsExact
      refine wpAny_bind (wpAny_bind (wpAny_typeOf ht.typeIs (wpAny_pure ?_)))
      have : (Value.type "tuple" == Value.type "tuple") = true := by decide
      rw [this]
      simp only [if_true]
      refine wpAny_bind (wpAny_rule (wpAny_pure ⟨_, rfl, wpAny_pure ⟨n, s.heap, s.toks, rfl, C', h a n (.inl rfl) ?_⟩⟩))
      rw [List.take_of_length_le (by omega)]; exact ha
    · rw [if_neg (by simpa using hbs), pick_to vs b hb]
      obtain ⟨C1, q⟩ := C'.push (tupOf (vs.take b).toArray) rfl
      have fin : Post w k A g L m R s (Q (.ref s.heap.objs.size)) { s with heap := s.heap.push (tupOf (vs.take b).toArray) } := ⟨_, _, s.toks, rfl, C1, h _ _ (.inr ⟨_, q, rfl⟩) (.head _)⟩
      have hsz : sizeOk (.seq (vs.take b).toArray) := by
        show (vs.take b).toArray.size ≤ sizeLine
        simp; omega
      first
        | exact wpAny_bind (m := Builtin.Tuple.tupleExact _) (wpAny_newObj_type (wpAny_pure ⟨_, rfl, wpAny_pure fin⟩) hsz)
        | exact wpAny_bind (m := Builtin.Tuple.tupleExact _) (wpAny_newObj_type (wpAny_bind (wpAny_pure (wpAny_pure ⟨_, rfl, wpAny_pure fin⟩))) hsz)
        | exact wpAny_bind (wpAny_bind (m := Builtin.Tuple.tupleExact _) (wpAny_newObj_type (wpAny_pure (wpAny_pure ⟨_, rfl, wpAny_pure fin⟩)) hsz))
        | exact wpAny_bind (wpAny_bind (m := Builtin.Tuple.tupleExact _) (wpAny_newObj_type (wpAny_pure ⟨_, rfl, wpAny_pure fin⟩) hsz))
end
/-! Prim6 -/
noncomputable def StrKeyed (es : List DictEntry) : Prop := ∀ e ∈ es, ∃ nm t, e.key = .str nm t
/-- the attributes in an object's dict -/
structure FieldsAre (es : List DictEntry) (fs : List (Str × Value)) : Prop where
  keyed : StrKeyed es
  get : ∀ name, getL name es = some (fs.lookup name)

theorem noRef {es : List DictEntry} (h : StrKeyed es) : es.any (·.refKey) = false := by
  rw [List.any_eq_false]
  intro e he
  obtain ⟨nm, t, q⟩ := h e he
  simp [DictEntry.refKey, q]
theorem FieldsAre.nil : FieldsAre [] [] := ⟨(fun _ h => nomatch h), fun _ => rfl⟩
theorem isStr_str (nm name : Str) (t : Tok) : (Value.str nm t).isStr name = (nm == name) := rfl
theorem putL_keyed {name : Str} {hsh : Int} {t : Tok} {v : Value} : ∀ {es : List DictEntry}, StrKeyed es → StrKeyed (putL name hsh (.str name t) v es)
  | [], _ => fun e he => by
    rcases List.mem_singleton.mp he with rfl
    exact ⟨_, _, rfl⟩
  | e :: r, h => by
    unfold putL
    split
    · intro e' he
      rcases List.mem_cons.mp he with rfl | he
      · exact h e (.head _)
      · exact h e' (.tail _ he)
    · intro e' he
      rcases List.mem_cons.mp he with rfl | he
      · exact h _ (.head _)
      · exact putL_keyed (fun e he => h e (.tail _ he)) e' he
theorem putL_find' {name : Str} {hsh : Int} {t : Tok} {v : Value} (nm : Str) : ∀ {es : List DictEntry}, StrKeyed es →
    ((putL name hsh (.str name t) v es).find? (·.key.isStr nm)).map (·.val) = if nm = name then some v else (es.find? (·.key.isStr nm)).map (·.val)
  | [], _ => by
    unfold putL
    by_cases q : nm = name
    · subst q; simp [isStr_str]
    · have : (name == nm) = false := by simpa using Ne.symm q
      simp [isStr_str, this, q]
  | e :: r, h => by
    obtain ⟨ek, et, ekey⟩ := h e (.head _)
    have ih := putL_find' (name := name) (hsh := hsh) (t := t) (v := v) nm (es := r) fun e he => h e (.tail _ he)
    unfold putL
    rw [ekey, isStr_str]
    by_cases q1 : ek = name
    · subst q1
      simp only [beq_self_eq_true, if_true, List.find?_cons, isStr_str, ekey]
      by_cases q : nm = ek
      · subst q; simp
      · have : (ek == nm) = false := by simpa using Ne.symm q
        simp [this, q]
    · have e1 : (ek == name) = false := by simpa using q1
      simp only [e1, Bool.false_eq_true, if_false, List.find?_cons, ekey, isStr_str]
      by_cases q2 : ek = nm
      · subst q2
        simp [q1]
      · have e2 : (ek == nm) = false := by simpa using q2
        simp only [e2]
        exact ih
theorem getL_of {es : List DictEntry} (h : StrKeyed es) (nm : Str) : getL nm es = some ((es.find? (·.key.isStr nm)).map (·.val)) := by
  unfold getL
  cases q : es.find? (·.key.isStr nm) with
  | none => simp [noRef h]
  | some e => rfl
theorem FieldsAre.put {es : List DictEntry} {fs : List (Str × Value)} (F : FieldsAre es fs) (name : Str) (hsh : Int) (t : Tok) (v : Value) : FieldsAre (putL name hsh (.str name t) v es) ((name, v) :: fs) := by
  refine ⟨putL_keyed F.keyed, fun nm => ?_⟩
  rw [getL_of (putL_keyed F.keyed), putL_find' nm F.keyed, List.lookup_cons]
  have := F.get nm
  rw [getL_of F.keyed] at this
  by_cases q : nm = name
  · subst q; simp
  · have e : (nm == name) = false := by simpa using q
    rw [if_neg q, e]
    exact this
theorem putL_len {name : Str} {hsh : Int} {k v : Value} : ∀ {es : List DictEntry}, (putL name hsh k v es).length ≤ es.length + 1
  | [] => by simp [putL]
  | e :: r => by
    unfold putL
    split
    · simp
    · simp; exact putL_len

/-- an object of the class at C, its attributes fs -/
noncomputable def Inst (n : Led) (x C : Addr) (fs : List (Str × Value)) : Prop := ∃ dx es ep, (x, instObj C dx) ∈ n ∧ (dx, dictOf es ep) ∈ n ∧ FieldsAre es fs ∧ es.length ≤ 100
theorem Inst.mono {n n' : Led} {x C : Addr} {fs : List (Str × Value)} (I : Inst n x C fs) (h : ∀ p ∈ n, p ∈ n') : Inst n' x C fs := let ⟨dx, es, ep, a, b, c⟩ := I; ⟨dx, es, ep, h _ a, h _ b, c⟩

noncomputable def ownOk (K : Frag) (C : Addr) (name : Str) : Bool := plainGet K C name && hasDictIn K C && (match findIn K (.ref C) name with | some a => noGet K a | none => false)
noncomputable def clsVal (K : Frag) (C : Addr) (name : Str) (a : Value) : Bool := plainGet K C name && hasDictIn K C && (findIn K (.ref C) name == some (some a)) && (specialIn K a "__get__" == some none) && handedIn a && !copiedNames.contains name
noncomputable def methOk (K : Frag) (C : Addr) (name : Str) (f : Addr) : Bool := plainGet K C name && (findIn K (.ref C) name == some (some (.ref f))) && isFn K (.ref f)
noncomputable def setOk (K : Frag) (C : Addr) (name : Str) : Bool := (findIn K (.ref C) "__setattr__" == some (some (.builtin "object.__setattr__"))) && plainOver K C && (takerIn K C name == some none) && hasDictIn K C
noncomputable def makeOk (K : Frag) (C fI : Addr) : Bool := makesIn K C && (findIn K (.ref C) "__init__" == some (some (.ref fI))) && (typeIn K (.ref fI) == some (.type "function"))

section
variable {w : World} {k : Nat} {n : Led} {Q : Value → Led → Prop}

theorem ok_attr {x C : Addr} {fs : List (Str × Value)} {name : Str} {v : Value} {b : Bool} (I : Inst n x C fs) (ho : ownOk (KK w.params) C name = true) (hv : fs.lookup name = some v) (hh : handedIn v = true) (h : Q v n) : OK w k (getAttr (.ref x) name b) n Q := fun A g L m R s C' => by
  obtain ⟨dx, es, ep, i1, i2, F, _⟩ := I
  simp only [ownOk, Bool.and_eq_true] at ho
  obtain ⟨⟨h1, h2⟩, h3⟩ := ho
  split at h3
  · rename_i a ha
    exact get_own C'.fr C'.good.k (InstAt.of_news C'.nw (List.mem_append_right _ i1) (List.mem_append_right _ i2)) h1 h2 ha h3 ((F.get name).trans (by rw [hv])) hh ⟨n, s.heap, _, rfl, C', h⟩
  · cases h3
theorem ok_attr_cls {x C : Addr} {fs : List (Str × Value)} {name : Str} {a : Value} {b : Bool} (I : Inst n x C fs) (ho : clsVal (KK w.params) C name a = true) (hv : fs.lookup name = none) (h : Q a n) : OK w k (getAttr (.ref x) name b) n Q := fun A g L m R s C' => by
  obtain ⟨dx, es, ep, i1, i2, F, _⟩ := I
  simp only [clsVal, Bool.and_eq_true, beq_iff_eq, Bool.not_eq_true'] at ho
  obtain ⟨⟨⟨⟨⟨h1, h2⟩, h3⟩, h4⟩, h5⟩, h6⟩ := ho
  exact get_cls C'.fr C'.good.k (InstAt.of_news C'.nw (List.mem_append_right _ i1) (List.mem_append_right _ i2)) h1 h2 h3 h4 h5 h6 ((F.get name).trans (by rw [hv])) ⟨n, s.heap, _, rfl, C', h⟩
theorem ok_method {x C f : Addr} {fs : List (Str × Value)} {name : Str} {pl : Sem Bool} {Q : Value × List Value → Led → Prop} (I : Inst n x C fs) (ho : methOk (KK w.params) C name f = true) (hv : fs.lookup name = none) (h : Q (.ref f, [.ref x]) n) : OK w k (getMethod (.ref x) name pl) n Q := fun A g L m R s C' => by
  obtain ⟨dx, es, ep, i1, i2, F, _⟩ := I
  simp only [methOk, Bool.and_eq_true, beq_iff_eq] at ho
  obtain ⟨⟨h1, h2⟩, h3⟩ := ho
  exact method_inst C'.fr C'.good.k (InstAt.of_news C'.nw (List.mem_append_right _ i1) (List.mem_append_right _ i2)) h1 h2 h3 ((F.get name).trans (by rw [hv])) ⟨n, s.heap, s.toks, rfl, C', h⟩
/-- an attribute is stored in the object's dict at the address dx -/
theorem ok_setattr {x C dx : Addr} {es : List DictEntry} {ep : Nat} {fs : List (Str × Value)} {name : Str} {v : Value} {Q : Unit → Led → Prop} (i1 : (x, instObj C dx) ∈ n) (i2 : (dx, dictOf es ep) ∈ n) (F : FieldsAre es fs) (hl : es.length ≤ 99)
    (ho : setOk (KK w.params) C name = true) (h : ∀ es' ep', FieldsAre es' ((name, v) :: fs) → es'.length ≤ es.length + 1 → Q () (upd dx (dictOf es' ep') n)) : OK w k (setAttr (.ref x) name v) n Q := fun A g L m R s C' => by
  simp only [setOk, Bool.and_eq_true, beq_iff_eq] at ho
  obtain ⟨⟨⟨h1, h2⟩, h3⟩, h4⟩ := ho
  have hln : (putL name (PyData.keyHash w.params name) (.str name (s.toks + 1)) v es).length ≤ es.length + 1 := putL_len
  refine set_dict C'.fr C'.good.k C'.nw (InstAt.of_news C'.nw (List.mem_append_right _ i1) (List.mem_append_right _ i2)) rfl h1 h2 h3 h4 (by rw [F.get]; rfl) rfl (C'.to i2) (by omega) fun h' F' N' => ?_
  exact ⟨_, h', _, rfl, C'.changed i2 F' N', h _ _ (F.put _ _ _ _) hln⟩
/-- an object is made -/
theorem ok_make {C fI : Addr} {rest : List Value} (ho : makeOk (KK w.params) C fI = true)
    (h : ∀ x dx, x ∉ keys n → dx ∉ keys n → x ≠ dx → CallOK w (k + 1) (.ref fI) (.ref x :: rest) ((x, instObj C dx) :: (dx, dictOf [] 0) :: n) fun v n' => v = .none ∧ Q (.ref x) n') : OK w (k + 2) (call (.ref C) rest) n Q := by
  refine CallOK.ok fun A g L m R s C' RR hRR => ?_
  simp only [makeOk, Bool.and_eq_true, beq_iff_eq] at ho
  obtain ⟨⟨h1, h2⟩, h3⟩ := ho
  refine make_K C'.fr C'.nw C'.good'.k h1 h2 h3 fun x dx h' F N lt lt2 => ?_
  have ndx : dx ∉ keys (R ++ n) := fun hl => by
    obtain ⟨p, hp, e⟩ := List.mem_map.mp hl
    have := lt p hp
    rw [e] at this
    exact Nat.lt_irrefl _ this
  have nx : x ∉ keys (R ++ n) := fun hl => by
    obtain ⟨p, hp, e⟩ := List.mem_map.mp hl
    have := lt p hp
    rw [e] at this
    exact Nat.lt_irrefl _ (Nat.lt_trans this lt2)
  rw [keys_append] at ndx nx
  have hxd : x ≠ dx := Nat.ne_of_gt lt2
  have C1 : Cx w (k + 2) A g L m (R ++ ((x, instObj C dx) :: (dx, dictOf [] 0) :: n)) h' := by
    have : Cx w (k + 2) A g L m ((x, instObj C dx) :: (dx, dictOf [] 0) :: (R ++ n)) h' := by
      refine ⟨C'.hd, C'.room, C'.units, C'.good, F, N, ?_⟩
      refine List.nodup_cons.mpr ⟨?_, List.nodup_cons.mpr ⟨?_, C'.nd⟩⟩
      · rw [List.map_cons]
        intro hm
        rcases List.mem_cons.mp hm with e | hm
        · exact hxd e
        · exact nx (by rw [← keys_append]; exact hm)
      · intro hm; exact ndx (by rw [← keys_append]; exact hm)
    refine this.perm ?_
    exact ((perm_mid _ _ _).cons _).trans (perm_mid _ _ _)
  have C2 : Cx w (k + 1) (A.under (.builtin "type.__call__" ⟨.ref C :: rest, []⟩)) g L m (R ++ ((x, instObj C dx) :: (dx, dictOf [] 0) :: n)) h' := by
    refine C1.inA C'.hd ?_ ?_
    · rw [depth_under_kw]; have := C'.room; omega
    · have e : (A.under (.builtin "type.__call__" ⟨.ref C :: rest, []⟩)).units = A.units + 1 := by
        show A.units + (Code.builtin "type.__call__" ⟨.ref C :: rest, []⟩).cUnits = _
        rfl
      rw [e]; have := C'.units; omega
  refine h x dx (fun q => nx (List.mem_append_right _ q)) (fun q => ndx (List.mem_append_right _ q)) hxd _ g L m R { s with heap := h' } C2 _ fun v s' p => ?_
  obtain ⟨n', h1, tk, rfl, C3, rfl, q⟩ := p
  exact ⟨rfl, hRR _ _ ⟨n', h1, tk, rfl, C3.inA C'.hd C'.room C'.units, q⟩⟩
end
end
section
open PySem PySem.W PyProof.Rows
/-! Fns -/
theorem callable_builtin {w : World} (i : String) : Callable w (.builtin i) := fun h _ => ⟨.machine, .inr (.inl rfl), Looks.of_pure rfl⟩
theorem callable_type {w : World} (i : String) : Callable w (.type i) := fun h _ => ⟨.machine, .inr (.inl rfl), Looks.of_pure rfl⟩
theorem callable_K {w : World} {a : Addr} (e : keepIn (KK w.params) (.ref a) = true) : Callable w (.ref a) := fun h G =>
  let ⟨kp, hk, L⟩ := looks_keep e G.k
  ⟨kp, hk.elim .inl fun z => .inr (.inl z), L⟩
theorem kp_Node_parts {w : World} : Callable w (.ref 35) := callable_K (by kernel_rfl)
theorem fo_Node_parts (P : Params) : ∃ fd, (ob35 P).data = .func fd ∧ fd.body = .stmts (fdB (mAt 14 1)) ∧ fd.scope = fdS (mAt 14 1) ∧ fnOk (KK P) fd ns_Node_parts 1 = true ∧ ∀ v0 : Value, bindArgs fd ⟨[v0], []⟩ = pure ((ns_Node_parts.take 1).zip [v0]) := ⟨_, rfl, rfl, rfl, by kernel_rfl, by intros; kernel_rfl⟩
theorem call_Node_parts {w : World} {k : Nat} {n : Led} {Q : Value → Led → Prop} {v0 : Value} (h : wB w k ir_Node_parts (initL [v0]) n fun f _ n' => Q (retOf f) n') : CallOK w (k + 1) (.ref 35) [v0] n Q := by
  obtain ⟨fd, h1, h2, h3, h4, h5⟩ := fo_Node_parts w.params
  exact callOK_fn (k_Node_parts w.params) h1 h2 h4 (h5 v0) (Nat.le_of_ble_eq_true rfl) (h3 ▸ c_Node_parts w.params) h
theorem kp_Const_U__initUU {w : World} : Callable w (.ref 63) := callable_K (by kernel_rfl)
theorem fo_Const_U__initUU (P : Params) : ∃ fd, (ob63 P).data = .func fd ∧ fd.body = .stmts (fdB (mAt 15 1)) ∧ fd.scope = fdS (mAt 15 1) ∧ fnOk (KK P) fd ns_Const_U__initUU 2 = true ∧ ∀ v0 v1 : Value, bindArgs fd ⟨[v0, v1], []⟩ = pure ((ns_Const_U__initUU.take 2).zip [v0, v1]) := ⟨_, rfl, rfl, rfl, by kernel_rfl, by intros; kernel_rfl⟩
theorem call_Const_U__initUU {w : World} {k : Nat} {n : Led} {Q : Value → Led → Prop} {v0 v1 : Value} (h : wB w k ir_Const_U__initUU (initL [v0, v1]) n fun f _ n' => Q (retOf f) n') : CallOK w (k + 1) (.ref 63) [v0, v1] n Q := by
  obtain ⟨fd, h1, h2, h3, h4, h5⟩ := fo_Const_U__initUU w.params
  exact callOK_fn (k_Const_U__initUU w.params) h1 h2 h4 (h5 v0 v1) (Nat.le_of_ble_eq_true rfl) (h3 ▸ c_Const_U__initUU w.params) h
theorem kp_Local_U__initUU {w : World} : Callable w (.ref 82) := callable_K (by kernel_rfl)
theorem fo_Local_U__initUU (P : Params) : ∃ fd, (ob82 P).data = .func fd ∧ fd.body = .stmts (fdB (mAt 16 1)) ∧ fd.scope = fdS (mAt 16 1) ∧ fnOk (KK P) fd ns_Local_U__initUU 2 = true ∧ ∀ v0 v1 : Value, bindArgs fd ⟨[v0, v1], []⟩ = pure ((ns_Local_U__initUU.take 2).zip [v0, v1]) := ⟨_, rfl, rfl, rfl, by kernel_rfl, by intros; kernel_rfl⟩
theorem call_Local_U__initUU {w : World} {k : Nat} {n : Led} {Q : Value → Led → Prop} {v0 v1 : Value} (h : wB w k ir_Local_U__initUU (initL [v0, v1]) n fun f _ n' => Q (retOf f) n') : CallOK w (k + 1) (.ref 82) [v0, v1] n Q := by
  obtain ⟨fd, h1, h2, h3, h4, h5⟩ := fo_Local_U__initUU w.params
  exact callOK_fn (k_Local_U__initUU w.params) h1 h2 h4 (h5 v0 v1) (Nat.le_of_ble_eq_true rfl) (h3 ▸ c_Local_U__initUU w.params) h
theorem kp_Global_U__initUU {w : World} : Callable w (.ref 101) := callable_K (by kernel_rfl)
theorem fo_Global_U__initUU (P : Params) : ∃ fd, (ob101 P).data = .func fd ∧ fd.body = .stmts (fdB (mAt 17 1)) ∧ fd.scope = fdS (mAt 17 1) ∧ fnOk (KK P) fd ns_Global_U__initUU 2 = true ∧ ∀ v0 v1 : Value, bindArgs fd ⟨[v0, v1], []⟩ = pure ((ns_Global_U__initUU.take 2).zip [v0, v1]) := ⟨_, rfl, rfl, rfl, by kernel_rfl, by intros; kernel_rfl⟩
theorem call_Global_U__initUU {w : World} {k : Nat} {n : Led} {Q : Value → Led → Prop} {v0 v1 : Value} (h : wB w k ir_Global_U__initUU (initL [v0, v1]) n fun f _ n' => Q (retOf f) n') : CallOK w (k + 1) (.ref 101) [v0, v1] n Q := by
  obtain ⟨fd, h1, h2, h3, h4, h5⟩ := fo_Global_U__initUU w.params
  exact callOK_fn (k_Global_U__initUU w.params) h1 h2 h4 (h5 v0 v1) (Nat.le_of_ble_eq_true rfl) (h3 ▸ c_Global_U__initUU w.params) h
theorem kp_SetLocal_U__initUU {w : World} : Callable w (.ref 120) := callable_K (by kernel_rfl)
theorem fo_SetLocal_U__initUU (P : Params) : ∃ fd, (ob120 P).data = .func fd ∧ fd.body = .stmts (fdB (mAt 18 1)) ∧ fd.scope = fdS (mAt 18 1) ∧ fnOk (KK P) fd ns_SetLocal_U__initUU 3 = true ∧ ∀ v0 v1 v2 : Value, bindArgs fd ⟨[v0, v1, v2], []⟩ = pure ((ns_SetLocal_U__initUU.take 3).zip [v0, v1, v2]) := ⟨_, rfl, rfl, rfl, by kernel_rfl, by intros; kernel_rfl⟩
theorem call_SetLocal_U__initUU {w : World} {k : Nat} {n : Led} {Q : Value → Led → Prop} {v0 v1 v2 : Value} (h : wB w k ir_SetLocal_U__initUU (initL [v0, v1, v2]) n fun f _ n' => Q (retOf f) n') : CallOK w (k + 1) (.ref 120) [v0, v1, v2] n Q := by
  obtain ⟨fd, h1, h2, h3, h4, h5⟩ := fo_SetLocal_U__initUU w.params
  exact callOK_fn (k_SetLocal_U__initUU w.params) h1 h2 h4 (h5 v0 v1 v2) (Nat.le_of_ble_eq_true rfl) (h3 ▸ c_SetLocal_U__initUU w.params) h
theorem kp_SetLocal_parts {w : World} : Callable w (.ref 127) := callable_K (by kernel_rfl)
theorem fo_SetLocal_parts (P : Params) : ∃ fd, (ob127 P).data = .func fd ∧ fd.body = .stmts (fdB (mAt 18 2)) ∧ fd.scope = fdS (mAt 18 2) ∧ fnOk (KK P) fd ns_SetLocal_parts 1 = true ∧ ∀ v0 : Value, bindArgs fd ⟨[v0], []⟩ = pure ((ns_SetLocal_parts.take 1).zip [v0]) := ⟨_, rfl, rfl, rfl, by kernel_rfl, by intros; kernel_rfl⟩
theorem call_SetLocal_parts {w : World} {k : Nat} {n : Led} {Q : Value → Led → Prop} {v0 : Value} (h : wB w k ir_SetLocal_parts (initL [v0]) n fun f _ n' => Q (retOf f) n') : CallOK w (k + 1) (.ref 127) [v0] n Q := by
  obtain ⟨fd, h1, h2, h3, h4, h5⟩ := fo_SetLocal_parts w.params
  exact callOK_fn (k_SetLocal_parts w.params) h1 h2 h4 (h5 v0) (Nat.le_of_ble_eq_true rfl) (h3 ▸ c_SetLocal_parts w.params) h
theorem kp_SetGlobal_U__initUU {w : World} : Callable w (.ref 153) := callable_K (by kernel_rfl)
theorem fo_SetGlobal_U__initUU (P : Params) : ∃ fd, (ob153 P).data = .func fd ∧ fd.body = .stmts (fdB (mAt 19 1)) ∧ fd.scope = fdS (mAt 19 1) ∧ fnOk (KK P) fd ns_SetGlobal_U__initUU 3 = true ∧ ∀ v0 v1 v2 : Value, bindArgs fd ⟨[v0, v1, v2], []⟩ = pure ((ns_SetGlobal_U__initUU.take 3).zip [v0, v1, v2]) := ⟨_, rfl, rfl, rfl, by kernel_rfl, by intros; kernel_rfl⟩
theorem call_SetGlobal_U__initUU {w : World} {k : Nat} {n : Led} {Q : Value → Led → Prop} {v0 v1 v2 : Value} (h : wB w k ir_SetGlobal_U__initUU (initL [v0, v1, v2]) n fun f _ n' => Q (retOf f) n') : CallOK w (k + 1) (.ref 153) [v0, v1, v2] n Q := by
  obtain ⟨fd, h1, h2, h3, h4, h5⟩ := fo_SetGlobal_U__initUU w.params
  exact callOK_fn (k_SetGlobal_U__initUU w.params) h1 h2 h4 (h5 v0 v1 v2) (Nat.le_of_ble_eq_true rfl) (h3 ▸ c_SetGlobal_U__initUU w.params) h
theorem kp_SetGlobal_parts {w : World} : Callable w (.ref 160) := callable_K (by kernel_rfl)
theorem fo_SetGlobal_parts (P : Params) : ∃ fd, (ob160 P).data = .func fd ∧ fd.body = .stmts (fdB (mAt 19 2)) ∧ fd.scope = fdS (mAt 19 2) ∧ fnOk (KK P) fd ns_SetGlobal_parts 1 = true ∧ ∀ v0 : Value, bindArgs fd ⟨[v0], []⟩ = pure ((ns_SetGlobal_parts.take 1).zip [v0]) := ⟨_, rfl, rfl, rfl, by kernel_rfl, by intros; kernel_rfl⟩
theorem call_SetGlobal_parts {w : World} {k : Nat} {n : Led} {Q : Value → Led → Prop} {v0 : Value} (h : wB w k ir_SetGlobal_parts (initL [v0]) n fun f _ n' => Q (retOf f) n') : CallOK w (k + 1) (.ref 160) [v0] n Q := by
  obtain ⟨fd, h1, h2, h3, h4, h5⟩ := fo_SetGlobal_parts w.params
  exact callOK_fn (k_SetGlobal_parts w.params) h1 h2 h4 (h5 v0) (Nat.le_of_ble_eq_true rfl) (h3 ▸ c_SetGlobal_parts w.params) h
theorem kp_Define_U__initUU {w : World} : Callable w (.ref 186) := callable_K (by kernel_rfl)
theorem fo_Define_U__initUU (P : Params) : ∃ fd, (ob186 P).data = .func fd ∧ fd.body = .stmts (fdB (mAt 20 1)) ∧ fd.scope = fdS (mAt 20 1) ∧ fnOk (KK P) fd ns_Define_U__initUU 3 = true ∧ ∀ v0 v1 v2 : Value, bindArgs fd ⟨[v0, v1, v2], []⟩ = pure ((ns_Define_U__initUU.take 3).zip [v0, v1, v2]) := ⟨_, rfl, rfl, rfl, by kernel_rfl, by intros; kernel_rfl⟩
theorem call_Define_U__initUU {w : World} {k : Nat} {n : Led} {Q : Value → Led → Prop} {v0 v1 v2 : Value} (h : wB w k ir_Define_U__initUU (initL [v0, v1, v2]) n fun f _ n' => Q (retOf f) n') : CallOK w (k + 1) (.ref 186) [v0, v1, v2] n Q := by
  obtain ⟨fd, h1, h2, h3, h4, h5⟩ := fo_Define_U__initUU w.params
  exact callOK_fn (k_Define_U__initUU w.params) h1 h2 h4 (h5 v0 v1 v2) (Nat.le_of_ble_eq_true rfl) (h3 ▸ c_Define_U__initUU w.params) h
theorem kp_Define_parts {w : World} : Callable w (.ref 193) := callable_K (by kernel_rfl)
theorem fo_Define_parts (P : Params) : ∃ fd, (ob193 P).data = .func fd ∧ fd.body = .stmts (fdB (mAt 20 2)) ∧ fd.scope = fdS (mAt 20 2) ∧ fnOk (KK P) fd ns_Define_parts 1 = true ∧ ∀ v0 : Value, bindArgs fd ⟨[v0], []⟩ = pure ((ns_Define_parts.take 1).zip [v0]) := ⟨_, rfl, rfl, rfl, by kernel_rfl, by intros; kernel_rfl⟩
theorem call_Define_parts {w : World} {k : Nat} {n : Led} {Q : Value → Led → Prop} {v0 : Value} (h : wB w k ir_Define_parts (initL [v0]) n fun f _ n' => Q (retOf f) n') : CallOK w (k + 1) (.ref 193) [v0] n Q := by
  obtain ⟨fd, h1, h2, h3, h4, h5⟩ := fo_Define_parts w.params
  exact callOK_fn (k_Define_parts w.params) h1 h2 h4 (h5 v0) (Nat.le_of_ble_eq_true rfl) (h3 ▸ c_Define_parts w.params) h
theorem kp_If_U__initUU {w : World} : Callable w (.ref 219) := callable_K (by kernel_rfl)
theorem fo_If_U__initUU (P : Params) : ∃ fd, (ob219 P).data = .func fd ∧ fd.body = .stmts (fdB (mAt 21 1)) ∧ fd.scope = fdS (mAt 21 1) ∧ fnOk (KK P) fd ns_If_U__initUU 4 = true ∧ ∀ v0 v1 v2 v3 : Value, bindArgs fd ⟨[v0, v1, v2, v3], []⟩ = pure ((ns_If_U__initUU.take 4).zip [v0, v1, v2, v3]) := ⟨_, rfl, rfl, rfl, by kernel_rfl, by intros; kernel_rfl⟩
theorem call_If_U__initUU {w : World} {k : Nat} {n : Led} {Q : Value → Led → Prop} {v0 v1 v2 v3 : Value} (h : wB w k ir_If_U__initUU (initL [v0, v1, v2, v3]) n fun f _ n' => Q (retOf f) n') : CallOK w (k + 1) (.ref 219) [v0, v1, v2, v3] n Q := by
  obtain ⟨fd, h1, h2, h3, h4, h5⟩ := fo_If_U__initUU w.params
  exact callOK_fn (k_If_U__initUU w.params) h1 h2 h4 (h5 v0 v1 v2 v3) (Nat.le_of_ble_eq_true rfl) (h3 ▸ c_If_U__initUU w.params) h
theorem kp_If_parts {w : World} : Callable w (.ref 226) := callable_K (by kernel_rfl)
theorem fo_If_parts (P : Params) : ∃ fd, (ob226 P).data = .func fd ∧ fd.body = .stmts (fdB (mAt 21 2)) ∧ fd.scope = fdS (mAt 21 2) ∧ fnOk (KK P) fd ns_If_parts 1 = true ∧ ∀ v0 : Value, bindArgs fd ⟨[v0], []⟩ = pure ((ns_If_parts.take 1).zip [v0]) := ⟨_, rfl, rfl, rfl, by kernel_rfl, by intros; kernel_rfl⟩
theorem call_If_parts {w : World} {k : Nat} {n : Led} {Q : Value → Led → Prop} {v0 : Value} (h : wB w k ir_If_parts (initL [v0]) n fun f _ n' => Q (retOf f) n') : CallOK w (k + 1) (.ref 226) [v0] n Q := by
  obtain ⟨fd, h1, h2, h3, h4, h5⟩ := fo_If_parts w.params
  exact callOK_fn (k_If_parts w.params) h1 h2 h4 (h5 v0) (Nat.le_of_ble_eq_true rfl) (h3 ▸ c_If_parts w.params) h
theorem kp_Lambda_U__initUU {w : World} : Callable w (.ref 252) := callable_K (by kernel_rfl)
theorem fo_Lambda_U__initUU (P : Params) : ∃ fd, (ob252 P).data = .func fd ∧ fd.body = .stmts (fdB (mAt 22 1)) ∧ fd.scope = fdS (mAt 22 1) ∧ fnOk (KK P) fd ns_Lambda_U__initUU 5 = true ∧ ∀ v0 v1 v2 v3 v4 : Value, bindArgs fd ⟨[v0, v1, v2, v3, v4], []⟩ = pure ((ns_Lambda_U__initUU.take 5).zip [v0, v1, v2, v3, v4]) := ⟨_, rfl, rfl, rfl, by kernel_rfl, by intros; kernel_rfl⟩
theorem call_Lambda_U__initUU {w : World} {k : Nat} {n : Led} {Q : Value → Led → Prop} {v0 v1 v2 v3 v4 : Value} (h : wB w k ir_Lambda_U__initUU (initL [v0, v1, v2, v3, v4]) n fun f _ n' => Q (retOf f) n') : CallOK w (k + 1) (.ref 252) [v0, v1, v2, v3, v4] n Q := by
  obtain ⟨fd, h1, h2, h3, h4, h5⟩ := fo_Lambda_U__initUU w.params
  exact callOK_fn (k_Lambda_U__initUU w.params) h1 h2 h4 (h5 v0 v1 v2 v3 v4) (Nat.le_of_ble_eq_true rfl) (h3 ▸ c_Lambda_U__initUU w.params) h
theorem kp_Lambda_parts {w : World} : Callable w (.ref 259) := callable_K (by kernel_rfl)
theorem fo_Lambda_parts (P : Params) : ∃ fd, (ob259 P).data = .func fd ∧ fd.body = .stmts (fdB (mAt 22 2)) ∧ fd.scope = fdS (mAt 22 2) ∧ fnOk (KK P) fd ns_Lambda_parts 1 = true ∧ ∀ v0 : Value, bindArgs fd ⟨[v0], []⟩ = pure ((ns_Lambda_parts.take 1).zip [v0]) := ⟨_, rfl, rfl, rfl, by kernel_rfl, by intros; kernel_rfl⟩
theorem call_Lambda_parts {w : World} {k : Nat} {n : Led} {Q : Value → Led → Prop} {v0 : Value} (h : wB w k ir_Lambda_parts (initL [v0]) n fun f _ n' => Q (retOf f) n') : CallOK w (k + 1) (.ref 259) [v0] n Q := by
  obtain ⟨fd, h1, h2, h3, h4, h5⟩ := fo_Lambda_parts w.params
  exact callOK_fn (k_Lambda_parts w.params) h1 h2 h4 (h5 v0) (Nat.le_of_ble_eq_true rfl) (h3 ▸ c_Lambda_parts w.params) h
theorem kp_Lambda_binders {w : World} : Callable w (.ref 273) := callable_K (by kernel_rfl)
theorem fo_Lambda_binders (P : Params) : ∃ fd, (ob273 P).data = .func fd ∧ fd.body = .stmts (fdB (mAt 22 4)) ∧ fd.scope = fdS (mAt 22 4) ∧ fnOk (KK P) fd ns_Lambda_binders 1 = true ∧ ∀ v0 : Value, bindArgs fd ⟨[v0], []⟩ = pure ((ns_Lambda_binders.take 1).zip [v0]) := ⟨_, rfl, rfl, rfl, by kernel_rfl, by intros; kernel_rfl⟩
theorem call_Lambda_binders {w : World} {k : Nat} {n : Led} {Q : Value → Led → Prop} {v0 : Value} (h : wB w k ir_Lambda_binders (initL [v0]) n fun f _ n' => Q (retOf f) n') : CallOK w (k + 1) (.ref 273) [v0] n Q := by
  obtain ⟨fd, h1, h2, h3, h4, h5⟩ := fo_Lambda_binders w.params
  exact callOK_fn (k_Lambda_binders w.params) h1 h2 h4 (h5 v0) (Nat.le_of_ble_eq_true rfl) (h3 ▸ c_Lambda_binders w.params) h
theorem kp_Call_U__initUU {w : World} : Callable w (.ref 299) := callable_K (by kernel_rfl)
theorem fo_Call_U__initUU (P : Params) : ∃ fd, (ob299 P).data = .func fd ∧ fd.body = .stmts (fdB (mAt 23 1)) ∧ fd.scope = fdS (mAt 23 1) ∧ fnOk (KK P) fd ns_Call_U__initUU 3 = true ∧ ∀ v0 v1 v2 : Value, bindArgs fd ⟨[v0, v1, v2], []⟩ = pure ((ns_Call_U__initUU.take 3).zip [v0, v1, v2]) := ⟨_, rfl, rfl, rfl, by kernel_rfl, by intros; kernel_rfl⟩
theorem call_Call_U__initUU {w : World} {k : Nat} {n : Led} {Q : Value → Led → Prop} {v0 v1 v2 : Value} (h : wB w k ir_Call_U__initUU (initL [v0, v1, v2]) n fun f _ n' => Q (retOf f) n') : CallOK w (k + 1) (.ref 299) [v0, v1, v2] n Q := by
  obtain ⟨fd, h1, h2, h3, h4, h5⟩ := fo_Call_U__initUU w.params
  exact callOK_fn (k_Call_U__initUU w.params) h1 h2 h4 (h5 v0 v1 v2) (Nat.le_of_ble_eq_true rfl) (h3 ▸ c_Call_U__initUU w.params) h
theorem kp_Call_parts {w : World} : Callable w (.ref 306) := callable_K (by kernel_rfl)
theorem fo_Call_parts (P : Params) : ∃ fd, (ob306 P).data = .func fd ∧ fd.body = .stmts (fdB (mAt 23 2)) ∧ fd.scope = fdS (mAt 23 2) ∧ fnOk (KK P) fd ns_Call_parts 1 = true ∧ ∀ v0 : Value, bindArgs fd ⟨[v0], []⟩ = pure ((ns_Call_parts.take 1).zip [v0]) := ⟨_, rfl, rfl, rfl, by kernel_rfl, by intros; kernel_rfl⟩
theorem call_Call_parts {w : World} {k : Nat} {n : Led} {Q : Value → Led → Prop} {v0 : Value} (h : wB w k ir_Call_parts (initL [v0]) n fun f _ n' => Q (retOf f) n') : CallOK w (k + 1) (.ref 306) [v0] n Q := by
  obtain ⟨fd, h1, h2, h3, h4, h5⟩ := fo_Call_parts w.params
  exact callOK_fn (k_Call_parts w.params) h1 h2 h4 (h5 v0) (Nat.le_of_ble_eq_true rfl) (h3 ▸ c_Call_parts w.params) h
theorem kp_Seq_U__initUU {w : World} : Callable w (.ref 332) := callable_K (by kernel_rfl)
theorem fo_Seq_U__initUU (P : Params) : ∃ fd, (ob332 P).data = .func fd ∧ fd.body = .stmts (fdB (mAt 24 1)) ∧ fd.scope = fdS (mAt 24 1) ∧ fnOk (KK P) fd ns_Seq_U__initUU 2 = true ∧ ∀ v0 v1 : Value, bindArgs fd ⟨[v0, v1], []⟩ = pure ((ns_Seq_U__initUU.take 2).zip [v0, v1]) := ⟨_, rfl, rfl, rfl, by kernel_rfl, by intros; kernel_rfl⟩
theorem call_Seq_U__initUU {w : World} {k : Nat} {n : Led} {Q : Value → Led → Prop} {v0 v1 : Value} (h : wB w k ir_Seq_U__initUU (initL [v0, v1]) n fun f _ n' => Q (retOf f) n') : CallOK w (k + 1) (.ref 332) [v0, v1] n Q := by
  obtain ⟨fd, h1, h2, h3, h4, h5⟩ := fo_Seq_U__initUU w.params
  exact callOK_fn (k_Seq_U__initUU w.params) h1 h2 h4 (h5 v0 v1) (Nat.le_of_ble_eq_true rfl) (h3 ▸ c_Seq_U__initUU w.params) h
theorem kp_Seq_parts {w : World} : Callable w (.ref 339) := callable_K (by kernel_rfl)
theorem fo_Seq_parts (P : Params) : ∃ fd, (ob339 P).data = .func fd ∧ fd.body = .stmts (fdB (mAt 24 2)) ∧ fd.scope = fdS (mAt 24 2) ∧ fnOk (KK P) fd ns_Seq_parts 1 = true ∧ ∀ v0 : Value, bindArgs fd ⟨[v0], []⟩ = pure ((ns_Seq_parts.take 1).zip [v0]) := ⟨_, rfl, rfl, rfl, by kernel_rfl, by intros; kernel_rfl⟩
theorem call_Seq_parts {w : World} {k : Nat} {n : Led} {Q : Value → Led → Prop} {v0 : Value} (h : wB w k ir_Seq_parts (initL [v0]) n fun f _ n' => Q (retOf f) n') : CallOK w (k + 1) (.ref 339) [v0] n Q := by
  obtain ⟨fd, h1, h2, h3, h4, h5⟩ := fo_Seq_parts w.params
  exact callOK_fn (k_Seq_parts w.params) h1 h2 h4 (h5 v0) (Nat.le_of_ble_eq_true rfl) (h3 ▸ c_Seq_parts w.params) h
theorem kp_Prim_U__initUU {w : World} : Callable w (.ref 365) := callable_K (by kernel_rfl)
theorem fo_Prim_U__initUU (P : Params) : ∃ fd, (ob365 P).data = .func fd ∧ fd.body = .stmts (fdB (mAt 25 1)) ∧ fd.scope = fdS (mAt 25 1) ∧ fnOk (KK P) fd ns_Prim_U__initUU 3 = true ∧ ∀ v0 v1 v2 : Value, bindArgs fd ⟨[v0, v1, v2], []⟩ = pure ((ns_Prim_U__initUU.take 3).zip [v0, v1, v2]) := ⟨_, rfl, rfl, rfl, by kernel_rfl, by intros; kernel_rfl⟩
theorem call_Prim_U__initUU {w : World} {k : Nat} {n : Led} {Q : Value → Led → Prop} {v0 v1 v2 : Value} (h : wB w k ir_Prim_U__initUU (initL [v0, v1, v2]) n fun f _ n' => Q (retOf f) n') : CallOK w (k + 1) (.ref 365) [v0, v1, v2] n Q := by
  obtain ⟨fd, h1, h2, h3, h4, h5⟩ := fo_Prim_U__initUU w.params
  exact callOK_fn (k_Prim_U__initUU w.params) h1 h2 h4 (h5 v0 v1 v2) (Nat.le_of_ble_eq_true rfl) (h3 ▸ c_Prim_U__initUU w.params) h
theorem kp_Prim_parts {w : World} : Callable w (.ref 372) := callable_K (by kernel_rfl)
theorem fo_Prim_parts (P : Params) : ∃ fd, (ob372 P).data = .func fd ∧ fd.body = .stmts (fdB (mAt 25 2)) ∧ fd.scope = fdS (mAt 25 2) ∧ fnOk (KK P) fd ns_Prim_parts 1 = true ∧ ∀ v0 : Value, bindArgs fd ⟨[v0], []⟩ = pure ((ns_Prim_parts.take 1).zip [v0]) := ⟨_, rfl, rfl, rfl, by kernel_rfl, by intros; kernel_rfl⟩
theorem call_Prim_parts {w : World} {k : Nat} {n : Led} {Q : Value → Led → Prop} {v0 : Value} (h : wB w k ir_Prim_parts (initL [v0]) n fun f _ n' => Q (retOf f) n') : CallOK w (k + 1) (.ref 372) [v0] n Q := by
  obtain ⟨fd, h1, h2, h3, h4, h5⟩ := fo_Prim_parts w.params
  exact callOK_fn (k_Prim_parts w.params) h1 h2 h4 (h5 v0) (Nat.le_of_ble_eq_true rfl) (h3 ▸ c_Prim_parts w.params) h
theorem kp_Fix_U__initUU {w : World} : Callable w (.ref 398) := callable_K (by kernel_rfl)
theorem fo_Fix_U__initUU (P : Params) : ∃ fd, (ob398 P).data = .func fd ∧ fd.body = .stmts (fdB (mAt 26 1)) ∧ fd.scope = fdS (mAt 26 1) ∧ fnOk (KK P) fd ns_Fix_U__initUU 4 = true ∧ ∀ v0 v1 v2 v3 : Value, bindArgs fd ⟨[v0, v1, v2, v3], []⟩ = pure ((ns_Fix_U__initUU.take 4).zip [v0, v1, v2, v3]) := ⟨_, rfl, rfl, rfl, by kernel_rfl, by intros; kernel_rfl⟩
theorem call_Fix_U__initUU {w : World} {k : Nat} {n : Led} {Q : Value → Led → Prop} {v0 v1 v2 v3 : Value} (h : wB w k ir_Fix_U__initUU (initL [v0, v1, v2, v3]) n fun f _ n' => Q (retOf f) n') : CallOK w (k + 1) (.ref 398) [v0, v1, v2, v3] n Q := by
  obtain ⟨fd, h1, h2, h3, h4, h5⟩ := fo_Fix_U__initUU w.params
  exact callOK_fn (k_Fix_U__initUU w.params) h1 h2 h4 (h5 v0 v1 v2 v3) (Nat.le_of_ble_eq_true rfl) (h3 ▸ c_Fix_U__initUU w.params) h
theorem kp_Fix_parts {w : World} : Callable w (.ref 405) := callable_K (by kernel_rfl)
theorem fo_Fix_parts (P : Params) : ∃ fd, (ob405 P).data = .func fd ∧ fd.body = .stmts (fdB (mAt 26 2)) ∧ fd.scope = fdS (mAt 26 2) ∧ fnOk (KK P) fd ns_Fix_parts 1 = true ∧ ∀ v0 : Value, bindArgs fd ⟨[v0], []⟩ = pure ((ns_Fix_parts.take 1).zip [v0]) := ⟨_, rfl, rfl, rfl, by kernel_rfl, by intros; kernel_rfl⟩
theorem call_Fix_parts {w : World} {k : Nat} {n : Led} {Q : Value → Led → Prop} {v0 : Value} (h : wB w k ir_Fix_parts (initL [v0]) n fun f _ n' => Q (retOf f) n') : CallOK w (k + 1) (.ref 405) [v0] n Q := by
  obtain ⟨fd, h1, h2, h3, h4, h5⟩ := fo_Fix_parts w.params
  exact callOK_fn (k_Fix_parts w.params) h1 h2 h4 (h5 v0) (Nat.le_of_ble_eq_true rfl) (h3 ▸ c_Fix_parts w.params) h
theorem kp_is_let {w : World} : Callable w (.ref 424) := callable_K (by kernel_rfl)
theorem fo_is_let (P : Params) : ∃ fd, (ob424 P).data = .func fd ∧ fd.body = .stmts (fdB (dAt 27)) ∧ fd.scope = fdS (dAt 27) ∧ fnOk (KK P) fd ns_is_let 1 = true ∧ ∀ v0 : Value, bindArgs fd ⟨[v0], []⟩ = pure ((ns_is_let.take 1).zip [v0]) := ⟨_, rfl, rfl, rfl, by kernel_rfl, by intros; kernel_rfl⟩
theorem call_is_let {w : World} {k : Nat} {n : Led} {Q : Value → Led → Prop} {v0 : Value} (h : wB w k ir_is_let (initL [v0]) n fun f _ n' => Q (retOf f) n') : CallOK w (k + 1) (.ref 424) [v0] n Q := by
  obtain ⟨fd, h1, h2, h3, h4, h5⟩ := fo_is_let w.params
  exact callOK_fn (k_is_let w.params) h1 h2 h4 (h5 v0) (Nat.le_of_ble_eq_true rfl) (h3 ▸ c_is_let w.params) h
theorem kp_Facts_U__initUU {w : World} : Callable w (.ref 438) := callable_K (by kernel_rfl)
theorem fo_Facts_U__initUU (P : Params) : ∃ fd, (ob438 P).data = .func fd ∧ fd.body = .stmts (fdB (mAt 30 0)) ∧ fd.scope = fdS (mAt 30 0) ∧ fnOk (KK P) fd ns_Facts_U__initUU 1 = true ∧ ∀ v0 : Value, bindArgs fd ⟨[v0], []⟩ = pure ((ns_Facts_U__initUU.take 1).zip [v0]) := ⟨_, rfl, rfl, rfl, by kernel_rfl, by intros; kernel_rfl⟩
theorem call_Facts_U__initUU {w : World} {k : Nat} {n : Led} {Q : Value → Led → Prop} {v0 : Value} (h : wB w k ir_Facts_U__initUU (initL [v0]) n fun f _ n' => Q (retOf f) n') : CallOK w (k + 1) (.ref 438) [v0] n Q := by
  obtain ⟨fd, h1, h2, h3, h4, h5⟩ := fo_Facts_U__initUU w.params
  exact callOK_fn (k_Facts_U__initUU w.params) h1 h2 h4 (h5 v0) (Nat.le_of_ble_eq_true rfl) (h3 ▸ c_Facts_U__initUU w.params) h
theorem kp_Facts_is_set {w : World} : Callable w (.ref 445) := callable_K (by kernel_rfl)
theorem fo_Facts_is_set (P : Params) : ∃ fd, (ob445 P).data = .func fd ∧ fd.body = .stmts (fdB (mAt 30 1)) ∧ fd.scope = fdS (mAt 30 1) ∧ fnOk (KK P) fd ns_Facts_is_set 2 = true ∧ ∀ v0 v1 : Value, bindArgs fd ⟨[v0, v1], []⟩ = pure ((ns_Facts_is_set.take 2).zip [v0, v1]) := ⟨_, rfl, rfl, rfl, by kernel_rfl, by intros; kernel_rfl⟩
theorem call_Facts_is_set {w : World} {k : Nat} {n : Led} {Q : Value → Led → Prop} {v0 v1 : Value} (h : wB w k ir_Facts_is_set (initL [v0, v1]) n fun f _ n' => Q (retOf f) n') : CallOK w (k + 1) (.ref 445) [v0, v1] n Q := by
  obtain ⟨fd, h1, h2, h3, h4, h5⟩ := fo_Facts_is_set w.params
  exact callOK_fn (k_Facts_is_set w.params) h1 h2 h4 (h5 v0 v1) (Nat.le_of_ble_eq_true rfl) (h3 ▸ c_Facts_is_set w.params) h
theorem kp_Facts_is_set_global {w : World} : Callable w (.ref 452) := callable_K (by kernel_rfl)
theorem fo_Facts_is_set_global (P : Params) : ∃ fd, (ob452 P).data = .func fd ∧ fd.body = .stmts (fdB (mAt 30 2)) ∧ fd.scope = fdS (mAt 30 2) ∧ fnOk (KK P) fd ns_Facts_is_set_global 2 = true ∧ ∀ v0 v1 : Value, bindArgs fd ⟨[v0, v1], []⟩ = pure ((ns_Facts_is_set_global.take 2).zip [v0, v1]) := ⟨_, rfl, rfl, rfl, by kernel_rfl, by intros; kernel_rfl⟩
theorem call_Facts_is_set_global {w : World} {k : Nat} {n : Led} {Q : Value → Led → Prop} {v0 v1 : Value} (h : wB w k ir_Facts_is_set_global (initL [v0, v1]) n fun f _ n' => Q (retOf f) n') : CallOK w (k + 1) (.ref 452) [v0, v1] n Q := by
  obtain ⟨fd, h1, h2, h3, h4, h5⟩ := fo_Facts_is_set_global w.params
  exact callOK_fn (k_Facts_is_set_global w.params) h1 h2 h4 (h5 v0 v1) (Nat.le_of_ble_eq_true rfl) (h3 ▸ c_Facts_is_set_global w.params) h
theorem kp_Facts_times_read {w : World} : Callable w (.ref 459) := callable_K (by kernel_rfl)
theorem fo_Facts_times_read (P : Params) : ∃ fd, (ob459 P).data = .func fd ∧ fd.body = .stmts (fdB (mAt 30 3)) ∧ fd.scope = fdS (mAt 30 3) ∧ fnOk (KK P) fd ns_Facts_times_read 2 = true ∧ ∀ v0 v1 : Value, bindArgs fd ⟨[v0, v1], []⟩ = pure ((ns_Facts_times_read.take 2).zip [v0, v1]) := ⟨_, rfl, rfl, rfl, by kernel_rfl, by intros; kernel_rfl⟩
theorem call_Facts_times_read {w : World} {k : Nat} {n : Led} {Q : Value → Led → Prop} {v0 v1 : Value} (h : wB w k ir_Facts_times_read (initL [v0, v1]) n fun f _ n' => Q (retOf f) n') : CallOK w (k + 1) (.ref 459) [v0, v1] n Q := by
  obtain ⟨fd, h1, h2, h3, h4, h5⟩ := fo_Facts_times_read w.params
  exact callOK_fn (k_Facts_times_read w.params) h1 h2 h4 (h5 v0 v1) (Nat.le_of_ble_eq_true rfl) (h3 ▸ c_Facts_times_read w.params) h
theorem kp_Facts_times_called {w : World} : Callable w (.ref 466) := callable_K (by kernel_rfl)
theorem fo_Facts_times_called (P : Params) : ∃ fd, (ob466 P).data = .func fd ∧ fd.body = .stmts (fdB (mAt 30 4)) ∧ fd.scope = fdS (mAt 30 4) ∧ fnOk (KK P) fd ns_Facts_times_called 2 = true ∧ ∀ v0 v1 : Value, bindArgs fd ⟨[v0, v1], []⟩ = pure ((ns_Facts_times_called.take 2).zip [v0, v1]) := ⟨_, rfl, rfl, rfl, by kernel_rfl, by intros; kernel_rfl⟩
theorem call_Facts_times_called {w : World} {k : Nat} {n : Led} {Q : Value → Led → Prop} {v0 v1 : Value} (h : wB w k ir_Facts_times_called (initL [v0, v1]) n fun f _ n' => Q (retOf f) n') : CallOK w (k + 1) (.ref 466) [v0, v1] n Q := by
  obtain ⟨fd, h1, h2, h3, h4, h5⟩ := fo_Facts_times_called w.params
  exact callOK_fn (k_Facts_times_called w.params) h1 h2 h4 (h5 v0 v1) (Nat.le_of_ble_eq_true rfl) (h3 ▸ c_Facts_times_called w.params) h
theorem kp_Facts_free {w : World} : Callable w (.ref 473) := callable_K (by kernel_rfl)
theorem fo_Facts_free (P : Params) : ∃ fd, (ob473 P).data = .func fd ∧ fd.body = .stmts (fdB (mAt 30 5)) ∧ fd.scope = fdS (mAt 30 5) ∧ fnOk (KK P) fd ns_Facts_free 2 = true ∧ ∀ v0 v1 : Value, bindArgs fd ⟨[v0, v1], []⟩ = pure ((ns_Facts_free.take 2).zip [v0, v1]) := ⟨_, rfl, rfl, rfl, by kernel_rfl, by intros; kernel_rfl⟩
theorem call_Facts_free {w : World} {k : Nat} {n : Led} {Q : Value → Led → Prop} {v0 v1 : Value} (h : wB w k ir_Facts_free (initL [v0, v1]) n fun f _ n' => Q (retOf f) n') : CallOK w (k + 1) (.ref 473) [v0, v1] n Q := by
  obtain ⟨fd, h1, h2, h3, h4, h5⟩ := fo_Facts_free w.params
  exact callOK_fn (k_Facts_free w.params) h1 h2 h4 (h5 v0 v1) (Nat.le_of_ble_eq_true rfl) (h3 ▸ c_Facts_free w.params) h
theorem kp_Facts_meet {w : World} : Callable w (.ref 480) := callable_K (by kernel_rfl)
theorem fo_Facts_meet (P : Params) : ∃ fd, (ob480 P).data = .func fd ∧ fd.body = .stmts (fdB (mAt 30 6)) ∧ fd.scope = fdS (mAt 30 6) ∧ fnOk (KK P) fd ns_Facts_meet 3 = true ∧ ∀ v0 v1 v2 : Value, bindArgs fd ⟨[v0, v1, v2], []⟩ = pure ((ns_Facts_meet.take 3).zip [v0, v1, v2]) := ⟨_, rfl, rfl, rfl, by kernel_rfl, by intros; kernel_rfl⟩
theorem call_Facts_meet {w : World} {k : Nat} {n : Led} {Q : Value → Led → Prop} {v0 v1 v2 : Value} (h : wB w k ir_Facts_meet (initL [v0, v1, v2]) n fun f _ n' => Q (retOf f) n') : CallOK w (k + 1) (.ref 480) [v0, v1, v2] n Q := by
  obtain ⟨fd, h1, h2, h3, h4, h5⟩ := fo_Facts_meet w.params
  exact callOK_fn (k_Facts_meet w.params) h1 h2 h4 (h5 v0 v1 v2) (Nat.le_of_ble_eq_true rfl) (h3 ▸ c_Facts_meet w.params) h
theorem kp_count_in {w : World} : Callable w (.ref 494) := callable_K (by kernel_rfl)
theorem fo_count_in (P : Params) : ∃ fd, (ob494 P).data = .func fd ∧ fd.body = .stmts (fdB (dAt 31)) ∧ fd.scope = fdS (dAt 31) ∧ fnOk (KK P) fd ns_count_in 2 = true ∧ ∀ v0 v1 : Value, bindArgs fd ⟨[v0, v1], []⟩ = pure ((ns_count_in.take 2).zip [v0, v1]) := ⟨_, rfl, rfl, rfl, by kernel_rfl, by intros; kernel_rfl⟩
theorem call_count_in {w : World} {k : Nat} {n : Led} {Q : Value → Led → Prop} {v0 v1 : Value} (h : wB w k ir_count_in (initL [v0, v1]) n fun f _ n' => Q (retOf f) n') : CallOK w (k + 1) (.ref 494) [v0, v1] n Q := by
  obtain ⟨fd, h1, h2, h3, h4, h5⟩ := fo_count_in w.params
  exact callOK_fn (k_count_in w.params) h1 h2 h4 (h5 v0 v1) (Nat.le_of_ble_eq_true rfl) (h3 ▸ c_count_in w.params) h
theorem kp_note_node {w : World} : Callable w (.ref 501) := callable_K (by kernel_rfl)
theorem fo_note_node (P : Params) : ∃ fd, (ob501 P).data = .func fd ∧ fd.body = .stmts (fdB (dAt 32)) ∧ fd.scope = fdS (dAt 32) ∧ fnOk (KK P) fd ns_note_node 3 = true ∧ ∀ v0 v1 v2 : Value, bindArgs fd ⟨[v0, v1, v2], []⟩ = pure ((ns_note_node.take 3).zip [v0, v1, v2]) := ⟨_, rfl, rfl, rfl, by kernel_rfl, by intros; kernel_rfl⟩
theorem call_note_node {w : World} {k : Nat} {n : Led} {Q : Value → Led → Prop} {v0 v1 v2 : Value} (h : wB w k ir_note_node (initL [v0, v1, v2]) n fun f _ n' => Q (retOf f) n') : CallOK w (k + 1) (.ref 501) [v0, v1, v2] n Q := by
  obtain ⟨fd, h1, h2, h3, h4, h5⟩ := fo_note_node w.params
  exact callOK_fn (k_note_node w.params) h1 h2 h4 (h5 v0 v1 v2) (Nat.le_of_ble_eq_true rfl) (h3 ▸ c_note_node w.params) h
theorem kp_facts_of {w : World} : Callable w (.ref 508) := callable_K (by kernel_rfl)
theorem fo_facts_of (P : Params) : ∃ fd, (ob508 P).data = .func fd ∧ fd.body = .stmts (fdB (dAt 33)) ∧ fd.scope = fdS (dAt 33) ∧ fnOk (KK P) fd ns_facts_of 1 = true ∧ ∀ v0 : Value, bindArgs fd ⟨[v0], []⟩ = pure ((ns_facts_of.take 1).zip [v0]) := ⟨_, rfl, rfl, rfl, by kernel_rfl, by intros; kernel_rfl⟩
theorem call_facts_of {w : World} {k : Nat} {n : Led} {Q : Value → Led → Prop} {v0 : Value} (h : wB w k ir_facts_of (initL [v0]) n fun f _ n' => Q (retOf f) n') : CallOK w (k + 1) (.ref 508) [v0] n Q := by
  obtain ⟨fd, h1, h2, h3, h4, h5⟩ := fo_facts_of w.params
  exact callOK_fn (k_facts_of w.params) h1 h2 h4 (h5 v0) (Nat.le_of_ble_eq_true rfl) (h3 ▸ c_facts_of w.params) h
theorem kp_law_draw {w : World} : Callable w (.ref 515) := callable_K (by kernel_rfl)
theorem fo_law_draw (P : Params) : ∃ fd, (ob515 P).data = .func fd ∧ fd.body = .stmts (fdB (dAt 36)) ∧ fd.scope = fdS (dAt 36) ∧ fnOk (KK P) fd ns_law_draw 2 = true ∧ ∀ v0 v1 : Value, bindArgs fd ⟨[v0, v1], []⟩ = pure ((ns_law_draw.take 2).zip [v0, v1]) := ⟨_, rfl, rfl, rfl, by kernel_rfl, by intros; kernel_rfl⟩
theorem call_law_draw {w : World} {k : Nat} {n : Led} {Q : Value → Led → Prop} {v0 v1 : Value} (h : wB w k ir_law_draw (initL [v0, v1]) n fun f _ n' => Q (retOf f) n') : CallOK w (k + 1) (.ref 515) [v0, v1] n Q := by
  obtain ⟨fd, h1, h2, h3, h4, h5⟩ := fo_law_draw w.params
  exact callOK_fn (k_law_draw w.params) h1 h2 h4 (h5 v0 v1) (Nat.le_of_ble_eq_true rfl) (h3 ▸ c_law_draw w.params) h
theorem kp_law_deck_of {w : World} : Callable w (.ref 520) := callable_K (by kernel_rfl)
theorem fo_law_deck_of (P : Params) : ∃ fd, (ob520 P).data = .func fd ∧ fd.body = .stmts (fdB (dAt 37)) ∧ fd.scope = fdS (dAt 37) ∧ fnOk (KK P) fd ns_law_deck_of 1 = true ∧ ∀ v0 : Value, bindArgs fd ⟨[v0], []⟩ = pure ((ns_law_deck_of.take 1).zip [v0]) := ⟨_, rfl, rfl, rfl, by kernel_rfl, by intros; kernel_rfl⟩
theorem call_law_deck_of {w : World} {k : Nat} {n : Led} {Q : Value → Led → Prop} {v0 : Value} (h : wB w k ir_law_deck_of (initL [v0]) n fun f _ n' => Q (retOf f) n') : CallOK w (k + 1) (.ref 520) [v0] n Q := by
  obtain ⟨fd, h1, h2, h3, h4, h5⟩ := fo_law_deck_of w.params
  exact callOK_fn (k_law_deck_of w.params) h1 h2 h4 (h5 v0) (Nat.le_of_ble_eq_true rfl) (h3 ▸ c_law_deck_of w.params) h
theorem kp_law_one {w : World} : Callable w (.ref 527) := callable_K (by kernel_rfl)
theorem fo_law_one (P : Params) : ∃ fd, (ob527 P).data = .func fd ∧ fd.body = .stmts (fdB (dAt 38)) ∧ fd.scope = fdS (dAt 38) ∧ fnOk (KK P) fd ns_law_one 2 = true ∧ ∀ v0 v1 : Value, bindArgs fd ⟨[v0, v1], []⟩ = pure ((ns_law_one.take 2).zip [v0, v1]) := ⟨_, rfl, rfl, rfl, by kernel_rfl, by intros; kernel_rfl⟩
theorem call_law_one {w : World} {k : Nat} {n : Led} {Q : Value → Led → Prop} {v0 v1 : Value} (h : wB w k ir_law_one (initL [v0, v1]) n fun f _ n' => Q (retOf f) n') : CallOK w (k + 1) (.ref 527) [v0, v1] n Q := by
  obtain ⟨fd, h1, h2, h3, h4, h5⟩ := fo_law_one w.params
  exact callOK_fn (k_law_one w.params) h1 h2 h4 (h5 v0 v1) (Nat.le_of_ble_eq_true rfl) (h3 ▸ c_law_one w.params) h
theorem kp_law_new {w : World} : Callable w (.ref 534) := callable_K (by kernel_rfl)
theorem fo_law_new (P : Params) : ∃ fd, (ob534 P).data = .func fd ∧ fd.body = .stmts (fdB (dAt 39)) ∧ fd.scope = fdS (dAt 39) ∧ fnOk (KK P) fd ns_law_new 2 = true ∧ ∀ v0 v1 : Value, bindArgs fd ⟨[v0, v1], []⟩ = pure ((ns_law_new.take 2).zip [v0, v1]) := ⟨_, rfl, rfl, rfl, by kernel_rfl, by intros; kernel_rfl⟩
theorem call_law_new {w : World} {k : Nat} {n : Led} {Q : Value → Led → Prop} {v0 v1 : Value} (h : wB w k ir_law_new (initL [v0, v1]) n fun f _ n' => Q (retOf f) n') : CallOK w (k + 1) (.ref 534) [v0, v1] n Q := by
  obtain ⟨fd, h1, h2, h3, h4, h5⟩ := fo_law_new w.params
  exact callOK_fn (k_law_new w.params) h1 h2 h4 (h5 v0 v1) (Nat.le_of_ble_eq_true rfl) (h3 ▸ c_law_new w.params) h
theorem kp_law_lam {w : World} : Callable w (.ref 539) := callable_K (by kernel_rfl)
theorem fo_law_lam (P : Params) : ∃ fd, (ob539 P).data = .func fd ∧ fd.body = .stmts (fdB (dAt 40)) ∧ fd.scope = fdS (dAt 40) ∧ fnOk (KK P) fd ns_law_lam 4 = true ∧ ∀ v0 v1 v2 v3 : Value, bindArgs fd ⟨[v0, v1, v2, v3], []⟩ = pure ((ns_law_lam.take 4).zip [v0, v1, v2, v3]) := ⟨_, rfl, rfl, rfl, by kernel_rfl, by intros; kernel_rfl⟩
theorem call_law_lam {w : World} {k : Nat} {n : Led} {Q : Value → Led → Prop} {v0 v1 v2 v3 : Value} (h : wB w k ir_law_lam (initL [v0, v1, v2, v3]) n fun f _ n' => Q (retOf f) n') : CallOK w (k + 1) (.ref 539) [v0, v1, v2, v3] n Q := by
  obtain ⟨fd, h1, h2, h3, h4, h5⟩ := fo_law_lam w.params
  exact callOK_fn (k_law_lam w.params) h1 h2 h4 (h5 v0 v1 v2 v3) (Nat.le_of_ble_eq_true rfl) (h3 ▸ c_law_lam w.params) h
theorem kp_law_node_of {w : World} : Callable w (.ref 544) := callable_K (by kernel_rfl)
theorem fo_law_node_of (P : Params) : ∃ fd, (ob544 P).data = .func fd ∧ fd.body = .stmts (fdB (dAt 41)) ∧ fd.scope = fdS (dAt 41) ∧ fnOk (KK P) fd ns_law_node_of 4 = true ∧ ∀ v0 v1 v2 v3 : Value, bindArgs fd ⟨[v0, v1, v2, v3], []⟩ = pure ((ns_law_node_of.take 4).zip [v0, v1, v2, v3]) := ⟨_, rfl, rfl, rfl, by kernel_rfl, by intros; kernel_rfl⟩
theorem call_law_node_of {w : World} {k : Nat} {n : Led} {Q : Value → Led → Prop} {v0 v1 v2 v3 : Value} (h : wB w k ir_law_node_of (initL [v0, v1, v2, v3]) n fun f _ n' => Q (retOf f) n') : CallOK w (k + 1) (.ref 544) [v0, v1, v2, v3] n Q := by
  obtain ⟨fd, h1, h2, h3, h4, h5⟩ := fo_law_node_of w.params
  exact callOK_fn (k_law_node_of w.params) h1 h2 h4 (h5 v0 v1 v2 v3) (Nat.le_of_ble_eq_true rfl) (h3 ▸ c_law_node_of w.params) h
theorem kp_law_is_own_let {w : World} : Callable w (.ref 551) := callable_K (by kernel_rfl)
theorem fo_law_is_own_let (P : Params) : ∃ fd, (ob551 P).data = .func fd ∧ fd.body = .stmts (fdB (dAt 42)) ∧ fd.scope = fdS (dAt 42) ∧ fnOk (KK P) fd ns_law_is_own_let 1 = true ∧ ∀ v0 : Value, bindArgs fd ⟨[v0], []⟩ = pure ((ns_law_is_own_let.take 1).zip [v0]) := ⟨_, rfl, rfl, rfl, by kernel_rfl, by intros; kernel_rfl⟩
theorem call_law_is_own_let {w : World} {k : Nat} {n : Led} {Q : Value → Led → Prop} {v0 : Value} (h : wB w k ir_law_is_own_let (initL [v0]) n fun f _ n' => Q (retOf f) n') : CallOK w (k + 1) (.ref 551) [v0] n Q := by
  obtain ⟨fd, h1, h2, h3, h4, h5⟩ := fo_law_is_own_let w.params
  exact callOK_fn (k_law_is_own_let w.params) h1 h2 h4 (h5 v0) (Nat.le_of_ble_eq_true rfl) (h3 ▸ c_law_is_own_let w.params) h
theorem kp_law_walk {w : World} : Callable w (.ref 558) := callable_K (by kernel_rfl)
theorem fo_law_walk (P : Params) : ∃ fd, (ob558 P).data = .func fd ∧ fd.body = .stmts (fdB (dAt 43)) ∧ fd.scope = fdS (dAt 43) ∧ fnOk (KK P) fd ns_law_walk 5 = true ∧ ∀ v0 v1 v2 v3 v4 : Value, bindArgs fd ⟨[v0, v1, v2, v3, v4], []⟩ = pure ((ns_law_walk.take 5).zip [v0, v1, v2, v3, v4]) := ⟨_, rfl, rfl, rfl, by kernel_rfl, by intros; kernel_rfl⟩
theorem call_law_walk {w : World} {k : Nat} {n : Led} {Q : Value → Led → Prop} {v0 v1 v2 v3 v4 : Value} (h : wB w k ir_law_walk (initL [v0, v1, v2, v3, v4]) n fun f _ n' => Q (retOf f) n') : CallOK w (k + 1) (.ref 558) [v0, v1, v2, v3, v4] n Q := by
  obtain ⟨fd, h1, h2, h3, h4, h5⟩ := fo_law_walk w.params
  exact callOK_fn (k_law_walk w.params) h1 h2 h4 (h5 v0 v1 v2 v3 v4) (Nat.le_of_ble_eq_true rfl) (h3 ▸ c_law_walk w.params) h
theorem kp_law_count {w : World} : Callable w (.ref 563) := callable_K (by kernel_rfl)
theorem fo_law_count (P : Params) : ∃ fd, (ob563 P).data = .func fd ∧ fd.body = .stmts (fdB (dAt 44)) ∧ fd.scope = fdS (dAt 44) ∧ fnOk (KK P) fd ns_law_count 3 = true ∧ ∀ v0 v1 v2 : Value, bindArgs fd ⟨[v0, v1, v2], []⟩ = pure ((ns_law_count.take 3).zip [v0, v1, v2]) := ⟨_, rfl, rfl, rfl, by kernel_rfl, by intros; kernel_rfl⟩
theorem call_law_count {w : World} {k : Nat} {n : Led} {Q : Value → Led → Prop} {v0 v1 v2 : Value} (h : wB w k ir_law_count (initL [v0, v1, v2]) n fun f _ n' => Q (retOf f) n') : CallOK w (k + 1) (.ref 563) [v0, v1, v2] n Q := by
  obtain ⟨fd, h1, h2, h3, h4, h5⟩ := fo_law_count w.params
  exact callOK_fn (k_law_count w.params) h1 h2 h4 (h5 v0 v1 v2) (Nat.le_of_ble_eq_true rfl) (h3 ▸ c_law_count w.params) h
theorem kp_law_taken {w : World} : Callable w (.ref 570) := callable_K (by kernel_rfl)
theorem fo_law_taken (P : Params) : ∃ fd, (ob570 P).data = .func fd ∧ fd.body = .stmts (fdB (dAt 45)) ∧ fd.scope = fdS (dAt 45) ∧ fnOk (KK P) fd ns_law_taken 3 = true ∧ ∀ v0 v1 v2 : Value, bindArgs fd ⟨[v0, v1, v2], []⟩ = pure ((ns_law_taken.take 3).zip [v0, v1, v2]) := ⟨_, rfl, rfl, rfl, by kernel_rfl, by intros; kernel_rfl⟩
theorem call_law_taken {w : World} {k : Nat} {n : Led} {Q : Value → Led → Prop} {v0 v1 v2 : Value} (h : wB w k ir_law_taken (initL [v0, v1, v2]) n fun f _ n' => Q (retOf f) n') : CallOK w (k + 1) (.ref 570) [v0, v1, v2] n Q := by
  obtain ⟨fd, h1, h2, h3, h4, h5⟩ := fo_law_taken w.params
  exact callOK_fn (k_law_taken w.params) h1 h2 h4 (h5 v0 v1 v2) (Nat.le_of_ble_eq_true rfl) (h3 ▸ c_law_taken w.params) h
theorem kp_law_is_caught {w : World} : Callable w (.ref 575) := callable_K (by kernel_rfl)
theorem fo_law_is_caught (P : Params) : ∃ fd, (ob575 P).data = .func fd ∧ fd.body = .stmts (fdB (dAt 46)) ∧ fd.scope = fdS (dAt 46) ∧ fnOk (KK P) fd ns_law_is_caught 4 = true ∧ ∀ v0 v1 v2 v3 : Value, bindArgs fd ⟨[v0, v1, v2, v3], []⟩ = pure ((ns_law_is_caught.take 4).zip [v0, v1, v2, v3]) := ⟨_, rfl, rfl, rfl, by kernel_rfl, by intros; kernel_rfl⟩
theorem call_law_is_caught {w : World} {k : Nat} {n : Led} {Q : Value → Led → Prop} {v0 v1 v2 v3 : Value} (h : wB w k ir_law_is_caught (initL [v0, v1, v2, v3]) n fun f _ n' => Q (retOf f) n') : CallOK w (k + 1) (.ref 575) [v0, v1, v2, v3] n Q := by
  obtain ⟨fd, h1, h2, h3, h4, h5⟩ := fo_law_is_caught w.params
  exact callOK_fn (k_law_is_caught w.params) h1 h2 h4 (h5 v0 v1 v2 v3) (Nat.le_of_ble_eq_true rfl) (h3 ▸ c_law_is_caught w.params) h
theorem kp_law {w : World} : Callable w (.ref 582) := callable_K (by kernel_rfl)
theorem fo_law (P : Params) : ∃ fd, (ob582 P).data = .func fd ∧ fd.body = .stmts (fdB (dAt 47)) ∧ fd.scope = fdS (dAt 47) ∧ fnOk (KK P) fd ns_law 1 = true ∧ ∀ v0 : Value, bindArgs fd ⟨[v0], []⟩ = pure ((ns_law.take 1).zip [v0]) := ⟨_, rfl, rfl, rfl, by kernel_rfl, by intros; kernel_rfl⟩
theorem call_law {w : World} {k : Nat} {n : Led} {Q : Value → Led → Prop} {v0 : Value} (h : wB w k ir_law (initL [v0]) n fun f _ n' => Q (retOf f) n') : CallOK w (k + 1) (.ref 582) [v0] n Q := by
  obtain ⟨fd, h1, h2, h3, h4, h5⟩ := fo_law w.params
  exact callOK_fn (k_law w.params) h1 h2 h4 (h5 v0) (Nat.le_of_ble_eq_true rfl) (h3 ▸ c_law w.params) h
theorem mk_Const (P : Params) : makeOk (KK P) 66 63 = true := by kernel_rfl
theorem kpc_Const {w : World} : Callable w (.ref 66) := callable_K (by kernel_rfl)
theorem mk_Local (P : Params) : makeOk (KK P) 85 82 = true := by kernel_rfl
theorem kpc_Local {w : World} : Callable w (.ref 85) := callable_K (by kernel_rfl)
theorem mk_Global (P : Params) : makeOk (KK P) 104 101 = true := by kernel_rfl
theorem kpc_Global {w : World} : Callable w (.ref 104) := callable_K (by kernel_rfl)
theorem mk_SetLocal (P : Params) : makeOk (KK P) 137 120 = true := by kernel_rfl
theorem kpc_SetLocal {w : World} : Callable w (.ref 137) := callable_K (by kernel_rfl)
theorem mk_SetGlobal (P : Params) : makeOk (KK P) 170 153 = true := by kernel_rfl
theorem kpc_SetGlobal {w : World} : Callable w (.ref 170) := callable_K (by kernel_rfl)
theorem mk_Define (P : Params) : makeOk (KK P) 203 186 = true := by kernel_rfl
theorem kpc_Define {w : World} : Callable w (.ref 203) := callable_K (by kernel_rfl)
theorem mk_If (P : Params) : makeOk (KK P) 236 219 = true := by kernel_rfl
theorem kpc_If {w : World} : Callable w (.ref 236) := callable_K (by kernel_rfl)
theorem mk_Lambda (P : Params) : makeOk (KK P) 283 252 = true := by kernel_rfl
theorem kpc_Lambda {w : World} : Callable w (.ref 283) := callable_K (by kernel_rfl)
theorem mk_Call (P : Params) : makeOk (KK P) 316 299 = true := by kernel_rfl
theorem kpc_Call {w : World} : Callable w (.ref 316) := callable_K (by kernel_rfl)
theorem mk_Seq (P : Params) : makeOk (KK P) 349 332 = true := by kernel_rfl
theorem kpc_Seq {w : World} : Callable w (.ref 349) := callable_K (by kernel_rfl)
theorem mk_Prim (P : Params) : makeOk (KK P) 382 365 = true := by kernel_rfl
theorem kpc_Prim {w : World} : Callable w (.ref 382) := callable_K (by kernel_rfl)
theorem mk_Fix (P : Params) : makeOk (KK P) 415 398 = true := by kernel_rfl
theorem kpc_Fix {w : World} : Callable w (.ref 415) := callable_K (by kernel_rfl)
theorem mk_Facts (P : Params) : makeOk (KK P) 483 438 = true := by kernel_rfl
theorem kpc_Facts {w : World} : Callable w (.ref 483) := callable_K (by kernel_rfl)
end
section
open PySem PySem.W PyProof.Rows PyProof.V
open Classical in
/-! Use -/
section
variable {w : World} {k : Nat} {α : Type} {n n1 : Led}
/-- of what is known only this much is needed behind -/
theorem OK.weaken {t : Sem α} {Q : α → Led → Prop} (h : OK w k t n fun v n' => ∃ n'', (∀ p ∈ n'', p ∈ n') ∧ ((keys n').Nodup → (keys n'').Nodup) ∧ Q v n'') : OK w k t n Q := fun A g L m R s C =>
  h.go C fun v n' h1 tk C1 ⟨n'', hs, nd, q⟩ => ⟨n'', h1, tk, rfl, C1.of (fun p hp => (List.mem_append.mp hp).elim (List.mem_append_left _) fun q => List.mem_append_right _ (hs p q)) (by
    have := C1.nd
    rw [keys_append, List.nodup_append] at this ⊢
    refine ⟨this.1, nd this.2.1, fun a ha b hb e => ?_⟩
    obtain ⟨p, hp, rfl⟩ := List.mem_map.mp hb
    exact this.2.2 a ha p.1 (List.mem_map.mpr ⟨p, hs p hp, rfl⟩) e), q⟩
theorem OK.nd {t : Sem α} {Q : α → Led → Prop} (h : (keys n).Nodup → OK w k t n Q) : OK w k t n Q := fun A g L m R s C => h C.nd' A g L m R s C
theorem OK.withNd {t : Sem α} {Q : α → Led → Prop} (h : OK w k t n fun v n' => (keys n').Nodup → Q v n') : OK w k t n Q := fun A g L m R s C =>
  h.go C fun v n' h1 tk C1 q => ⟨n', h1, tk, rfl, C1, q C1.nd'⟩
theorem key_eq {n : Led} (nd : (keys n).Nodup) {p q : Addr × Obj} (hp : p ∈ n) (hq : q ∈ n) (e : p.1 = q.1) : p = q := by
  obtain ⟨a, o⟩ := p; obtain ⟨b, o'⟩ := q
  dsimp only at e; subst e
  rw [same_at nd hp hq]
/-- a small footprint used in a larger ledger -/
theorem OK.use {t : Sem α} {Q1 Q : α → Led → Prop} (hs : ∀ p ∈ n1, p ∈ n) (hn : (keys n1).Nodup) (h : OK w k t n1 Q1)
    (cont : ∀ v n1' n', Q1 v n1' → (keys n').Nodup → (∀ p ∈ n1', p ∈ n') → (∀ p ∈ n, p.1 ∉ keys n1 → p ∈ n') → (∀ p ∈ n', p ∈ n1' ∨ (p ∈ n ∧ p.1 ∉ keys n1)) → (keys n1').Nodup → (∀ p ∈ n1', p.1 ∈ keys n1 ∨ p.1 ∉ keys n) → Q v n') : OK w k t n Q := fun A g L m R s C => by
  let rest := n.filter fun p => p.1 ∉ keys n1
  have hr : ∀ p, p ∈ rest ↔ p ∈ n ∧ p.1 ∉ keys n1 := fun p => by simp [rest]
  have nd := C.nd'
  have ndR : (keys R).Nodup ∧ ∀ a ∈ keys R, a ∉ keys n := by
    have := C.nd
    rw [keys_append, List.nodup_append] at this
    exact ⟨this.1, fun a ha hb => this.2.2 a ha a hb rfl⟩
  have ndr : (keys rest).Nodup := (List.filter_sublist.map _).nodup nd
  have C1 : Cx w k A g L m ((R ++ rest) ++ n1) s.heap := by
    refine C.of (fun p hp => ?_) ?_
    · simp only [List.mem_append] at hp ⊢
      rcases hp with (hp | hp) | hp
      · exact .inl hp
      · exact .inr ((hr p).mp hp).1
      · exact .inr (hs p hp)
    · rw [keys_append, keys_append, List.nodup_append, List.nodup_append]
      refine ⟨⟨ndR.1, ndr, fun a ha b hb e => ?_⟩, hn, fun a ha b hb e => ?_⟩
      · subst e
        obtain ⟨p, hp, rfl⟩ := List.mem_map.mp hb
        exact ndR.2 _ ha (List.mem_map.mpr ⟨p, ((hr p).mp hp).1, rfl⟩)
      · subst e
        rcases List.mem_append.mp ha with ha | ha
        · obtain ⟨p, hp, rfl⟩ := List.mem_map.mp hb
          exact ndR.2 _ ha (List.mem_map.mpr ⟨p, hs p hp, rfl⟩)
        · obtain ⟨p, hp, rfl⟩ := List.mem_map.mp ha
          exact ((hr p).mp hp).2 hb
  refine h.go C1 fun v n1' h1 tk C2 q => ?_
  have nd2 := C2.nd
  rw [keys_append, keys_append, List.nodup_append, List.nodup_append] at nd2
  obtain ⟨⟨a1, a2, a3⟩, a4, a5⟩ := nd2
  have C3 : Cx w k A g L m (R ++ (n1' ++ rest)) h1 := C2.perm (by
    rw [List.append_assoc]
    exact List.Perm.append_left _ List.perm_append_comm)
  refine ⟨n1' ++ rest, h1, tk, rfl, C3, cont v n1' _ q C3.nd' (fun p hp => List.mem_append_left _ hp) (fun p hp hk => List.mem_append_right _ ((hr p).mpr ⟨hp, hk⟩)) (fun p hp => (List.mem_append.mp hp).imp id fun z => (hr p).mp z) a4 fun p hp => ?_⟩
  by_cases hk : p.1 ∈ keys n1
  · exact .inl hk
  · refine .inr fun hkn => ?_
    obtain ⟨q, hq, e⟩ := List.mem_map.mp hkn
    exact a5 q.1 (List.mem_append_right _ (List.mem_map.mpr ⟨q, (hr q).mpr ⟨hq, by rw [e]; exact hk⟩, rfl⟩)) p.1 (List.mem_map.mpr ⟨p, hp, rfl⟩) e
end
end
section
open PySem PySem.W PyProof.Rows PyProof.V
/-! Step -/
section
variable (w : World) (k : Nat)
noncomputable abbrev kNext (r : Sts) (Q : Flow → Lc → Led → Prop) : Flow → Lc → Led → Prop := fun f l1 n1 => match f with | .next => wB w k r l1 n1 Q | f => Q f l1 n1
noncomputable abbrev kIf (a b : Sts) (l : Lc) (Q : Flow → Lc → Led → Prop) : Bool → Led → Prop := fun c n1 => match c with | true => wB w k a l n1 Q | false => wB w k b l n1 Q
noncomputable abbrev kIfE (a b : Ex) (l : Lc) (Q : Value → Led → Prop) : Bool → Led → Prop := fun c n1 => match c with | true => wE w k a l n1 Q | false => wE w k b l n1 Q
noncomputable abbrev kTst (Q : Bool → Led → Prop) : Value → Led → Prop := fun v n3 => ∃ c, v = .bool c ∧ Q c n3
noncomputable abbrev kBin (op : Operator) (x : Value) (Q : Value → Led → Prop) : Value → Led → Prop := fun y n2 => OK w k (binaryOp op x y) n2 Q
noncomputable abbrev kBin1 (op : Operator) (b : Ex) (l : Lc) (Q : Value → Led → Prop) : Value → Led → Prop := fun x n1 => wE w k b l n1 (kBin w k op x Q)
noncomputable abbrev kNeg (Q : Value → Led → Prop) : Value → Led → Prop := fun x n1 => OK w k (unaryOp .USub x) n1 Q
noncomputable abbrev kCmp (op : CmpOp) (x : Value) (Q : Value → Led → Prop) : Value → Led → Prop := fun y n2 => OK w k (compareOp op x y) n2 Q
noncomputable abbrev kCmp1 (op : CmpOp) (b : Ex) (l : Lc) (Q : Value → Led → Prop) : Value → Led → Prop := fun x n1 => wE w k b l n1 (kCmp w k op x Q)
noncomputable abbrev kAttr (nm : Str) (Q : Value → Led → Prop) : Value → Led → Prop := fun x n1 => OK w k (getAttr x nm true) n1 Q
noncomputable abbrev kIdx (x : Value) (Q : Value → Led → Prop) : Value → Led → Prop := fun y n2 => OK w k (subTree x y) n2 Q
noncomputable abbrev kIdx1 (i : Ex) (l : Lc) (Q : Value → Led → Prop) : Value → Led → Prop := fun x n1 => wE w k i l n1 (kIdx w k x Q)
noncomputable abbrev kCall (fv : Value) (Q : Value → Led → Prop) : List Value → Led → Prop := fun vs n2 => Callable w fv ∧ OK w k (call fv vs) n2 Q
noncomputable abbrev kCall1 (es : Exs) (l : Lc) (Q : Value → Led → Prop) : Value → Led → Prop := fun fv n1 => wEs w k es l n1 (kCall w k fv Q)
noncomputable abbrev kMeth (fv : Value) (first : List Value) (Q : Value → Led → Prop) : List Value → Led → Prop := fun vs n2 => Callable w fv ∧ OK w k (call fv (first ++ vs)) n2 Q
noncomputable abbrev kMeth1 (nm : Str) (es : Exs) (l : Lc) (Q : Value → Led → Prop) : Value → Led → Prop := fun ov n1 => ∃ fv first, (∀ pl, OK w k (getMethod ov nm pl) n1 fun r n2 => r = (fv, first) ∧ n2 = n1) ∧ wEs w k es l n1 (kMeth w k fv first Q)
noncomputable abbrev kLst (Q : Value → Led → Prop) : List Value → Led → Prop := fun vs n1 => vs.length ≤ sizeLine ∧ ∀ a, a ∉ keys n1 → Q (.ref a) ((a, listOf vs.toArray 0) :: n1)
noncomputable abbrev kTup (Q : Value → Led → Prop) : List Value → Led → Prop := fun vs n1 => vs.length ≤ sizeLine ∧ ∀ a, a ∉ keys n1 → Q (.ref a) ((a, tupOf vs.toArray) :: n1)
noncomputable abbrev kEs (v : Value) (Q : List Value → Led → Prop) : List Value → Led → Prop := fun vs n2 => Q (v :: vs) n2
noncomputable abbrev kEs1 (es : Exs) (l : Lc) (Q : List Value → Led → Prop) : Value → Led → Prop := fun v n1 => wEs w k es l n1 (kEs v Q)
noncomputable abbrev kAnd (b : Ex) (l : Lc) (Q : Bool → Led → Prop) : Bool → Led → Prop := fun c n1 => match c with | true => wT w k b l n1 Q | false => Q false n1
noncomputable abbrev kOr (b : Ex) (l : Lc) (Q : Bool → Led → Prop) : Bool → Led → Prop := fun c n1 => match c with | true => Q true n1 | false => wT w k b l n1 Q
noncomputable abbrev kExpr (l : Lc) (Q : Flow → Lc → Led → Prop) : Value → Led → Prop := fun v n1 => (∀ a, v ≠ .ref a) ∧ Q .next l n1
noncomputable abbrev kRet (l : Lc) (Q : Flow → Lc → Led → Prop) : Value → Led → Prop := fun v n1 => Q (.ret v) l n1
noncomputable abbrev kAsg (i : Nat) (l : Lc) (Q : Flow → Lc → Led → Prop) : Value → Led → Prop := fun v n1 => Q .next (lset i v l) n1
noncomputable abbrev kAsgB (i : Nat) (r : Sts) (l : Lc) (Q : Flow → Lc → Led → Prop) : Value → Led → Prop := fun v n1 => wB w k r (lset i v l) n1 Q
noncomputable abbrev kExprB (r : Sts) (l : Lc) (Q : Flow → Lc → Led → Prop) : Value → Led → Prop := fun v n1 => (∀ a, v ≠ .ref a) ∧ wB w k r l n1 Q
noncomputable abbrev kTurn (I : Lc → Led → Prop) (Q : Flow → Lc → Led → Prop) : Flow → Lc → Led → Prop := fun f l3 n3 => match f with
  | .next | .cont => I l3 n3
  | .brk => Q .next l3 n3
  | .ret v => Q (.ret v) l3 n3
noncomputable abbrev kLess (I : Nat → Lc → Led → Prop) (j : Nat) : Lc → Led → Prop := fun l3 n3 => ∃ i, i < j ∧ I i l3 n3
noncomputable abbrev kLoop (b : Sts) (I : Nat → Lc → Led → Prop) (j : Nat) (l1 : Lc) (Q : Flow → Lc → Led → Prop) : Bool → Led → Prop := fun c n2 => match c with
  | true => wB w k b l1 n2 (kTurn (kLess I j) Q)
  | false => Q .next l1 n2
noncomputable abbrev kDone (l : Lc) (Q : Flow → Lc → Led → Prop) : Unit → Led → Prop := fun _ n1 => Q .next l n1
noncomputable abbrev kAsgA (nm : Str) (v : Value) (l : Lc) (Q : Flow → Lc → Led → Prop) : Value → Led → Prop := fun x n2 => OK w k (setAttr x nm v) n2 (kDone l Q)
noncomputable abbrev kAsgI (x v : Value) (l : Lc) (Q : Flow → Lc → Led → Prop) : Value → Led → Prop := fun y n3 => OK w k (setItem x y v) n3 (kDone l Q)
end
theorem OK.post {w : World} {k : Nat} {α : Type} {t : Sem α} {n : Led} {Q : α → Led → Prop} (h : ∀ Q' : α → Led → Prop, (∀ v n', Q v n' → Q' v n') → OK w k t n Q') : OK w k t n Q := h Q fun _ _ h => h
section
variable {w : World} {k : Nat} {l : Lc} {n : Led} {Q : Value → Led → Prop}
theorem e_v {i : Nat} {x : Value} (hx : l i = some x) (h : Q x n) : wE w k (.v i) l n Q := ⟨x, hx, h⟩
theorem e_int {i : Int} (h : ∀ t, Q (.int i t) n) : wE w k (.int i) l n Q := h
theorem e_str {i : Str} (h : ∀ t, Q (.str i t) n) : wE w k (.str i) l n Q := h
theorem e_bool {i : Bool} (h : Q (.bool i) n) : wE w k (.bool i) l n Q := h
theorem e_g {x : Value} (h : Q x n) : wE w k (.g x) l n Q := h
theorem e_bin {op : Operator} {a b : Ex} (h : wE w k a l n (kBin1 w k op b l Q)) : wE w k (.bin op a b) l n Q := h
theorem e_neg {a : Ex} (h : wE w k a l n (kNeg w k Q)) : wE w k (.neg a) l n Q := h
theorem e_cmp {op : CmpOp} {a b : Ex} (h : wE w k a l n (kCmp1 w k op b l Q)) : wE w k (.cmp op a b) l n Q := h
theorem e_and {a b : Ex} (h : wE w k a l n fun x n1 => ∃ c, x = .bool c ∧ match c with | true => wE w k b l n1 Q | false => Q x n1) : wE w k (.and a b) l n Q := h
theorem e_or {a b : Ex} (h : wE w k a l n fun x n1 => ∃ c, x = .bool c ∧ match c with | true => Q x n1 | false => wE w k b l n1 Q) : wE w k (.or a b) l n Q := h
theorem e_ite {t a b : Ex} (h : wT w k t l n (kIfE w k a b l Q)) : wE w k (.ite t a b) l n Q := h
theorem e_list {es : Exs} (h : wEs w k es l n (kLst Q)) : wE w k (.list es) l n Q := h
theorem e_tuple {es : Exs} (h : wEs w k es l n (kTup Q)) : wE w k (.tuple es) l n Q := h
theorem e_dict (h : ∀ a, a ∉ keys n → (a == sysModules) = false → Q (.ref a) ((a, dictOf [] 0) :: n)) : wE w k .dict l n Q := h
theorem e_attr {a : Ex} {nm : Str} (h : wE w k a l n (kAttr w k nm Q)) : wE w k (.attr a nm) l n Q := h
theorem e_idx {a i : Ex} (h : wE w k a l n (kIdx1 w k i l Q)) : wE w k (.idx a i) l n Q := h
theorem e_cutTo {a i : Ex} (h : wE w k a l n fun x n1 => wE w k i l n1 fun y n2 => ∀ i, i ∉ keys n2 → OK w k (cutTree x (.ref i)) ((i, sliceOf .none y .none) :: n2) Q) : wE w k (.cutTo a i) l n Q := h
theorem e_cutFrom {a i : Ex} (h : wE w k a l n fun x n1 => wE w k i l n1 fun y n2 => ∀ i, i ∉ keys n2 → OK w k (cutTree x (.ref i)) ((i, sliceOf y .none .none) :: n2) Q) : wE w k (.cutFrom a i) l n Q := h
theorem e_rev {a : Ex} (h : wE w k a l n fun x n1 => ∀ t i, i ∉ keys n1 → OK w k (subTree x (.ref i)) ((i, sliceOf .none .none (.int (-1) t)) :: n1) Q) : wE w k (.rev a) l n Q := h
theorem e_call {f : Ex} {es : Exs} (h : wE w k f l n (kCall1 w k es l Q)) : wE w k (.call f es) l n Q := h
theorem e_meth {o : Ex} {nm : Str} {es : Exs} (h : wE w k o l n (kMeth1 w k nm es l Q)) : wE w k (.meth o nm es) l n Q := h
theorem e_comp {e it : Ex} {x : Nat} (h : wE w k it l n fun v n1 => ∃ S : Src, S.val = v ∧ S.live n1 ∧ S.fits ∧ S.cnt ≤ sizeLine ∧ ∃ J : Nat → List Value → Led → Prop, J 0 [] n1 ∧
      ∀ i ys n2, J i ys n2 → S.live n2 ∧ (i < S.cnt → ∀ y, S.item i y → wE w k e (lset x y l) n2 fun z n3 => J (i + 1) (ys ++ [z]) n3) ∧
        (i = S.cnt → ∀ d, d ∉ keys n2 → Q (.ref d) ((d, listOf ys.toArray ys.length) :: n2))) : wE w k (.comp e x it) l n Q := h
theorem e_compIf {e it c : Ex} {x : Nat} (h : wE w k it l n fun v n1 => ∃ S : Src, S.val = v ∧ S.live n1 ∧ S.fits ∧ S.cnt ≤ sizeLine ∧ ∃ J : Nat → List Value → Led → Prop, J 0 [] n1 ∧
      ∀ i ys n2, J i ys n2 → S.live n2 ∧ (i < S.cnt → ∀ y, S.item i y → wT w k c (lset x y l) n2 fun b n3 => match b with
            | true => wE w k e (lset x y l) n3 fun z n4 => J (i + 1) (ys ++ [z]) n4
            | false => J (i + 1) ys n3) ∧
        (i = S.cnt → ∀ d, d ∉ keys n2 → Q (.ref d) ((d, listOf ys.toArray ys.length) :: n2))) : wE w k (.compIf e x it c) l n Q := h
theorem es_nil {Q : List Value → Led → Prop} (h : Q [] n) : wEs w k .nil l n Q := h
theorem es_cons {e : Ex} {es : Exs} {Q : List Value → Led → Prop} (h : wE w k e l n (kEs1 w k es l Q)) : wEs w k (.cons e es) l n Q := h
theorem t_and {a b : Ex} {Q : Bool → Led → Prop} (h : wT w k a l n (kAnd w k b l Q)) : wT w k (.and a b) l n Q := h
theorem t_or {a b : Ex} {Q : Bool → Led → Prop} (h : wT w k a l n (kOr w k b l Q)) : wT w k (.or a b) l n Q := h
theorem t_cmp {op : CmpOp} {a b : Ex} {Q : Bool → Led → Prop} (h : wE w k a l n (kCmp1 w k op b l (kTst Q))) : wT w k (.cmp op a b) l n Q := h
theorem t_call {f : Ex} {es : Exs} {Q : Bool → Led → Prop} (h : wE w k f l n (kCall1 w k es l (kTst Q))) : wT w k (.call f es) l n Q := h
theorem e_attr_v {i : Nat} {x : Value} {nm : Str} (hx : l i = some x) (h : OK w k (getAttr x nm true) n Q) : wE w k (.attr (.v i) nm) l n Q := ⟨x, hx, h⟩
theorem e_idx_v {i : Nat} {x : Value} {b : Ex} (hx : l i = some x) (h : wE w k b l n (kIdx w k x Q)) : wE w k (.idx (.v i) b) l n Q := ⟨x, hx, h⟩
theorem e_cmp_v {op : CmpOp} {i : Nat} {x : Value} {b : Ex} (hx : l i = some x) (h : wE w k b l n (kCmp w k op x Q)) : wE w k (.cmp op (.v i) b) l n Q := ⟨x, hx, h⟩
theorem e_bin_v {op : Operator} {i : Nat} {x : Value} {b : Ex} (hx : l i = some x) (h : wE w k b l n (kBin w k op x Q)) : wE w k (.bin op (.v i) b) l n Q := ⟨x, hx, h⟩
theorem e_call_g {f : Value} {es : Exs} (h : wEs w k es l n (kCall w k f Q)) : wE w k (.call (.g f) es) l n Q := h
theorem e_meth_v {i : Nat} {x : Value} {nm : Str} {es : Exs} (hx : l i = some x) (h : kMeth1 w k nm es l Q x n) : wE w k (.meth (.v i) nm es) l n Q := ⟨x, hx, h⟩
theorem es_v {i : Nat} {x : Value} {es : Exs} {Q : List Value → Led → Prop} (hx : l i = some x) (h : wEs w k es l n (kEs x Q)) : wEs w k (.cons (.v i) es) l n Q := ⟨x, hx, h⟩
theorem es_g {x : Value} {es : Exs} {Q : List Value → Led → Prop} (h : wEs w k es l n (kEs x Q)) : wEs w k (.cons (.g x) es) l n Q := h
theorem t_cmp_v {op : CmpOp} {i : Nat} {x : Value} {b : Ex} {Q : Bool → Led → Prop} (hx : l i = some x) (h : wE w k b l n (kCmp w k op x (kTst Q))) : wT w k (.cmp op (.v i) b) l n Q := ⟨x, hx, h⟩
end
section
variable {w : World} {k : Nat} {l : Lc} {n : Led} {Q : Flow → Lc → Led → Prop}
theorem s_expr {e : Ex} (h : wE w k e l n (kExpr l Q)) : wS w k (.expr e) l n Q := h
theorem s_ret {e : Ex} (h : wE w k e l n (kRet l Q)) : wS w k (.ret e) l n Q := h
theorem s_asg {i : Nat} {e : Ex} (h : wE w k e l n (kAsg i l Q)) : wS w k (.asg i e) l n Q := h
theorem s_asgT {is : List Nat} {e : Ex} (h : wE w k e l n fun v n1 => ∃ t its, v = .ref t ∧ (t, tupOf its) ∈ n1 ∧ its.size = is.length ∧ Q .next (setAll is its.toList l) n1) : wS w k (.asgT is e) l n Q := h
theorem s_asgR {is : List Nat} {e : Ex} (h : wE w k e l n fun v n1 => ∃ t its, v = .ref t ∧ (t, tupOf its) ∈ n1 ∧ its.size = is.length ∧ Q .next (setAll is.reverse its.toList.reverse l) n1) : wS w k (.asgR is e) l n Q := h
theorem s_asgA {o e : Ex} {nm : Str} (h : wE w k e l n fun v n1 => wE w k o l n1 (kAsgA w k nm v l Q)) : wS w k (.asgA o nm e) l n Q := h
theorem s_asgI {o i e : Ex} (h : wE w k e l n fun v n1 => wE w k o l n1 fun x n2 => wE w k i l n2 (kAsgI w k x v l Q)) : wS w k (.asgI o i e) l n Q := h
theorem s_ite {t : Ex} {a b : Sts} (h : wT w k t l n (kIf w k a b l Q)) : wS w k (.ite t a b) l n Q := h
theorem s_loop {t : Ex} {b : Sts} (I : Nat → Lc → Led → Prop) (j : Nat) (h0 : I j l n) (h : ∀ j l1 n1, I j l1 n1 → wT w k t l1 n1 (kLoop w k b I j l1 Q)) : wS w k (.loop t b) l n Q := ⟨I, ⟨j, h0⟩, h⟩
theorem s_each {x : Nat} {e : Ex} {b : Sts} (h : wE w k e l n fun v n1 => ∃ S : Src, S.val = v ∧ S.live n1 ∧ S.fits ∧ ∃ I : Nat → Lc → Led → Prop, I 0 l n1 ∧
      ∀ i l2 n2, I i l2 n2 → S.live n2 ∧ (i < S.cnt → ∀ y, S.item i y → wB w k b (lset x y l2) n2 (kTurn (I (i + 1)) Q)) ∧ (i = S.cnt → Q .next l2 n2)) : wS w k (.each x e b) l n Q := h
theorem s_eachT {xs : List Nat} {e : Ex} {b : Sts} (h : wE w k e l n fun v n1 => ∃ (lA : Addr) (its0 : Array Value) (ep : Nat), v = .ref lA ∧ (lA, listOf its0 ep) ∈ n1 ∧ ∃ I : Nat → Lc → Led → Prop, I 0 l n1 ∧
      ∀ i l2 n2, I i l2 n2 → (lA, listOf its0 ep) ∈ n2 ∧ (i < its0.size → ∀ y, its0[i]? = some y → ∃ t its, y = .ref t ∧ (t, tupOf its) ∈ n2 ∧ its.size = xs.length ∧ wB w k b (setAll xs its.toList l2) n2 (kTurn (I (i + 1)) Q)) ∧ (i = its0.size → Q .next l2 n2)) : wS w k (.eachT xs e b) l n Q := h
theorem b_nil (h : Q .next l n) : wB w k .nil l n Q := h
theorem next_eq {Q : Flow → Lc → Led → Prop} : (fun f l1 n1 => match f with | Flow.next => wB w k .nil l1 n1 Q | f => Q f l1 n1) = Q := by
  funext f l1 n1
  cases f <;> rfl
theorem b_one {s : St} (h : wS w k s l n Q) : wB w k (.cons s .nil) l n Q := by
  show wS w k s l n (fun f l1 n1 => match f with | Flow.next => wB w k .nil l1 n1 Q | f => Q f l1 n1)
  rw [next_eq]; exact h
theorem b_ret {e : Ex} {r : Sts} (h : wE w k e l n (kRet l Q)) : wB w k (.cons (.ret e) r) l n Q := h
theorem b_asg {i : Nat} {e : Ex} {r : Sts} (h : wE w k e l n (kAsgB w k i r l Q)) : wB w k (.cons (.asg i e) r) l n Q := h
theorem b_expr {e : Ex} {r : Sts} (h : wE w k e l n (kExprB w k r l Q)) : wB w k (.cons (.expr e) r) l n Q := h
theorem b_cons {s : St} {r : Sts} (h : wS w k s l n (kNext w k r Q)) : wB w k (.cons s r) l n Q := h
end
mutual
theorem wE_mono {w : World} {k : Nat} : ∀ (e : Ex) {l : Lc} {n : Led} {Q Q' : Value → Led → Prop}, wE w k e l n Q → (∀ v n', Q v n' → Q' v n') → wE w k e l n Q'
  | .v i, l, n, Q, Q', h, hq => let ⟨x, h1, h2⟩ := wE_v h; e_v h1 (hq _ _ h2)
  | .int i, l, n, Q, Q', h, hq => e_int fun t => hq _ _ (wE_int h t)
  | .str i, l, n, Q, Q', h, hq => e_str fun t => hq _ _ (wE_str h t)
  | .bool i, l, n, Q, Q', h, hq => e_bool (hq _ _ (wE_bool h))
  | .g i, l, n, Q, Q', h, hq => e_g (hq _ _ (wE_g h))
  | .bin op a b, l, n, Q, Q', h, hq => e_bin (wE_mono a (wE_bin h) fun x n1 h => wE_mono b h fun y n2 h => h.mono hq)
  | .neg a, l, n, Q, Q', h, hq => e_neg (wE_mono a (wE_neg h) fun x n1 h => h.mono hq)
  | .cmp op a b, l, n, Q, Q', h, hq => e_cmp (wE_mono a (wE_cmp h) fun x n1 h => wE_mono b h fun y n2 h => h.mono hq)
  | .and a b, l, n, Q, Q', h, hq => e_and (wE_mono a (wE_and h) fun x n1 h => h.imp fun c h => ⟨h.1, by
    obtain ⟨_, h⟩ := h
    cases c with
    | true => exact wE_mono b h hq
    | false => exact hq _ _ h⟩)
  | .or a b, l, n, Q, Q', h, hq => e_or (wE_mono a (wE_or h) fun x n1 h => h.imp fun c h => ⟨h.1, by
    obtain ⟨_, h⟩ := h
    cases c with
    | false => exact wE_mono b h hq
    | true => exact hq _ _ h⟩)
  | .ite t a b, l, n, Q, Q', h, hq => e_ite (wT_mono t (wE_ite h) fun c n1 h => by
    cases c with
    | true => exact wE_mono a h hq
    | false => exact wE_mono b h hq)
  | .list es, l, n, Q, Q', h, hq => e_list (wEs_mono es (wE_list h) fun vs n1 h => ⟨h.1, fun a ha => hq _ _ (h.2 a ha)⟩)
  | .tuple es, l, n, Q, Q', h, hq => e_tuple (wEs_mono es (wE_tuple h) fun vs n1 h => ⟨h.1, fun a ha => hq _ _ (h.2 a ha)⟩)
  | .dict, l, n, Q, Q', h, hq => e_dict fun a h1 h2 => hq _ _ (wE_dict h a h1 h2)
  | .attr a nm, l, n, Q, Q', h, hq => e_attr (wE_mono a (wE_attr h) fun x n1 h => h.mono hq)
  | .idx a i, l, n, Q, Q', h, hq => e_idx (wE_mono a (wE_idx h) fun x n1 h => wE_mono i h fun y n2 h => h.mono hq)
  | .cutTo a i, l, n, Q, Q', h, hq => e_cutTo (wE_mono a (wE_cutTo h) fun x n1 h => wE_mono i h fun y n2 h i hi => (h i hi).mono hq)
  | .cutFrom a i, l, n, Q, Q', h, hq => e_cutFrom (wE_mono a (wE_cutFrom h) fun x n1 h => wE_mono i h fun y n2 h i hi => (h i hi).mono hq)
  | .rev a, l, n, Q, Q', h, hq => e_rev (wE_mono a (wE_rev h) fun x n1 h t i hi => (h t i hi).mono hq)
  | .call f es, l, n, Q, Q', h, hq => e_call (wE_mono f (wE_call h) fun x n1 h => wEs_mono es h fun vs n2 h => ⟨h.1, h.2.mono hq⟩)
  | .meth o nm es, l, n, Q, Q', h, hq => e_meth (wE_mono o (wE_meth h) fun x n1 h =>
    let ⟨fv, first, h1, h2⟩ := h
    ⟨fv, first, h1, wEs_mono es h2 fun vs n2 h => ⟨h.1, h.2.mono hq⟩⟩)
  | .comp e x it, l, n, Q, Q', h, hq => e_comp (wE_mono it (wE_comp h) fun v n1 h =>
    let ⟨S, e1, e2, e3, e4, J, j0, jt⟩ := h
    ⟨S, e1, e2, e3, e4, J, j0, fun i ys n2 hJ => ⟨(jt i ys n2 hJ).1, (jt i ys n2 hJ).2.1, fun hi d hd => hq _ _ ((jt i ys n2 hJ).2.2 hi d hd)⟩⟩)
  | .compIf e x it c, l, n, Q, Q', h, hq => e_compIf (wE_mono it (wE_compIf h) fun v n1 h =>
    let ⟨S, e1, e2, e3, e4, J, j0, jt⟩ := h
    ⟨S, e1, e2, e3, e4, J, j0, fun i ys n2 hJ => ⟨(jt i ys n2 hJ).1, (jt i ys n2 hJ).2.1, fun hi d hd => hq _ _ ((jt i ys n2 hJ).2.2 hi d hd)⟩⟩)
theorem wT_mono {w : World} {k : Nat} : ∀ (e : Ex) {l : Lc} {n : Led} {Q Q' : Bool → Led → Prop}, wT w k e l n Q → (∀ v n', Q v n' → Q' v n') → wT w k e l n Q'
  | .and a b, l, n, Q, Q', h, hq => t_and (wT_mono a (wT_and h) fun c n1 h => by
    cases c with
    | true => exact wT_mono b h hq
    | false => exact hq _ _ h)
  | .or a b, l, n, Q, Q', h, hq => t_or (wT_mono a (wT_or h) fun c n1 h => by
    cases c with
    | true => exact hq _ _ h
    | false => exact wT_mono b h hq)
  | .cmp op a b, l, n, Q, Q', h, hq => t_cmp (wE_mono a (wT_cmp h) fun x n1 h => wE_mono b h fun y n2 h => h.mono fun v n3 h => h.imp fun c h => ⟨h.1, hq _ _ h.2⟩)
  | .call f es, l, n, Q, Q', h, hq => t_call (wE_mono f (wT_call h) fun x n1 h => wEs_mono es h fun vs n2 h => ⟨h.1, h.2.mono fun v n3 h => h.imp fun c h => ⟨h.1, hq _ _ h.2⟩⟩)
  | .v _, l, n, Q, Q', h, hq => False.elim h
  | .int _, l, n, Q, Q', h, hq => False.elim h
  | .str _, l, n, Q, Q', h, hq => False.elim h
  | .bool _, l, n, Q, Q', h, hq => False.elim h
  | .g _, l, n, Q, Q', h, hq => False.elim h
  | .bin .., l, n, Q, Q', h, hq => False.elim h
  | .neg _, l, n, Q, Q', h, hq => False.elim h
  | .ite .., l, n, Q, Q', h, hq => False.elim h
  | .list _, l, n, Q, Q', h, hq => False.elim h
  | .tuple _, l, n, Q, Q', h, hq => False.elim h
  | .dict, l, n, Q, Q', h, hq => False.elim h
  | .attr .., l, n, Q, Q', h, hq => False.elim h
  | .idx .., l, n, Q, Q', h, hq => False.elim h
  | .cutTo .., l, n, Q, Q', h, hq => False.elim h
  | .cutFrom .., l, n, Q, Q', h, hq => False.elim h
  | .rev _, l, n, Q, Q', h, hq => False.elim h
  | .meth .., l, n, Q, Q', h, hq => False.elim h
  | .comp .., l, n, Q, Q', h, hq => False.elim h
  | .compIf .., l, n, Q, Q', h, hq => False.elim h
theorem wEs_mono {w : World} {k : Nat} : ∀ (es : Exs) {l : Lc} {n : Led} {Q Q' : List Value → Led → Prop}, wEs w k es l n Q → (∀ v n', Q v n' → Q' v n') → wEs w k es l n Q'
  | .nil, l, n, Q, Q', h, hq => es_nil (hq _ _ (wEs_nil h))
  | .cons e es, l, n, Q, Q', h, hq => es_cons (wE_mono e (wEs_cons h) fun v n1 h => wEs_mono es h fun vs n2 h => hq _ _ h)
end
section
variable {w : World} {k : Nat} {l : Lc} {n : Led} {Q : Value → Led → Prop}
theorem e_join {e : Ex} (P : Value → Led → Prop) (h1 : wE w k e l n P) (h2 : ∀ v n1, P v n1 → Q v n1) : wE w k e l n Q := wE_mono e h1 h2
theorem t_join {e : Ex} {Q : Bool → Led → Prop} (P : Bool → Led → Prop) (h1 : wT w k e l n P) (h2 : ∀ v n1, P v n1 → Q v n1) : wT w k e l n Q := wT_mono e h1 h2
end
local macro_rules | `(tactic| walk_at "st") => `(tactic| first
  | with_reducible first
    | refine b_ret ?_ | refine b_asg ?_ | refine b_expr ?_ | refine b_one ?_ | refine b_cons ?_ | refine b_nil ?_ | refine s_expr ?_ | refine s_ret ?_ | refine s_asg ?_ | refine s_ite ?_ | refine s_asgI ?_ | refine s_asgA ?_
    | refine e_attr_v (by first | assumption | with_unfolding_all rfl) ?_ | refine e_idx_v (by first | assumption | with_unfolding_all rfl) ?_ | refine e_cmp_v (by first | assumption | with_unfolding_all rfl) ?_ | refine e_bin_v (by first | assumption | with_unfolding_all rfl) ?_ | refine e_call_g ?_ | refine e_meth_v (by first | assumption | with_unfolding_all rfl) ?_ | refine es_v (by first | assumption | with_unfolding_all rfl) ?_ | refine es_g ?_ | refine t_cmp_v (by first | assumption | with_unfolding_all rfl) ?_
    | refine e_v (by first | assumption | with_unfolding_all rfl) ?_ | refine e_int fun _ => ?_ | refine e_str fun _ => ?_ | refine e_bool ?_ | refine e_g ?_ | refine e_bin ?_ | refine e_neg ?_ | refine e_cmp ?_ | refine e_ite ?_
    | refine e_list ?_ | refine e_tuple ?_ | refine e_attr ?_ | refine e_idx ?_ | refine e_call ?_ | refine e_meth ?_
    | refine es_nil ?_ | refine es_cons ?_ | refine t_and ?_ | refine t_or ?_ | refine t_cmp ?_ | refine t_call ?_
  | dsimp only)
/-! Draw -/
structure DeckOk (ns : List Int) : Prop where
  small : ∀ x ∈ ns, 0 ≤ x ∧ x < 10 ^ 60
  len : ns.length ≤ 100

theorem pylong_ok {a b : Int} (hb : 0 < b) (hb2 : b < 100) : Builtin.divisionGoesByPylong a b = false := by
  unfold Builtin.divisionGoesByPylong
  have h1 : (b == 0) = false := by simpa using (by omega : b ≠ 0)
  simp only [h1, Bool.false_eq_true, if_false]
  have h2 : b.natAbs < 2 ^ 7 := by omega
  have h3 : b.natAbs.log2 < 7 := (Nat.log2_lt (by omega)).mpr h2
  have h4 : ¬ (b.natAbs.log2 / 30 + 1 > 300) := by omega
  simp [h4]

theorem meth_list {w : World} {k : Nat} {n : Led} {a : Addr} {its : Array Value} {ep : Nat} {nm : Str} {id : String} (ha : (a, listOf its ep) ∈ n) (slot : Slot "list" nm id) (hty : typeOf (.builtin id) = pure (.type "method_descriptor")) :
    ∀ pl, OK w k (getMethod (.ref a) nm pl) n fun r n2 => r = (.builtin id, [.ref a]) ∧ n2 = n := fun pl A g L m R s C =>
  kl_method C.nw (List.mem_append_right _ ha) slot hty ⟨n, s.heap, s.toks, rfl, C, rfl, rfl⟩

section
variable {w : World} {k : Nat} {n : Led} {Q : Value → Led → Prop}

theorem draw1 {d : Addr} {vs : List Value} {ns : List Int} {ep : Nat} {many : Int} {t : Tok} (hi : IntsAre vs ns) (hd : DeckOk ns) (h1 : 0 < many) (h2 : many < 100) :
    OK w (k + 9) (call (.ref 515) [.ref d, .int many t]) [(d, listOf vs.toArray ep)] fun v n' => ∃ r t vs' ns' ep', v = .int r t ∧ 0 ≤ r ∧ r < many ∧ IntsAre vs' ns' ∧ DeckOk ns' ∧ n' = [(d, listOf vs'.toArray ep')] := by
  refine OK.weaken (call_law_draw ?_).ok
  have fin : ∀ {v : Value} {n' : Led} {r : Int} {t : Tok} {vs' : List Value} {ns' : List Int} {ep' : Nat}, v = .int r t → 0 ≤ r → r < many → IntsAre vs' ns' → DeckOk ns' → (d, listOf vs'.toArray ep') ∈ n' →
      ∃ n'' : Led, (∀ p ∈ n'', p ∈ n') ∧ ((keys n').Nodup → (keys n'').Nodup) ∧ ∃ r t vs' ns' ep', v = .int r t ∧ 0 ≤ r ∧ r < many ∧ IntsAre vs' ns' ∧ DeckOk ns' ∧ n'' = [(d, listOf vs'.toArray ep')] := fun {v n' r t vs' ns' ep'} e a b c dd m =>
    ⟨[(d, listOf vs'.toArray ep')], fun p hp => by rw [List.mem_singleton.mp hp]; exact m, fun _ => by simp [keys], r, t, vs', ns', ep', e, a, b, c, dd, rfl⟩
  unfold ir_law_draw
  refine b_cons (s_loop (fun j l n' => l = initL [.ref d, .int many t] ∧ ∃ vs' ns' ep', IntsAre vs' ns' ∧ DeckOk ns' ∧ (d, listOf vs'.toArray ep') ∈ n' ∧ ns'.length = j) ns.length ⟨rfl, vs, ns, ep, hi, hd, .head _, rfl⟩ ?_)
  rintro j _ n1 ⟨rfl, vs1, ns1, ep1, hi1, hd1, hm1, rfl⟩
  refine t_and (t_cmp ?_)
  walk_at "st"; walk_at "st"; walk_at "st"
  refine ⟨Nat.zero_le _, fun e he => ?_⟩
  have hne : e ≠ d := fun q => he (q ▸ mem_keys hm1)
  refine ok_ne_ints (ms := []) (us := []) (by omega) (.tail _ hm1) (.head _) hi1 .nil ⟨_, rfl, ?_⟩
  cases hi1 with
  | nil =>
    -- the deck is empty
    simp only [decide_true, Bool.not_true]
    repeat' walk_at "st"
    refine ⟨Nat.zero_le _, fun e' he' => ?_⟩
    refine ok_eq_ints (ns := []) (vs := []) (ms := []) (us := []) (by omega) (.tail _ (.tail _ hm1)) (.head _) .nil .nil ⟨_, rfl, ?_⟩
    simp only [decide_true]
    repeat' walk_at "st"
    exact fin rfl (by omega) h1 .nil ⟨(fun _ h => nomatch h), by simp⟩ (.tail _ (.tail _ hm1))
  | @cons x tx vs2 ns2 hi2 =>
    simp only [List.cons_ne_nil, decide_false, Bool.not_false]
    refine t_cmp ?_
    repeat' walk_at "st"
    refine ok_idx_list (.tail _ hm1) (by decide) (by decide) rfl ?_
    repeat' walk_at "st"
    refine ok_eq_int ⟨_, rfl, ?_⟩
    by_cases hx : x = 0
    · subst hx
      simp only [beq_self_eq_true]
      repeat' walk_at "st"
      refine ⟨_, _, meth_list (.tail _ hm1) PySem.F.slot_list_pop PySem.F.type_list_pop, ?_⟩
      repeat' walk_at "st"
      refine ⟨callable_builtin _, ok_pop0 (.tail _ hm1) (by have := hd1.len; have := hi2.length; have : sizeLine = 2 ^ 24 := rfl; simp at *; omega) ?_⟩
      refine ⟨fun a => nofun, ?_⟩
      repeat' walk_at "st"
      exact ⟨ns2.length, by simp, rfl, vs2, ns2, _, hi2, ⟨fun y hy => hd1.small y (.tail _ hy), by have := hd1.len; simp at this; omega⟩, mem_upd_self (.tail _ hm1), rfl⟩
    · have hx' : (x == 0) = false := by simpa using hx
      simp only [hx']
      have hxr := hd1.small x (.head _)
      repeat' walk_at "st"
      refine ⟨Nat.zero_le _, fun e' he' => ?_⟩
      refine ok_eq_ints (ms := []) (us := []) (by omega) (.tail _ (.tail _ hm1)) (.head _) (.cons _ _ hi2) .nil ⟨_, rfl, ?_⟩
      simp only [List.cons_ne_nil, decide_false]
      repeat' walk_at "st"
      refine ok_idx_list (.tail _ (.tail _ hm1)) (by decide) (by decide) rfl ?_
      repeat' walk_at "st"
      refine ok_mod (by omega) fun t1 => ?_
      repeat' walk_at "st"
      refine ok_idx_list (.tail _ (.tail _ hm1)) (by decide) (by decide) rfl ?_
      repeat' walk_at "st"
      refine ok_floordiv (by omega) (pylong_ok h1 h2) fun t2 => ?_
      repeat' walk_at "st"
      refine ok_setItem_list (.tail _ (.tail _ hm1)) (by decide) (by decide) (by simp) ?_
      repeat' walk_at "st"
      refine fin rfl ?_ ?_ (.cons _ t2 hi2) ⟨?_, ?_⟩ (mem_upd_self (.tail _ (.tail _ hm1)))
      · exact Int.fmod_nonneg_of_pos _ h1
      · exact Int.fmod_lt_of_pos _ h1
      · intro y hy
        rcases List.mem_cons.mp hy with rfl | hy
        · rw [Int.fdiv_eq_ediv_of_nonneg _ (by omega)]
          refine ⟨Int.ediv_nonneg hxr.1 (by omega), ?_⟩
          exact Int.lt_of_le_of_lt (Int.ediv_le_self _ hxr.1) hxr.2
        · exact hd1.small y (.tail _ hy)
      · have := hd1.len; simpa using this
end
/-! Tree1 -/
noncomputable abbrev s_value_ : Str := ⟨#[118, 97, 108, 117, 101]⟩
noncomputable abbrev s_number_ : Str := ⟨#[110, 117, 109, 98, 101, 114]⟩
noncomputable abbrev s_symbol_ : Str := ⟨#[115, 121, 109, 98, 111, 108]⟩
noncomputable abbrev s_test_ : Str := ⟨#[116, 101, 115, 116]⟩
noncomputable abbrev s_yes_ : Str := ⟨#[121, 101, 115]⟩
noncomputable abbrev s_no_ : Str := ⟨#[110, 111]⟩
noncomputable abbrev s_label_ : Str := ⟨#[108, 97, 98, 101, 108]⟩
noncomputable abbrev s_params_ : Str := ⟨#[112, 97, 114, 97, 109, 115]⟩
noncomputable abbrev s_rest_ : Str := ⟨#[114, 101, 115, 116]⟩
noncomputable abbrev s_body_ : Str := ⟨#[98, 111, 100, 121]⟩
noncomputable abbrev s_operator_ : Str := ⟨#[111, 112, 101, 114, 97, 116, 111, 114]⟩
noncomputable abbrev s_operands_ : Str := ⟨#[111, 112, 101, 114, 97, 110, 100, 115]⟩
noncomputable abbrev s_items_ : Str := ⟨#[105, 116, 101, 109, 115]⟩
noncomputable abbrev s_op_ : Str := ⟨#[111, 112]⟩
noncomputable abbrev s_numbers_ : Str := ⟨#[110, 117, 109, 98, 101, 114, 115]⟩
noncomputable abbrev s_lambdas_ : Str := ⟨#[108, 97, 109, 98, 100, 97, 115]⟩
noncomputable abbrev s_read_ : Str := ⟨#[114, 101, 97, 100]⟩
noncomputable abbrev s_set_ : Str := ⟨#[115, 101, 116]⟩
noncomputable abbrev s_called_ : Str := ⟨#[99, 97, 108, 108, 101, 100]⟩
noncomputable abbrev s_bound_ : Str := ⟨#[98, 111, 117, 110, 100]⟩
noncomputable abbrev s_caught_ : Str := ⟨#[99, 97, 117, 103, 104, 116]⟩
noncomputable abbrev s_parent_ : Str := ⟨#[112, 97, 114, 101, 110, 116]⟩
noncomputable abbrev s_lets_ : Str := ⟨#[108, 101, 116, 115]⟩
noncomputable abbrev s_inner_ : Str := ⟨#[105, 110, 110, 101, 114]⟩
noncomputable abbrev s_read_globals_ : Str := ⟨#[114, 101, 97, 100, 95, 103, 108, 111, 98, 97, 108, 115]⟩
noncomputable abbrev s_set_globals_ : Str := ⟨#[115, 101, 116, 95, 103, 108, 111, 98, 97, 108, 115]⟩

/-- an __init__ that lays its arguments into attributes -/
noncomputable def initIr : List Str → Nat → Sts
  | [], _ => .nil
  | nm :: r, i => .cons (.asgA (.v 0) nm (.v i)) (initIr r (i + 1))
noncomputable def fieldsBy : List Str → List Value → List (Str × Value) → List (Str × Value)
  | nm :: r, v :: vs, fs => fieldsBy r vs ((nm, v) :: fs)
  | _, _, fs => fs
section
variable {w : World} {k : Nat}
theorem upd2 {x C dx : Addr} {o o' : Obj} {n : Led} (hx : x ≠ dx) (hd : dx ∉ keys n) : upd dx o' ((x, instObj C dx) :: (dx, o) :: n) = (x, instObj C dx) :: (dx, o') :: n := by
  show (if x = dx then _ else _) :: (if dx = dx then _ else _) :: upd dx o' n = _
  rw [if_neg hx, if_pos rfl, upd_off hd]
theorem init_ok {x C dx : Addr} : ∀ (names : List Str) (i : Nat) (vals : List Value) {l : Lc} {n : Led} {es : List DictEntry} {ep : Nat} {fs : List (Str × Value)} {Q : Flow → Lc → Led → Prop}, l 0 = some (.ref x) → (∀ j v, vals[j]? = some v → l (i + j) = some v) → vals.length = names.length →
    x ≠ dx → dx ∉ keys n → FieldsAre es fs → es.length + names.length ≤ 99 → (names.all fun nm => setOk (KK w.params) C nm) = true →
    (∀ es' ep', FieldsAre es' (fieldsBy names vals fs) → es'.length ≤ 100 → Q .next l ((x, instObj C dx) :: (dx, dictOf es' ep') :: n)) → wB w k (initIr names i) l ((x, instObj C dx) :: (dx, dictOf es ep) :: n) Q
  | [], i, vals, l, n, es, ep, fs, Q, h0, hv, hl, hx, hd, F, hz, hs, hq =>
    b_nil (hq es ep (by cases vals <;> exact F) (by simp at hz; omega))
  | nm :: r, i, [], l, n, es, ep, fs, Q, h0, hv, hl, hx, hd, F, hz, hs, hq => by simp at hl
  | nm :: r, i, v :: vals, l, n, es, ep, fs, Q, h0, hv, hl, hx, hd, F, hz, hs, hq => by
    simp only [List.all_cons, Bool.and_eq_true] at hs
    simp only [List.length_cons] at hz hl
    refine b_cons (s_asgA (e_v (hv 0 v rfl) (e_v h0 (ok_setattr (.head _) (.tail _ (.head _)) F (by omega) hs.1 fun es' ep' F' hl' => ?_))))
    rw [upd2 hx hd]
    exact init_ok r (i + 1) vals h0 (fun j u hj => by have := hv (j + 1) u (by simpa using hj); rw [show i + 1 + j = i + (j + 1) by omega]; exact this) (by omega) hx hd F' (by omega) hs.2 hq
end
theorem set_Const (P : Params) : ([s_value_] : List Str).all (fun nm => setOk (KK P) 66 nm) = true := by kernel_rfl
theorem new_Const {w : World} {k : Nat} {n : Led} {Q : Value → Led → Prop} {v0 : Value} (h : ∀ x dx es ep, x ∉ keys n → dx ∉ keys n → x ≠ dx → FieldsAre es [(s_value_, v0)] → es.length ≤ 100 → Q (.ref x) ((x, instObj 66 dx) :: (dx, dictOf es ep) :: n)) :
    OK w (k + 2) (call (.ref 66) [v0]) n Q := by
  refine ok_make (mk_Const w.params) fun x dx hx hdx hne => call_Const_U__initUU ?_
  refine init_ok (w := w) (C := 66) (fs := []) [s_value_] 1 [v0] (l := initL [.ref x, v0]) rfl (fun j v hj => ?_) rfl hne hdx .nil (Nat.le_of_ble_eq_true rfl) (set_Const w.params) fun es' ep' F hl => ⟨rfl, h x dx es' ep' hx hdx hne F hl⟩
  show (Value.ref x :: [v0])[1 + j]? = some v
  rw [Nat.add_comm]; exact hj
theorem set_Local (P : Params) : ([s_number_] : List Str).all (fun nm => setOk (KK P) 85 nm) = true := by kernel_rfl
theorem new_Local {w : World} {k : Nat} {n : Led} {Q : Value → Led → Prop} {v0 : Value} (h : ∀ x dx es ep, x ∉ keys n → dx ∉ keys n → x ≠ dx → FieldsAre es [(s_number_, v0)] → es.length ≤ 100 → Q (.ref x) ((x, instObj 85 dx) :: (dx, dictOf es ep) :: n)) :
    OK w (k + 2) (call (.ref 85) [v0]) n Q := by
  refine ok_make (mk_Local w.params) fun x dx hx hdx hne => call_Local_U__initUU ?_
  refine init_ok (w := w) (C := 85) (fs := []) [s_number_] 1 [v0] (l := initL [.ref x, v0]) rfl (fun j v hj => ?_) rfl hne hdx .nil (Nat.le_of_ble_eq_true rfl) (set_Local w.params) fun es' ep' F hl => ⟨rfl, h x dx es' ep' hx hdx hne F hl⟩
  show (Value.ref x :: [v0])[1 + j]? = some v
  rw [Nat.add_comm]; exact hj
theorem set_Global (P : Params) : ([s_symbol_] : List Str).all (fun nm => setOk (KK P) 104 nm) = true := by kernel_rfl
theorem new_Global {w : World} {k : Nat} {n : Led} {Q : Value → Led → Prop} {v0 : Value} (h : ∀ x dx es ep, x ∉ keys n → dx ∉ keys n → x ≠ dx → FieldsAre es [(s_symbol_, v0)] → es.length ≤ 100 → Q (.ref x) ((x, instObj 104 dx) :: (dx, dictOf es ep) :: n)) :
    OK w (k + 2) (call (.ref 104) [v0]) n Q := by
  refine ok_make (mk_Global w.params) fun x dx hx hdx hne => call_Global_U__initUU ?_
  refine init_ok (w := w) (C := 104) (fs := []) [s_symbol_] 1 [v0] (l := initL [.ref x, v0]) rfl (fun j v hj => ?_) rfl hne hdx .nil (Nat.le_of_ble_eq_true rfl) (set_Global w.params) fun es' ep' F hl => ⟨rfl, h x dx es' ep' hx hdx hne F hl⟩
  show (Value.ref x :: [v0])[1 + j]? = some v
  rw [Nat.add_comm]; exact hj
theorem set_SetLocal (P : Params) : ([s_number_, s_value_] : List Str).all (fun nm => setOk (KK P) 137 nm) = true := by kernel_rfl
theorem new_SetLocal {w : World} {k : Nat} {n : Led} {Q : Value → Led → Prop} {v0 v1 : Value} (h : ∀ x dx es ep, x ∉ keys n → dx ∉ keys n → x ≠ dx → FieldsAre es [(s_value_, v1), (s_number_, v0)] → es.length ≤ 100 → Q (.ref x) ((x, instObj 137 dx) :: (dx, dictOf es ep) :: n)) :
    OK w (k + 2) (call (.ref 137) [v0, v1]) n Q := by
  refine ok_make (mk_SetLocal w.params) fun x dx hx hdx hne => call_SetLocal_U__initUU ?_
  refine init_ok (w := w) (C := 137) (fs := []) [s_number_, s_value_] 1 [v0, v1] (l := initL [.ref x, v0, v1]) rfl (fun j v hj => ?_) rfl hne hdx .nil (Nat.le_of_ble_eq_true rfl) (set_SetLocal w.params) fun es' ep' F hl => ⟨rfl, h x dx es' ep' hx hdx hne F hl⟩
  show (Value.ref x :: [v0, v1])[1 + j]? = some v
  rw [Nat.add_comm]; exact hj
theorem set_SetGlobal (P : Params) : ([s_symbol_, s_value_] : List Str).all (fun nm => setOk (KK P) 170 nm) = true := by kernel_rfl
theorem new_SetGlobal {w : World} {k : Nat} {n : Led} {Q : Value → Led → Prop} {v0 v1 : Value} (h : ∀ x dx es ep, x ∉ keys n → dx ∉ keys n → x ≠ dx → FieldsAre es [(s_value_, v1), (s_symbol_, v0)] → es.length ≤ 100 → Q (.ref x) ((x, instObj 170 dx) :: (dx, dictOf es ep) :: n)) :
    OK w (k + 2) (call (.ref 170) [v0, v1]) n Q := by
  refine ok_make (mk_SetGlobal w.params) fun x dx hx hdx hne => call_SetGlobal_U__initUU ?_
  refine init_ok (w := w) (C := 170) (fs := []) [s_symbol_, s_value_] 1 [v0, v1] (l := initL [.ref x, v0, v1]) rfl (fun j v hj => ?_) rfl hne hdx .nil (Nat.le_of_ble_eq_true rfl) (set_SetGlobal w.params) fun es' ep' F hl => ⟨rfl, h x dx es' ep' hx hdx hne F hl⟩
  show (Value.ref x :: [v0, v1])[1 + j]? = some v
  rw [Nat.add_comm]; exact hj
theorem set_Define (P : Params) : ([s_symbol_, s_value_] : List Str).all (fun nm => setOk (KK P) 203 nm) = true := by kernel_rfl
theorem new_Define {w : World} {k : Nat} {n : Led} {Q : Value → Led → Prop} {v0 v1 : Value} (h : ∀ x dx es ep, x ∉ keys n → dx ∉ keys n → x ≠ dx → FieldsAre es [(s_value_, v1), (s_symbol_, v0)] → es.length ≤ 100 → Q (.ref x) ((x, instObj 203 dx) :: (dx, dictOf es ep) :: n)) :
    OK w (k + 2) (call (.ref 203) [v0, v1]) n Q := by
  refine ok_make (mk_Define w.params) fun x dx hx hdx hne => call_Define_U__initUU ?_
  refine init_ok (w := w) (C := 203) (fs := []) [s_symbol_, s_value_] 1 [v0, v1] (l := initL [.ref x, v0, v1]) rfl (fun j v hj => ?_) rfl hne hdx .nil (Nat.le_of_ble_eq_true rfl) (set_Define w.params) fun es' ep' F hl => ⟨rfl, h x dx es' ep' hx hdx hne F hl⟩
  show (Value.ref x :: [v0, v1])[1 + j]? = some v
  rw [Nat.add_comm]; exact hj
theorem set_If (P : Params) : ([s_test_, s_yes_, s_no_] : List Str).all (fun nm => setOk (KK P) 236 nm) = true := by kernel_rfl
theorem new_If {w : World} {k : Nat} {n : Led} {Q : Value → Led → Prop} {v0 v1 v2 : Value} (h : ∀ x dx es ep, x ∉ keys n → dx ∉ keys n → x ≠ dx → FieldsAre es [(s_no_, v2), (s_yes_, v1), (s_test_, v0)] → es.length ≤ 100 → Q (.ref x) ((x, instObj 236 dx) :: (dx, dictOf es ep) :: n)) :
    OK w (k + 2) (call (.ref 236) [v0, v1, v2]) n Q := by
  refine ok_make (mk_If w.params) fun x dx hx hdx hne => call_If_U__initUU ?_
  refine init_ok (w := w) (C := 236) (fs := []) [s_test_, s_yes_, s_no_] 1 [v0, v1, v2] (l := initL [.ref x, v0, v1, v2]) rfl (fun j v hj => ?_) rfl hne hdx .nil (Nat.le_of_ble_eq_true rfl) (set_If w.params) fun es' ep' F hl => ⟨rfl, h x dx es' ep' hx hdx hne F hl⟩
  show (Value.ref x :: [v0, v1, v2])[1 + j]? = some v
  rw [Nat.add_comm]; exact hj
theorem set_Lambda (P : Params) : ([s_label_, s_params_, s_rest_, s_body_] : List Str).all (fun nm => setOk (KK P) 283 nm) = true := by kernel_rfl
theorem new_Lambda {w : World} {k : Nat} {n : Led} {Q : Value → Led → Prop} {v0 v1 v2 v3 : Value} (h : ∀ x dx es ep, x ∉ keys n → dx ∉ keys n → x ≠ dx → FieldsAre es [(s_body_, v3), (s_rest_, v2), (s_params_, v1), (s_label_, v0)] → es.length ≤ 100 → Q (.ref x) ((x, instObj 283 dx) :: (dx, dictOf es ep) :: n)) :
    OK w (k + 2) (call (.ref 283) [v0, v1, v2, v3]) n Q := by
  refine ok_make (mk_Lambda w.params) fun x dx hx hdx hne => call_Lambda_U__initUU ?_
  refine init_ok (w := w) (C := 283) (fs := []) [s_label_, s_params_, s_rest_, s_body_] 1 [v0, v1, v2, v3] (l := initL [.ref x, v0, v1, v2, v3]) rfl (fun j v hj => ?_) rfl hne hdx .nil (Nat.le_of_ble_eq_true rfl) (set_Lambda w.params) fun es' ep' F hl => ⟨rfl, h x dx es' ep' hx hdx hne F hl⟩
  show (Value.ref x :: [v0, v1, v2, v3])[1 + j]? = some v
  rw [Nat.add_comm]; exact hj
theorem set_Call (P : Params) : ([s_operator_, s_operands_] : List Str).all (fun nm => setOk (KK P) 316 nm) = true := by kernel_rfl
theorem new_Call {w : World} {k : Nat} {n : Led} {Q : Value → Led → Prop} {v0 v1 : Value} (h : ∀ x dx es ep, x ∉ keys n → dx ∉ keys n → x ≠ dx → FieldsAre es [(s_operands_, v1), (s_operator_, v0)] → es.length ≤ 100 → Q (.ref x) ((x, instObj 316 dx) :: (dx, dictOf es ep) :: n)) :
    OK w (k + 2) (call (.ref 316) [v0, v1]) n Q := by
  refine ok_make (mk_Call w.params) fun x dx hx hdx hne => call_Call_U__initUU ?_
  refine init_ok (w := w) (C := 316) (fs := []) [s_operator_, s_operands_] 1 [v0, v1] (l := initL [.ref x, v0, v1]) rfl (fun j v hj => ?_) rfl hne hdx .nil (Nat.le_of_ble_eq_true rfl) (set_Call w.params) fun es' ep' F hl => ⟨rfl, h x dx es' ep' hx hdx hne F hl⟩
  show (Value.ref x :: [v0, v1])[1 + j]? = some v
  rw [Nat.add_comm]; exact hj
theorem set_Seq (P : Params) : ([s_items_] : List Str).all (fun nm => setOk (KK P) 349 nm) = true := by kernel_rfl
theorem new_Seq {w : World} {k : Nat} {n : Led} {Q : Value → Led → Prop} {v0 : Value} (h : ∀ x dx es ep, x ∉ keys n → dx ∉ keys n → x ≠ dx → FieldsAre es [(s_items_, v0)] → es.length ≤ 100 → Q (.ref x) ((x, instObj 349 dx) :: (dx, dictOf es ep) :: n)) :
    OK w (k + 2) (call (.ref 349) [v0]) n Q := by
  refine ok_make (mk_Seq w.params) fun x dx hx hdx hne => call_Seq_U__initUU ?_
  refine init_ok (w := w) (C := 349) (fs := []) [s_items_] 1 [v0] (l := initL [.ref x, v0]) rfl (fun j v hj => ?_) rfl hne hdx .nil (Nat.le_of_ble_eq_true rfl) (set_Seq w.params) fun es' ep' F hl => ⟨rfl, h x dx es' ep' hx hdx hne F hl⟩
  show (Value.ref x :: [v0])[1 + j]? = some v
  rw [Nat.add_comm]; exact hj
theorem set_Prim (P : Params) : ([s_op_, s_operands_] : List Str).all (fun nm => setOk (KK P) 382 nm) = true := by kernel_rfl
theorem new_Prim {w : World} {k : Nat} {n : Led} {Q : Value → Led → Prop} {v0 v1 : Value} (h : ∀ x dx es ep, x ∉ keys n → dx ∉ keys n → x ≠ dx → FieldsAre es [(s_operands_, v1), (s_op_, v0)] → es.length ≤ 100 → Q (.ref x) ((x, instObj 382 dx) :: (dx, dictOf es ep) :: n)) :
    OK w (k + 2) (call (.ref 382) [v0, v1]) n Q := by
  refine ok_make (mk_Prim w.params) fun x dx hx hdx hne => call_Prim_U__initUU ?_
  refine init_ok (w := w) (C := 382) (fs := []) [s_op_, s_operands_] 1 [v0, v1] (l := initL [.ref x, v0, v1]) rfl (fun j v hj => ?_) rfl hne hdx .nil (Nat.le_of_ble_eq_true rfl) (set_Prim w.params) fun es' ep' F hl => ⟨rfl, h x dx es' ep' hx hdx hne F hl⟩
  show (Value.ref x :: [v0, v1])[1 + j]? = some v
  rw [Nat.add_comm]; exact hj
theorem set_Fix (P : Params) : ([s_numbers_, s_lambdas_, s_body_] : List Str).all (fun nm => setOk (KK P) 415 nm) = true := by kernel_rfl
theorem new_Fix {w : World} {k : Nat} {n : Led} {Q : Value → Led → Prop} {v0 v1 v2 : Value} (h : ∀ x dx es ep, x ∉ keys n → dx ∉ keys n → x ≠ dx → FieldsAre es [(s_body_, v2), (s_lambdas_, v1), (s_numbers_, v0)] → es.length ≤ 100 → Q (.ref x) ((x, instObj 415 dx) :: (dx, dictOf es ep) :: n)) :
    OK w (k + 2) (call (.ref 415) [v0, v1, v2]) n Q := by
  refine ok_make (mk_Fix w.params) fun x dx hx hdx hne => call_Fix_U__initUU ?_
  refine init_ok (w := w) (C := 415) (fs := []) [s_numbers_, s_lambdas_, s_body_] 1 [v0, v1, v2] (l := initL [.ref x, v0, v1, v2]) rfl (fun j v hj => ?_) rfl hne hdx .nil (Nat.le_of_ble_eq_true rfl) (set_Fix w.params) fun es' ep' F hl => ⟨rfl, h x dx es' ep' hx hdx hne F hl⟩
  show (Value.ref x :: [v0, v1, v2])[1 + j]? = some v
  rw [Nat.add_comm]; exact hj
/-! Tree2 -/
inductive Kd where
  | const | loc (x : Int) | glob (g : Int) | setl (x : Int) | setg (g : Int) | defi (g : Int) | ite
  | lam (label : Int) (ps : List Int) (rest : Int) | call | seq | prim | fix (nums : List Int)
noncomputable def Kd.cls : Kd → Addr
  | .const => 66 | .loc _ => 85 | .glob _ => 104 | .setl _ => 137 | .setg _ => 170 | .defi _ => 203 | .ite => 236 | .lam .. => 283 | .call => 316 | .seq => 349 | .prim => 382 | .fix _ => 415
noncomputable def Kd.num : Kd → Int
  | .const => 0 | .loc _ => 1 | .glob _ => 2 | .setl _ => 3 | .setg _ => 4 | .defi _ => 5 | .ite => 6 | .lam .. => 7 | .call => 8 | .seq => 9 | .prim => 10 | .fix _ => 11
noncomputable def Kd.tok : Kd → Tok
  | .const => 196 | .loc _ => 198 | .glob _ => 200 | .setl _ => 202 | .setg _ => 204 | .defi _ => 206 | .ite => 208 | .lam .. => 210 | .call => 212 | .seq => 214 | .prim => 216 | .fix _ => 218
noncomputable def Kd.partsAt : Kd → Addr
  | .const | .loc _ | .glob _ => 35 | .setl _ => 127 | .setg _ => 160 | .defi _ => 193 | .ite => 226 | .lam .. => 259 | .call => 306 | .seq => 339 | .prim => 372 | .fix _ => 405

theorem kd_ok (P : Params) (kd : Kd) : clsVal (KK P) kd.cls q_kind (.int kd.num kd.tok) = true := by cases kd <;> kernel_rfl
theorem pt_ok (P : Params) (kd : Kd) : methOk (KK P) kd.cls q_parts kd.partsAt = true := by cases kd <;> kernel_rfl
theorem bnd_ok (P : Params) : methOk (KK P) 283 q_binders 273 = true := by kernel_rfl
theorem at_85_number (P : Params) : ownOk (KK P) 85 s_number_ = true := by kernel_rfl
theorem at_104_symbol (P : Params) : ownOk (KK P) 104 s_symbol_ = true := by kernel_rfl
theorem at_137_number (P : Params) : ownOk (KK P) 137 s_number_ = true := by kernel_rfl
theorem at_137_value (P : Params) : ownOk (KK P) 137 s_value_ = true := by kernel_rfl
theorem at_170_symbol (P : Params) : ownOk (KK P) 170 s_symbol_ = true := by kernel_rfl
theorem at_170_value (P : Params) : ownOk (KK P) 170 s_value_ = true := by kernel_rfl
theorem at_203_symbol (P : Params) : ownOk (KK P) 203 s_symbol_ = true := by kernel_rfl
theorem at_203_value (P : Params) : ownOk (KK P) 203 s_value_ = true := by kernel_rfl
theorem at_236_test (P : Params) : ownOk (KK P) 236 s_test_ = true := by kernel_rfl
theorem at_236_yes (P : Params) : ownOk (KK P) 236 s_yes_ = true := by kernel_rfl
theorem at_236_no (P : Params) : ownOk (KK P) 236 s_no_ = true := by kernel_rfl
theorem at_283_label (P : Params) : ownOk (KK P) 283 s_label_ = true := by kernel_rfl
theorem at_283_params (P : Params) : ownOk (KK P) 283 s_params_ = true := by kernel_rfl
theorem at_283_rest (P : Params) : ownOk (KK P) 283 s_rest_ = true := by kernel_rfl
theorem at_283_body (P : Params) : ownOk (KK P) 283 s_body_ = true := by kernel_rfl
theorem at_316_operator (P : Params) : ownOk (KK P) 316 s_operator_ = true := by kernel_rfl
theorem at_316_operands (P : Params) : ownOk (KK P) 316 s_operands_ = true := by kernel_rfl
theorem at_349_items (P : Params) : ownOk (KK P) 349 s_items_ = true := by kernel_rfl
theorem at_382_operands (P : Params) : ownOk (KK P) 382 s_operands_ = true := by kernel_rfl
theorem at_415_numbers (P : Params) : ownOk (KK P) 415 s_numbers_ = true := by kernel_rfl
theorem at_415_lambdas (P : Params) : ownOk (KK P) 415 s_lambdas_ = true := by kernel_rfl
theorem at_415_body (P : Params) : ownOk (KK P) 415 s_body_ = true := by kernel_rfl

/-- the list at a in n -/
noncomputable def LsAt (n : Led) (a : Addr) (vs : List Value) : Prop := ∃ ep, (a, listOf vs.toArray ep) ∈ n
theorem LsAt.mono {n n' : Led} {a : Addr} {vs : List Value} (h : LsAt n a vs) (s : ∀ p ∈ n, p ∈ n') : LsAt n' a vs := let ⟨e, x⟩ := h; ⟨e, s _ x⟩

noncomputable def Kd.isLeaf : Kd → Bool
  | .const | .loc _ | .glob _ => true | _ => false
/-- the node at a: its kind and its parts -/
noncomputable def NodeAt (n : Led) (a : Addr) (vs : List Value) : Kd → Prop
  | .const => vs = [] ∧ ∃ v, Inst n a 66 [(s_value_, v)]
  | .loc x => vs = [] ∧ ∃ t, Inst n a 85 [(s_number_, .int x t)]
  | .glob g => vs = [] ∧ ∃ t, Inst n a 104 [(s_symbol_, .int g t)]
  | .setl x => ∃ t y, vs = [.ref y] ∧ Inst n a 137 [(s_value_, .ref y), (s_number_, .int x t)]
  | .setg g => ∃ t y, vs = [.ref y] ∧ Inst n a 170 [(s_value_, .ref y), (s_symbol_, .int g t)]
  | .defi g => ∃ t y, vs = [.ref y] ∧ Inst n a 203 [(s_value_, .ref y), (s_symbol_, .int g t)]
  | .ite => ∃ y0 y1 y2, vs = [.ref y0, .ref y1, .ref y2] ∧ Inst n a 236 [(s_no_, .ref y2), (s_yes_, .ref y1), (s_test_, .ref y0)]
  | .lam label ps rest => ∃ t u pl pvs y, vs = [.ref y] ∧ Inst n a 283 [(s_body_, .ref y), (s_rest_, .int rest u), (s_params_, .ref pl), (s_label_, .int label t)] ∧ LsAt n pl pvs ∧ IntsAre pvs ps ∧ ps.length ≤ 100
  | .call => ∃ yo ol ovs, vs = .ref yo :: ovs ∧ Inst n a 316 [(s_operands_, .ref ol), (s_operator_, .ref yo)] ∧ LsAt n ol ovs ∧ ovs.length ≤ 100
  | .seq => ∃ il, Inst n a 349 [(s_items_, .ref il)] ∧ LsAt n il vs ∧ vs.length ≤ 100
  | .prim => ∃ ol v, Inst n a 382 [(s_operands_, .ref ol), (s_op_, v)] ∧ LsAt n ol vs ∧ vs.length ≤ 100
  | .fix nums => ∃ nl nvs ll lvs y, vs = lvs ++ [.ref y] ∧ Inst n a 415 [(s_body_, .ref y), (s_lambdas_, .ref ll), (s_numbers_, .ref nl)] ∧ LsAt n nl nvs ∧ IntsAre nvs nums ∧ LsAt n ll lvs ∧ lvs.length ≤ 99 ∧ nums.length ≤ 100

theorem NodeAt.mono {n n' : Led} {a : Addr} {vs : List Value} {kd : Kd} (h : NodeAt n a vs kd) (s : ∀ p ∈ n, p ∈ n') : NodeAt n' a vs kd := by
  cases kd with
  | const => exact ⟨h.1, h.2.imp fun _ i => i.mono s⟩
  | loc x => exact ⟨h.1, h.2.imp fun _ i => i.mono s⟩
  | glob g => exact ⟨h.1, h.2.imp fun _ i => i.mono s⟩
  | setl x => obtain ⟨t, y, e, i⟩ := h; exact ⟨t, y, e, i.mono s⟩
  | setg x => obtain ⟨t, y, e, i⟩ := h; exact ⟨t, y, e, i.mono s⟩
  | defi x => obtain ⟨t, y, e, i⟩ := h; exact ⟨t, y, e, i.mono s⟩
  | ite => obtain ⟨y0, y1, y2, e, i⟩ := h; exact ⟨y0, y1, y2, e, i.mono s⟩
  | lam l ps r => obtain ⟨t, u, pl, pvs, y, e, i, l, z, q⟩ := h; exact ⟨t, u, pl, pvs, y, e, i.mono s, l.mono s, z, q⟩
  | call => obtain ⟨yo, ol, ovs, e, i, l, z⟩ := h; exact ⟨yo, ol, ovs, e, i.mono s, l.mono s, z⟩
  | seq => obtain ⟨il, i, l, z⟩ := h; exact ⟨il, i.mono s, l.mono s, z⟩
  | prim => obtain ⟨ol, v, i, l, z⟩ := h; exact ⟨ol, v, i.mono s, l.mono s, z⟩
  | fix nums => obtain ⟨nl, nvs, ll, lvs, y, e, i, l, z, l2, z2, z3⟩ := h; exact ⟨nl, nvs, ll, lvs, y, e, i.mono s, l.mono s, z, l2.mono s, z2, z3⟩
theorem NodeAt.inst {n : Led} {a : Addr} {vs : List Value} {kd : Kd} (h : NodeAt n a vs kd) : ∃ fs, Inst n a kd.cls fs ∧ fs.lookup q_kind = none ∧ fs.lookup q_parts = none ∧ fs.lookup q_binders = none := by
  cases kd with
  | const => obtain ⟨_, _, i⟩ := h; exact ⟨_, i, rfl, rfl, rfl⟩
  | loc x => obtain ⟨_, _, i⟩ := h; exact ⟨_, i, rfl, rfl, rfl⟩
  | glob g => obtain ⟨_, _, i⟩ := h; exact ⟨_, i, rfl, rfl, rfl⟩
  | setl x => obtain ⟨t, y, e, i⟩ := h; exact ⟨_, i, rfl, rfl, rfl⟩
  | setg x => obtain ⟨t, y, e, i⟩ := h; exact ⟨_, i, rfl, rfl, rfl⟩
  | defi x => obtain ⟨t, y, e, i⟩ := h; exact ⟨_, i, rfl, rfl, rfl⟩
  | ite => obtain ⟨y0, y1, y2, e, i⟩ := h; exact ⟨_, i, rfl, rfl, rfl⟩
  | lam l ps r => obtain ⟨t, u, pl, pvs, y, e, i, l, z, q⟩ := h; exact ⟨_, i, rfl, rfl, rfl⟩
  | call => obtain ⟨yo, ol, ovs, e, i, l, z⟩ := h; exact ⟨_, i, rfl, rfl, rfl⟩
  | seq => obtain ⟨il, i, l, z⟩ := h; exact ⟨_, i, rfl, rfl, rfl⟩
  | prim => obtain ⟨ol, v, i, l, z⟩ := h; exact ⟨_, i, rfl, rfl, rfl⟩
  | fix nums => obtain ⟨nl, nvs, ll, lvs, y, e, i, l, z, l2, z2, z3⟩ := h; exact ⟨_, i, rfl, rfl, rfl⟩

section
variable {w : World} {k : Nat} {n : Led} {Q : Value → Led → Prop}
theorem ok_kind {a : Addr} {vs : List Value} {kd : Kd} {b : Bool} (N : NodeAt n a vs kd) (h : Q (.int kd.num kd.tok) n) : OK w k (getAttr (.ref a) q_kind b) n Q := by
  obtain ⟨fs, i, e, _⟩ := N.inst
  exact ok_attr_cls i (kd_ok _ kd) e h
theorem ok_partsM {a : Addr} {vs : List Value} {kd : Kd} {pl : Sem Bool} (N : NodeAt n a vs kd) : OK w k (getMethod (.ref a) q_parts pl) n fun r n2 => r = (.ref kd.partsAt, [.ref a]) ∧ n2 = n := by
  obtain ⟨fs, i, _, e, _⟩ := N.inst
  exact ok_method i (pt_ok _ kd) e ⟨rfl, rfl⟩
theorem ok_bindersM {a : Addr} {vs : List Value} {l : Int} {ps : List Int} {r : Int} {pl : Sem Bool} (N : NodeAt n a vs (.lam l ps r)) : OK w k (getMethod (.ref a) q_binders pl) n fun r n2 => r = (.ref 273, [.ref a]) ∧ n2 = n := by
  obtain ⟨fs, i, _, _, e⟩ := N.inst
  exact ok_method i (bnd_ok _) e ⟨rfl, rfl⟩
/-- the number of a Local or a SetLocal -/
theorem ok_number {a : Addr} {vs : List Value} {kd : Kd} {x : Int} {b : Bool} (N : NodeAt n a vs kd) (hk : kd = .loc x ∨ kd = .setl x) (h : ∀ t, Q (.int x t) n) : OK w k (getAttr (.ref a) s_number_ b) n Q := by
  rcases hk with rfl | rfl
  · obtain ⟨_, t, i⟩ := N; exact ok_attr i (at_85_number _) rfl rfl (h t)
  · obtain ⟨t, y, e, i⟩ := N; exact ok_attr i (at_137_number _) rfl rfl (h t)
theorem ok_symbol {a : Addr} {vs : List Value} {kd : Kd} {x : Int} {b : Bool} (N : NodeAt n a vs kd) (hk : kd = .glob x ∨ kd = .setg x ∨ kd = .defi x) (h : ∀ t, Q (.int x t) n) : OK w k (getAttr (.ref a) s_symbol_ b) n Q := by
  rcases hk with rfl | rfl | rfl
  · obtain ⟨_, t, i⟩ := N; exact ok_attr i (at_104_symbol _) rfl rfl (h t)
  · obtain ⟨t, y, e, i⟩ := N; exact ok_attr i (at_170_symbol _) rfl rfl (h t)
  · obtain ⟨t, y, e, i⟩ := N; exact ok_attr i (at_203_symbol _) rfl rfl (h t)
theorem ok_label {a : Addr} {vs : List Value} {l : Int} {ps : List Int} {r : Int} {b : Bool} (N : NodeAt n a vs (.lam l ps r)) (h : ∀ t, Q (.int l t) n) : OK w k (getAttr (.ref a) s_label_ b) n Q := by
  obtain ⟨t, u, pl, pvs, y, e, i, _⟩ := N; exact ok_attr i (at_283_label _) rfl rfl (h t)
theorem ok_rest {a : Addr} {vs : List Value} {l : Int} {ps : List Int} {r : Int} {b : Bool} (N : NodeAt n a vs (.lam l ps r)) (h : ∀ t, Q (.int r t) n) : OK w k (getAttr (.ref a) s_rest_ b) n Q := by
  obtain ⟨t, u, pl, pvs, y, e, i, _⟩ := N; exact ok_attr i (at_283_rest _) rfl rfl (h u)
theorem ok_params {a : Addr} {vs : List Value} {l : Int} {ps : List Int} {r : Int} {b : Bool} (N : NodeAt n a vs (.lam l ps r)) (h : ∀ pl pvs, LsAt n pl pvs → IntsAre pvs ps → ps.length ≤ 100 → Q (.ref pl) n) : OK w k (getAttr (.ref a) s_params_ b) n Q := by
  obtain ⟨t, u, pl, pvs, y, e, i, l, z, q⟩ := N; exact ok_attr i (at_283_params _) rfl rfl (h pl pvs l z q)
theorem ok_operator {a : Addr} {vs : List Value} {b : Bool} (N : NodeAt n a vs .call) (h : ∀ yo ovs, vs = .ref yo :: ovs → Q (.ref yo) n) : OK w k (getAttr (.ref a) s_operator_ b) n Q := by
  obtain ⟨yo, ol, ovs, e, i, l, z⟩ := N; exact ok_attr i (at_316_operator _) rfl rfl (h yo ovs e)
theorem ok_operands {a : Addr} {vs : List Value} {b : Bool} (N : NodeAt n a vs .call) (h : ∀ yo ol ovs, vs = .ref yo :: ovs → LsAt n ol ovs → ovs.length ≤ 100 → Q (.ref ol) n) : OK w k (getAttr (.ref a) s_operands_ b) n Q := by
  obtain ⟨yo, ol, ovs, e, i, l, z⟩ := N; exact ok_attr i (at_316_operands _) rfl rfl (h yo ol ovs e l z)
theorem ok_numbers {a : Addr} {vs : List Value} {nums : List Int} {b : Bool} (N : NodeAt n a vs (.fix nums)) (h : ∀ nl nvs, LsAt n nl nvs → IntsAre nvs nums → nums.length ≤ 100 → Q (.ref nl) n) : OK w k (getAttr (.ref a) s_numbers_ b) n Q := by
  obtain ⟨nl, nvs, ll, lvs, y, e, i, l, z, l2, z2, z3⟩ := N; exact ok_attr i (at_415_numbers _) rfl rfl (h nl nvs l z z3)
end
/-! Tree3 -/
theorem zl {a : Nat} (h : a ≤ 1000) : a ≤ sizeLine := by have : sizeLine = 2 ^ 24 := rfl; omega
theorem sub_cons {n n' : Led} {p : Addr × Obj} (h : ∀ q ∈ n, q ∈ n') : ∀ q ∈ n, q ∈ p :: n' := fun q hq => .tail _ (h q hq)
section
variable {w : World} {k : Nat} {n : Led} {Q : Value → Led → Prop}

/-- behind a call only the new list at d lies on n -/
theorem keep1 {v : Value} {d : Addr} {vs : List Value} {ep : Nat} {n' : Led} {P : Value → Led → Prop} (hm : (d, listOf vs.toArray ep) ∈ n') (hs : ∀ p ∈ n, p ∈ n') (hd : d ∉ keys n) (h : P v ((d, listOf vs.toArray ep) :: n)) (hn : (keys n).Nodup) :
    ∃ n'', (∀ p ∈ n'', p ∈ n') ∧ ((keys n').Nodup → (keys n'').Nodup) ∧ P v n'' :=
  ⟨(d, listOf vs.toArray ep) :: n, fun p hp => by
    rcases List.mem_cons.mp hp with rfl | hp
    · exact hm
    · exact hs p hp, fun _ => List.nodup_cons.mpr ⟨hd, hn⟩, h⟩
noncomputable def NewList (n : Led) (vs : List Value) (v : Value) (n' : Led) : Prop := ∃ d ep, v = .ref d ∧ d ∉ keys n ∧ n' = (d, listOf vs.toArray ep) :: n
theorem parts_ok {a : Addr} {vs : List Value} {kd : Kd} (N : NodeAt n a vs kd) : OK w (k + 1) (call (.ref kd.partsAt) [.ref a]) n (NewList n vs) := by
  refine OK.nd fun hn => OK.weaken ?_
  have fin : ∀ {us : List Value} {d : Addr} {ep : Nat} {n' : Led}, us = vs → (d, listOf us.toArray ep) ∈ n' → (∀ p ∈ n, p ∈ n') → d ∉ keys n → ∃ n'', (∀ p ∈ n'', p ∈ n') ∧ ((keys n').Nodup → (keys n'').Nodup) ∧ NewList n vs (.ref d) n'' := fun {us d ep n'} e a b c => by
    subst e
    exact keep1 (P := NewList n us) a b c ⟨_, _, rfl, c, rfl⟩ hn
  cases kd with
  | const =>
    obtain ⟨rfl, _⟩ := N
    refine (call_Node_parts ?_).ok; unfold ir_Node_parts
    repeat' walk_at "st"
    exact ⟨zl (by simp), fun d hd => fin rfl (.head _) (fun p hp => .tail _ hp) hd⟩
  | loc x =>
    obtain ⟨rfl, _⟩ := N
    refine (call_Node_parts ?_).ok; unfold ir_Node_parts
    repeat' walk_at "st"
    exact ⟨zl (by simp), fun d hd => fin rfl (.head _) (fun p hp => .tail _ hp) hd⟩
  | glob x =>
    obtain ⟨rfl, _⟩ := N
    refine (call_Node_parts ?_).ok; unfold ir_Node_parts
    repeat' walk_at "st"
    exact ⟨zl (by simp), fun d hd => fin rfl (.head _) (fun p hp => .tail _ hp) hd⟩
  | setl x =>
    obtain ⟨t, y, rfl, i⟩ := N
    refine (call_SetLocal_parts ?_).ok; unfold ir_SetLocal_parts
    repeat' walk_at "st"
    refine ok_attr i (at_137_value _) rfl rfl ?_
    repeat' walk_at "st"
    exact ⟨zl (by simp), fun d hd => fin rfl (.head _) (fun p hp => .tail _ hp) hd⟩
  | setg x =>
    obtain ⟨t, y, rfl, i⟩ := N
    refine (call_SetGlobal_parts ?_).ok; unfold ir_SetGlobal_parts
    repeat' walk_at "st"
    refine ok_attr i (at_170_value _) rfl rfl ?_
    repeat' walk_at "st"
    exact ⟨zl (by simp), fun d hd => fin rfl (.head _) (fun p hp => .tail _ hp) hd⟩
  | defi x =>
    obtain ⟨t, y, rfl, i⟩ := N
    refine (call_Define_parts ?_).ok; unfold ir_Define_parts
    repeat' walk_at "st"
    refine ok_attr i (at_203_value _) rfl rfl ?_
    repeat' walk_at "st"
    exact ⟨zl (by simp), fun d hd => fin rfl (.head _) (fun p hp => .tail _ hp) hd⟩
  | ite =>
    obtain ⟨y0, y1, y2, rfl, i⟩ := N
    refine (call_If_parts ?_).ok; unfold ir_If_parts
    repeat' walk_at "st"
    refine ok_attr i (at_236_test _) rfl rfl ?_
    repeat' walk_at "st"
    refine ok_attr i (at_236_yes _) rfl rfl ?_
    repeat' walk_at "st"
    refine ok_attr i (at_236_no _) rfl rfl ?_
    repeat' walk_at "st"
    exact ⟨zl (by simp), fun d hd => fin rfl (.head _) (fun p hp => .tail _ hp) hd⟩
  | lam l ps r =>
    obtain ⟨t, u, pl, pvs, y, rfl, i, _⟩ := N
    refine (call_Lambda_parts ?_).ok; unfold ir_Lambda_parts
    repeat' walk_at "st"
    refine ok_attr i (at_283_body _) rfl rfl ?_
    repeat' walk_at "st"
    exact ⟨zl (by simp), fun d hd => fin rfl (.head _) (fun p hp => .tail _ hp) hd⟩
  | call =>
    obtain ⟨yo, ol, ovs, rfl, i, ⟨ep, l⟩, z⟩ := N
    refine (call_Call_parts ?_).ok; unfold ir_Call_parts
    repeat' walk_at "st"
    refine ok_attr i (at_316_operator _) rfl rfl ?_
    repeat' walk_at "st"
    refine ⟨zl (by simp), fun d hd => ?_⟩
    repeat' walk_at "st"
    refine ok_attr (i.mono fun p hp => .tail _ hp) (at_316_operands _) rfl rfl ?_
    repeat' walk_at "st"
    refine ok_add_list (.head _) (.tail _ l) (zl (by simp; omega)) fun d' hd' => ?_
    repeat' walk_at "st"
    exact fin rfl (.head _) (fun p hp => .tail _ (.tail _ hp)) fun q => hd' (.tail _ q)
  | seq =>
    obtain ⟨il, i, ⟨ep, l⟩, z⟩ := N
    refine (call_Seq_parts ?_).ok; unfold ir_Seq_parts
    repeat' walk_at "st"
    refine ok_attr i (at_349_items _) rfl rfl ?_
    repeat' walk_at "st"
    refine ⟨callable_type _, ok_copy_list l (zl (by omega)) fun d c hd => ?_⟩
    repeat' walk_at "st"
    exact fin rfl (.head _) (fun p hp => .tail _ hp) hd
  | prim =>
    obtain ⟨ol, v, i, ⟨ep, l⟩, z⟩ := N
    refine (call_Prim_parts ?_).ok; unfold ir_Prim_parts
    repeat' walk_at "st"
    refine ok_attr i (at_382_operands _) rfl rfl ?_
    repeat' walk_at "st"
    refine ⟨callable_type _, ok_copy_list l (zl (by omega)) fun d c hd => ?_⟩
    repeat' walk_at "st"
    exact fin rfl (.head _) (fun p hp => .tail _ hp) hd
  | fix nums =>
    obtain ⟨nl, nvs, ll, lvs, y, rfl, i, _, _, ⟨ep, l⟩, z, _⟩ := N
    refine (call_Fix_parts ?_).ok; unfold ir_Fix_parts
    repeat' walk_at "st"
    refine ok_attr i (at_415_lambdas _) rfl rfl ?_
    repeat' walk_at "st"
    refine ok_attr i (at_415_body _) rfl rfl ?_
    repeat' walk_at "st"
    refine ⟨zl (by simp), fun d hd => ?_⟩
    repeat' walk_at "st"
    refine ok_add_list (.tail _ l) (.head _) (zl (by simp; omega)) fun d' hd' => ?_
    repeat' walk_at "st"
    exact fin rfl (.head _) (fun p hp => .tail _ (.tail _ hp)) fun q => hd' (.tail _ q)

/-- the numbers that a lambda binds -/
noncomputable def bindsOf (ps : List Int) (r : Int) : List Int := ps ++ if 0 ≤ r then [r] else []
theorem ints_app {vs us : List Value} {ns ms : List Int} (h : IntsAre vs ns) (h2 : IntsAre us ms) : IntsAre (vs ++ us) (ns ++ ms) := by
  induction h with
  | nil => exact h2
  | cons _ _ _ ih => exact .cons _ _ ih
theorem binders_ok {a : Addr} {vs : List Value} {l : Int} {ps : List Int} {r : Int} (N : NodeAt n a vs (.lam l ps r)) : OK w (k + 1) (call (.ref 273) [.ref a]) n fun v n' => ∃ us, IntsAre us (bindsOf ps r) ∧ NewList n us v n' := by
  refine OK.nd fun hn => OK.weaken ?_
  obtain ⟨t, u, pl, pvs, y, rfl, i, ⟨ep, li⟩, z, q⟩ := N
  have hl := z.length
  refine (call_Lambda_binders ?_).ok; unfold ir_Lambda_binders
  repeat' walk_at "st"
  refine ok_attr i (at_283_rest _) rfl rfl ?_
  repeat' walk_at "st"
  refine ok_ge_int ⟨_, rfl, ?_⟩
  by_cases h0 : 0 ≤ r
  · simp only [h0, decide_true]
    repeat' walk_at "st"
    refine ok_attr i (at_283_params _) rfl rfl ?_
    repeat' walk_at "st"
    refine ok_attr i (at_283_rest _) rfl rfl ?_
    repeat' walk_at "st"
    refine ⟨zl (by simp), fun d hd => ?_⟩
    repeat' walk_at "st"
    refine ok_add_list (.tail _ li) (.head _) (zl (by simp; omega)) fun d' hd' => ?_
    repeat' walk_at "st"
    have c : d' ∉ keys n := fun q => hd' (.tail _ q)
    exact keep1 (P := fun v n' => ∃ us, IntsAre us (bindsOf ps r) ∧ NewList n us v n') (.head _) (fun p hp => .tail _ (.tail _ hp)) c ⟨_, by unfold bindsOf; rw [if_pos h0]; exact ints_app z (.cons _ _ .nil), _, _, rfl, c, rfl⟩ hn
  · simp only [h0, decide_false]
    repeat' walk_at "st"
    refine ok_attr i (at_283_params _) rfl rfl ?_
    repeat' walk_at "st"
    refine ⟨callable_type _, ok_copy_list li (zl (by omega)) fun d c hd => ?_⟩
    repeat' walk_at "st"
    exact keep1 (P := fun v n' => ∃ us, IntsAre us (bindsOf ps r) ∧ NewList n us v n') (.head _) (fun p hp => .tail _ hp) hd ⟨_, by unfold bindsOf; rw [if_neg h0, List.append_nil]; exact z, _, _, rfl, hd, rfl⟩ hn

noncomputable def isLet (op : Kd) (m : Nat) : Option Int := match op with
  | .lam l ps rest => if rest < 0 ∧ ps.length = m then some l else none
  | _ => none
noncomputable def letB (kd op : Kd) (m : Nat) : Option Int := match kd with | .call => isLet op m | _ => none
theorem isLet_none {op : Kd} {m : Nat} (h : op.num ≠ 7) : isLet op m = none := by cases op <;> first | rfl | exact absurd rfl h
theorem num_ne {a b : Int} {P : Prop} (h : a = b) (e : decide (a = b) = false) : P := absurd h (of_decide_eq_false e)
theorem lam_of {op : Kd} (h : op.num = 7) : ∃ l ps r, op = .lam l ps r := by cases op <;> first | exact ⟨_, _, _, rfl⟩ | exact num_ne h rfl
theorem call_of {op : Kd} (h : op.num = 8) : op = .call := by cases op <;> first | rfl | exact num_ne h rfl
theorem let_walk {a : Addr} {vs : List Value} {kd : Kd} {op : Kd} (N : NodeAt n a vs kd) (ho : kd = .call → ∃ yo ovs vs0, vs = .ref yo :: ovs ∧ NodeAt n yo vs0 op) :
    wB w k ir_is_let (initL [.ref a]) n fun f _ n' => retOf f = .bool (letB kd op (vs.length - 1)).isSome ∧ n' = n := by
  unfold ir_is_let
  repeat' walk_at "st"
  refine ok_kind N ?_
  repeat' walk_at "st"
  refine ok_ne_int ⟨_, rfl, ?_⟩
  by_cases h1 : kd.num = 8
  · cases call_of h1
    obtain ⟨yo, ovs, vs0, rfl, NO⟩ := ho rfl
    simp only [Kd.num, bne_self_eq_false]
    refine t_cmp ?_
    repeat' walk_at "st"
    refine ok_operator N fun yo' ovs' e => ?_
    cases e
    repeat' walk_at "st"
    refine ok_kind NO ?_
    repeat' walk_at "st"
    refine ok_ne_int ⟨_, rfl, ?_⟩
    by_cases h2 : op.num = 7
    · obtain ⟨l, ps, r, rfl⟩ := lam_of h2
      simp only [Kd.num, bne_self_eq_false]
      repeat' walk_at "st"
      refine e_and ?_
      repeat' walk_at "st"
      refine ok_operator N fun yo' ovs' e => ?_
      cases e
      repeat' walk_at "st"
      refine ok_rest NO fun t => ?_
      repeat' walk_at "st"
      refine ok_lt_int ⟨_, rfl, ?_⟩
      by_cases h3 : r < 0
      · simp only [h3, decide_true]
        repeat' walk_at "st"
        refine ok_operator N fun yo' ovs' e => ?_
        cases e
        repeat' walk_at "st"
        refine ok_params NO fun pl pvs ⟨ep, hl⟩ hi hz => ?_
        have := hi.length
        repeat' walk_at "st"
        refine ⟨callable_builtin _, ok_len_list hl (zl (by omega)) fun t => ?_⟩
        repeat' walk_at "st"
        refine ok_operands N fun yo' ol ovs' e ⟨ep2, hl2⟩ hz2 => ?_
        cases e
        repeat' walk_at "st"
        refine ⟨callable_builtin _, ok_len_list hl2 (zl (by omega)) fun t => ?_⟩
        repeat' walk_at "st"
        refine ok_eq_int ⟨?_, by first | rfl | trivial⟩
        simp only [retOf, letB, isLet, h3, true_and, List.length_cons, Nat.add_sub_cancel]
        rw [this]
        by_cases h4 : ps.length = ovs.length
        · simp [h4]
        · have : ((ps.length : Int) == (ovs.length : Int)) = false := by simpa using fun q => h4 (by omega)
          simp [h4, this]
      · simp only [h3, decide_false]
        exact ⟨by simp [retOf, letB, isLet, h3], by first | rfl | trivial⟩
    · have : (op.num != 7) = true := by simpa using h2
      simp only [this]
      repeat' walk_at "st"
      exact ⟨by simp [retOf, letB, isLet_none h2], by first | rfl | trivial⟩
  · have : (kd.num != 8) = true := by simpa using h1
    simp only [this]
    repeat' walk_at "st"
    refine ⟨?_, by first | rfl | trivial⟩
    cases kd <;> first | rfl | exact absurd rfl h1
theorem same_let : ir_law_is_own_let = ir_is_let := by rfl
theorem is_let_ok {a : Addr} {vs : List Value} {kd : Kd} {op : Kd} (N : NodeAt n a vs kd) (ho : kd = .call → ∃ yo ovs vs0, vs = .ref yo :: ovs ∧ NodeAt n yo vs0 op) (h : Q (.bool (letB kd op (vs.length - 1)).isSome) n) : OK w (k + 1) (call (.ref 424) [.ref a]) n Q := by
  refine (call_is_let ?_).ok.mono (Q := fun v n' => v = .bool (letB kd op (vs.length - 1)).isSome ∧ n' = n) fun v n' e => by rw [e.1, e.2]; exact h
  exact let_walk N ho
theorem own_let_ok {a : Addr} {vs : List Value} {kd : Kd} {op : Kd} (N : NodeAt n a vs kd) (ho : kd = .call → ∃ yo ovs vs0, vs = .ref yo :: ovs ∧ NodeAt n yo vs0 op) (h : Q (.bool (letB kd op (vs.length - 1)).isSome) n) : OK w (k + 1) (call (.ref 551) [.ref a]) n Q := by
  refine (call_law_is_own_let ?_).ok.mono (Q := fun v n' => v = .bool (letB kd op (vs.length - 1)).isSome ∧ n' = n) fun v n' e => by rw [e.1, e.2]; exact h
  rw [same_let]
  exact let_walk N ho
end
/-! Pure1 -/
/-- a visit of a node: the chain of the labels around it, its kind, the kind of its first part, the number of its parts -/
structure Ev where
  c : List Int
  kd : Kd
  op : Kd
  m : Nat
noncomputable def hd (c : List Int) : Int := c.head?.getD (-1)
inductive Tag where
  | read | set | glob | setGlob | called | lambda
deriving DecidableEq
noncomputable def Ev.lamOf (e : Ev) : Option Int := match e.kd with | .lam l _ _ => some l | _ => none
noncomputable def Ev.binds (e : Ev) : List (Int × Int) := match e.kd with
  | .lam l ps r => (bindsOf ps r).map fun x => (x, l)
  | .fix nums => nums.map fun x => (x, hd e.c)
  | _ => []
noncomputable def Ev.letOf (e : Ev) : Option Int := letB e.kd e.op (e.m - 1)
noncomputable def Ev.useOf (e : Ev) : Option Int := match e.kd with | .loc x | .setl x => some x | _ => none
noncomputable def Ev.row (e : Ev) : Option (Tag × Int) := match e.kd with
  | .loc x => some (.read, x) | .setl x => some (.set, x) | .glob g => some (.glob, g) | .setg g | .defi g => some (.setGlob, g)
  | .lam l _ _ => some (.lambda, l)
  | .call => match e.op with | .loc x => some (.called, x) | _ => none
  | _ => none
noncomputable def bindsE (E : List Ev) : List (Int × Int) := E.flatMap Ev.binds
noncomputable def letsE (E : List Ev) : List Int := E.filterMap Ev.letOf
noncomputable def chainIn (kd : Kd) (c : List Int) : List Int := match kd with | .lam l _ _ => l :: c | _ => c

theorem bindsE_append (A B : List Ev) : bindsE (A ++ B) = bindsE A ++ bindsE B := List.flatMap_append ..
theorem bindsE_cons (e : Ev) (B : List Ev) : bindsE (e :: B) = e.binds ++ bindsE B := List.flatMap_cons ..
theorem letsE_append (A B : List Ev) : letsE (A ++ B) = letsE A ++ letsE B := List.filterMap_append ..
theorem mem_letsE_cons {l : Int} {e : Ev} {B : List Ev} : l ∈ letsE (e :: B) ↔ e.letOf = some l ∨ l ∈ letsE B := by
  unfold letsE
  rw [List.filterMap_cons]
  cases e.letOf with
  | none => simp
  | some y => simp [eq_comm]

theorem split_append {E1 E2 A B : List Ev} {e : Ev} (h : E1 ++ E2 = A ++ e :: B) : (∃ B', E1 = A ++ e :: B' ∧ B = B' ++ E2) ∨ (∃ A', A = E1 ++ A' ∧ E2 = A' ++ e :: B) := by
  rcases List.append_eq_append_iff.mp h with ⟨A', h1, h2⟩ | ⟨B', h1, h2⟩
  · exact .inr ⟨A', h1, h2⟩
  · cases B' with
    | nil => exact .inr ⟨[], by simpa using h1.symm, by simpa using h2.symm⟩
    | cons f B' =>
      simp only [List.cons_append, List.cons.injEq] at h2
      obtain ⟨rfl, rfl⟩ := h2
      exact .inl ⟨B', h1, rfl⟩
theorem split_cons {f e : Ev} {E A B : List Ev} (h : f :: E = A ++ e :: B) : (A = [] ∧ f = e ∧ E = B) ∨ (∃ A', A = f :: A' ∧ E = A' ++ e :: B) := by
  cases A with
  | nil => simp at h; exact .inl ⟨rfl, h.1, h.2⟩
  | cons a A => simp at h; exact .inr ⟨A, by rw [h.1], h.2⟩

structure Sub (c K : List Int) (N L : Int → Prop) (E : List Ev) : Prop where
  tail : ∀ e ∈ E, ∃ pre, e.c = pre ++ c ∧ ∀ l ∈ pre, L l
  lab : ∀ e ∈ E, ∀ l, e.lamOf = some l → L l
  num : ∀ p ∈ bindsE E, N p.1
  letl : ∀ l ∈ letsE E, L l
  few : ∀ e ∈ E, e.binds.length ≤ 3
  p1 : ∀ e ∈ E, ∀ e' ∈ E, ∀ l, e.lamOf = some l → e'.lamOf = some l → e.c = e'.c
  p2 : ∀ p ∈ bindsE E, ∀ q ∈ bindsE E, p.1 = q.1 → p.2 = q.2
  p3 : ∀ A e B, E = A ++ e :: B → ∀ l, e.lamOf = some l → ∀ e' ∈ E, l ∈ e'.c → e' ∈ B
  p4 : ∀ A e B, E = A ++ e :: B → ∀ l ∈ letsE E, l ∈ e.c → l ∈ letsE A
  p5 : ∀ A e B, E = A ++ e :: B → ∀ c1 l c2, e.c = c1 ++ l :: (c2 ++ c) → ∃ e' ∈ A, e'.lamOf = some l ∧ e'.c = c2 ++ c
  p6 : ∀ A e B, E = A ++ e :: B → ∀ x, e.useOf = some x → x ∈ K ∨ ∃ h, (x, h) ∈ bindsE A ∧ (h ∈ e.c ∨ h = -1)

theorem no_split {A B : List Ev} {e : Ev} (h : ([] : List Ev) = A ++ e :: B) : False := by simp at h
theorem mem_split {E A B : List Ev} {e : Ev} (h : E = A ++ e :: B) : e ∈ E := by rw [h]; simp
theorem Sub.nil {c K : List Int} {N L : Int → Prop} : Sub c K N L [] where
  tail := fun _ h => nomatch h
  lab := fun _ h => nomatch h
  num := fun _ h => nomatch h
  letl := fun _ h => nomatch h
  few := fun _ h => nomatch h
  p1 := fun _ h => nomatch h
  p2 := fun _ h => nomatch h
  p3 := fun A e B h => (no_split h).elim
  p4 := fun A e B h => (no_split h).elim
  p5 := fun A e B h => (no_split h).elim
  p6 := fun A e B h => (no_split h).elim
theorem Sub.mono {c K K' : List Int} {N N' L L' : Int → Prop} {E : List Ev} (S : Sub c K N L E) (hk : ∀ x ∈ K, x ∈ K') (hn : ∀ x, N x → N' x) (hl : ∀ x, L x → L' x) : Sub c K' N' L' E where
  tail := fun e he => let ⟨p, a, b⟩ := S.tail e he; ⟨p, a, fun l hm => hl l (b l hm)⟩
  lab := fun e he l h => hl l (S.lab e he l h)
  num := fun p hp => hn _ (S.num p hp)
  letl := fun l h => hl l (S.letl l h)
  few := S.few
  p1 := S.p1
  p2 := S.p2
  p3 := S.p3
  p4 := S.p4
  p5 := S.p5
  p6 := fun A e B h x hx => (S.p6 A e B h x hx).imp (hk x) id

theorem Sub.out {c K : List Int} {N L L' : Int → Prop} {E : List Ev} (S : Sub c K N L E) {e : Ev} (he : e ∈ E) {l : Int} (hl : l ∈ e.c) (h' : L' l) (hd : ∀ x, L x → L' x → False) (hc : ∀ x ∈ c, ¬ L' x) : False := by
  obtain ⟨p, a, b⟩ := S.tail e he
  rw [a] at hl
  rcases List.mem_append.mp hl with q | q
  · exact hd l (b l q) h'
  · exact hc l q h'
theorem Sub.append {c K : List Int} {N1 N2 N L1 L2 L : Int → Prop} {E1 E2 : List Ev} (S1 : Sub c K N1 L1 E1) (S2 : Sub c K N2 L2 E2) (hN : ∀ x, N1 x → N2 x → False) (hL : ∀ x, L1 x → L2 x → False) (h1 : ∀ x ∈ c, ¬ L1 x) (h2 : ∀ x ∈ c, ¬ L2 x)
    (n1 : ∀ x, N1 x → N x) (n2 : ∀ x, N2 x → N x) (l1 : ∀ x, L1 x → L x) (l2 : ∀ x, L2 x → L x) : Sub c K N L (E1 ++ E2) where
  tail := fun e he => by
    rcases List.mem_append.mp he with he | he
    · obtain ⟨p, a, b⟩ := S1.tail e he; exact ⟨p, a, fun l hl => l1 l (b l hl)⟩
    · obtain ⟨p, a, b⟩ := S2.tail e he; exact ⟨p, a, fun l hl => l2 l (b l hl)⟩
  lab := fun e he l h => by
    rcases List.mem_append.mp he with he | he
    · exact l1 l (S1.lab e he l h)
    · exact l2 l (S2.lab e he l h)
  num := fun p hp => by
    rw [bindsE_append] at hp
    rcases List.mem_append.mp hp with hp | hp
    · exact n1 _ (S1.num p hp)
    · exact n2 _ (S2.num p hp)
  letl := fun l h => by
    rw [letsE_append] at h
    rcases List.mem_append.mp h with h | h
    · exact l1 _ (S1.letl l h)
    · exact l2 _ (S2.letl l h)
  few := fun e he => (List.mem_append.mp he).elim (S1.few e) (S2.few e)
  p1 := fun e he e' he' l h h' => by
    rcases List.mem_append.mp he with he | he <;> rcases List.mem_append.mp he' with he' | he'
    · exact S1.p1 e he e' he' l h h'
    · exact (hL l (S1.lab e he l h) (S2.lab e' he' l h')).elim
    · exact (hL l (S1.lab e' he' l h') (S2.lab e he l h)).elim
    · exact S2.p1 e he e' he' l h h'
  p2 := fun p hp q hq e => by
    rw [bindsE_append] at hp hq
    rcases List.mem_append.mp hp with hp | hp <;> rcases List.mem_append.mp hq with hq | hq
    · exact S1.p2 p hp q hq e
    · exact (hN _ (S1.num p hp) (e ▸ S2.num q hq)).elim
    · exact (hN _ (S1.num q hq) (e ▸ S2.num p hp)).elim
    · exact S2.p2 p hp q hq e
  p3 := fun A e B h l hl e' he' hm => by
    rcases split_append h with ⟨B', a, rfl⟩ | ⟨A', rfl, a⟩
    · have hLl := S1.lab e (mem_split a) l hl
      rcases List.mem_append.mp he' with q | q
      · exact List.mem_append_left _ (S1.p3 A e B' a l hl e' q hm)
      · exact (S2.out q hm hLl (fun x a b => hL x b a) h1).elim
    · have hLl := S2.lab e (mem_split a) l hl
      rcases List.mem_append.mp he' with q | q
      · exact (S1.out q hm hLl hL h2).elim
      · exact S2.p3 A' e B a l hl e' q hm
  p4 := fun A e B h l hl hm => by
    rw [letsE_append] at hl
    rcases split_append h with ⟨B', a, rfl⟩ | ⟨A', rfl, a⟩
    · rcases List.mem_append.mp hl with q | q
      · exact S1.p4 A e B' a l q hm
      · exact (S1.out (mem_split a) hm (S2.letl l q) hL h2).elim
    · rw [letsE_append]
      rcases List.mem_append.mp hl with q | q
      · exact List.mem_append_left _ q
      · exact List.mem_append_right _ (S2.p4 A' e B a l q hm)
  p5 := fun A e B h c1 l c2 hc => by
    rcases split_append h with ⟨B', a, rfl⟩ | ⟨A', rfl, a⟩
    · exact S1.p5 A e B' a c1 l c2 hc
    · obtain ⟨e', x, y⟩ := S2.p5 A' e B a c1 l c2 hc
      exact ⟨e', List.mem_append_right _ x, y⟩
  p6 := fun A e B h x hx => by
    rcases split_append h with ⟨B', a, rfl⟩ | ⟨A', rfl, a⟩
    · exact S1.p6 A e B' a x hx
    · rcases S2.p6 A' e B a x hx with q | ⟨h, p, q⟩
      · exact .inl q
      · exact .inr ⟨h, by rw [bindsE_append]; exact List.mem_append_right _ p, q⟩
theorem Sub.dup {c K : List Int} {N L : Int → Prop} {E : List Ev} (S : Sub c K N L E) : Sub c K N L (E ++ E) where
  tail := fun e he => (List.mem_append.mp he).elim (S.tail e) (S.tail e)
  lab := fun e he => (List.mem_append.mp he).elim (S.lab e) (S.lab e)
  num := fun p hp => by rw [bindsE_append] at hp; exact (List.mem_append.mp hp).elim (S.num p) (S.num p)
  letl := fun p hp => by rw [letsE_append] at hp; exact (List.mem_append.mp hp).elim (S.letl p) (S.letl p)
  few := fun e he => (List.mem_append.mp he).elim (S.few e) (S.few e)
  p1 := fun e he e' he' => S.p1 e ((List.mem_append.mp he).elim id id) e' ((List.mem_append.mp he').elim id id)
  p2 := fun e he e' he' => by
    rw [bindsE_append] at he he'
    exact S.p2 e ((List.mem_append.mp he).elim id id) e' ((List.mem_append.mp he').elim id id)
  p3 := fun A e B h l hl e' he' hm => by
    have q := (List.mem_append.mp he').elim id id
    rcases split_append h with ⟨B', a, rfl⟩ | ⟨A', rfl, a⟩
    · exact List.mem_append_left _ (S.p3 A e B' a l hl e' q hm)
    · exact S.p3 A' e B a l hl e' q hm
  p4 := fun A e B h l hl hm => by
    rw [letsE_append] at hl
    have q := (List.mem_append.mp hl).elim id id
    rcases split_append h with ⟨B', a, rfl⟩ | ⟨A', rfl, a⟩
    · exact S.p4 A e B' a l q hm
    · rw [letsE_append]; exact List.mem_append_left _ q
  p5 := fun A e B h c1 l c2 hc => by
    rcases split_append h with ⟨B', a, rfl⟩ | ⟨A', rfl, a⟩
    · exact S.p5 A e B' a c1 l c2 hc
    · obtain ⟨e', x, y⟩ := S.p5 A' e B a c1 l c2 hc
      exact ⟨e', List.mem_append_right _ x, y⟩
  p6 := fun A e B h x hx => by
    rcases split_append h with ⟨B', a, rfl⟩ | ⟨A', rfl, a⟩
    · exact S.p6 A e B' a x hx
    · rcases S.p6 A' e B a x hx with q | ⟨h, p, q⟩
      · exact .inl q
      · exact .inr ⟨h, by rw [bindsE_append]; exact List.mem_append_right _ p, q⟩
theorem len_no {c c1 c2 : List Int} {l : Int} (h : c = c1 ++ l :: (c2 ++ c)) : False := by
  have := congrArg List.length h
  simp at this
  omega
/-- a node ahead that binds nothing -/
theorem Sub.cons {c K : List Int} {N L : Int → Prop} {E : List Ev} {e : Ev} (S : Sub c K N L E) (he : e.c = c) (hl : e.lamOf = none) (hb : e.binds = []) (ht : ∀ l, e.letOf = some l → L l) (hu : ∀ x, e.useOf = some x → x ∈ K) (hc : ∀ x ∈ c, ¬ L x) : Sub c K N L (e :: E) where
  tail := fun e' h => by
    rcases List.mem_cons.mp h with rfl | h
    · exact ⟨[], he, (fun _ h => nomatch h)⟩
    · exact S.tail e' h
  lab := fun e' h l q => by
    rcases List.mem_cons.mp h with rfl | h
    · rw [hl] at q; cases q
    · exact S.lab e' h l q
  num := fun p hp => by rw [bindsE_cons, hb] at hp; exact S.num p hp
  letl := fun l h => by
    rcases mem_letsE_cons.mp h with h | h
    · exact ht l h
    · exact S.letl l h
  few := fun e' h => by
    rcases List.mem_cons.mp h with rfl | h
    · simp [hb]
    · exact S.few e' h
  p1 := fun a ha b hb' l q q' => by
    rcases List.mem_cons.mp ha with rfl | ha
    · rw [hl] at q; cases q
    rcases List.mem_cons.mp hb' with rfl | hb'
    · rw [hl] at q'; cases q'
    exact S.p1 a ha b hb' l q q'
  p2 := fun p hp q hq => by rw [bindsE_cons, hb] at hp hq; exact S.p2 p hp q hq
  p3 := fun A f B h l q e' h' hm => by
    rcases split_cons h with ⟨_, rfl, _⟩ | ⟨A', rfl, a⟩
    · rw [hl] at q; cases q
    · rcases List.mem_cons.mp h' with rfl | h'
      · rw [he] at hm; exact (hc l hm (S.lab f (mem_split a) l q)).elim
      · exact S.p3 A' f B a l q e' h' hm
  p4 := fun A f B h l q hm => by
    rcases split_cons h with ⟨_, rfl, _⟩ | ⟨A', rfl, a⟩
    · rw [he] at hm
      rcases mem_letsE_cons.mp q with q | q
      · exact (hc l hm (ht l q)).elim
      · exact (hc l hm (S.letl l q)).elim
    · rw [mem_letsE_cons]
      rcases mem_letsE_cons.mp q with q | q
      · exact .inl q
      · exact .inr (S.p4 A' f B a l q hm)
  p5 := fun A f B h c1 l c2 q => by
    rcases split_cons h with ⟨_, rfl, _⟩ | ⟨A', rfl, a⟩
    · rw [he] at q; exact (len_no q).elim
    · obtain ⟨e', x, y⟩ := S.p5 A' f B a c1 l c2 q
      exact ⟨e', .tail _ x, y⟩
  p6 := fun A f B h x q => by
    rcases split_cons h with ⟨_, rfl, _⟩ | ⟨A', rfl, a⟩
    · exact .inl (hu x q)
    · rw [bindsE_cons, hb]
      exact S.p6 A' f B a x q
theorem Sub.lam {c K : List Int} {N N' L L' : Int → Prop} {E : List Ev} {e : Ev} {l : Int} {ps : List Int} {r : Int} (S : Sub (l :: c) (K ++ bindsOf ps r) N L E) (he : e.c = c) (hk : e.kd = .lam l ps r) (hl : ¬ L l) (hlc : l ∉ c) (hc : ∀ x ∈ c, ¬ L x)
    (hb : ∀ x ∈ bindsOf ps r, ¬ N x) (h3 : (bindsOf ps r).length ≤ 3) (n1 : ∀ x, N x → N' x) (n2 : ∀ x ∈ bindsOf ps r, N' x) (l1 : ∀ x, L x → L' x) (l2 : L' l) : Sub c K N' L' (e :: E) := by
  have eb : e.binds = (bindsOf ps r).map fun x => (x, l) := by unfold Ev.binds; rw [hk]
  have el : e.lamOf = some l := by unfold Ev.lamOf; rw [hk]
  have et : e.letOf = none := by unfold Ev.letOf; rw [hk]; rfl
  have eu : e.useOf = none := by unfold Ev.useOf; rw [hk]
  have mb : ∀ p ∈ e.binds, p.1 ∈ bindsOf ps r ∧ p.2 = l := fun p hp => by
    rw [eb] at hp
    obtain ⟨x, hx, rfl⟩ := List.mem_map.mp hp
    exact ⟨hx, rfl⟩
  refine ⟨fun e' h => ?_, fun e' h l' q => ?_, fun p hp => ?_, fun l' h => ?_, fun e' h => ?_, fun a ha b hb' l' q q' => ?_, fun p hp q hq e2 => ?_, fun A f B h l' q e' h' hm => ?_, fun A f B h l' q hm => ?_, fun A f B h c1 l' c2 q => ?_, fun A f B h x q => ?_⟩
  · rcases List.mem_cons.mp h with rfl | h
    · exact ⟨[], he, (fun _ h => nomatch h)⟩
    · obtain ⟨p, a, b⟩ := S.tail e' h
      refine ⟨p ++ [l], by simp [a], fun x hx => ?_⟩
      rcases List.mem_append.mp hx with hx | hx
      · exact l1 x (b x hx)
      · rw [List.mem_singleton.mp hx]; exact l2
  · rcases List.mem_cons.mp h with rfl | h
    · rw [el] at q; cases q; exact l2
    · exact l1 _ (S.lab e' h l' q)
  · rw [bindsE_cons] at hp
    rcases List.mem_append.mp hp with hp | hp
    · exact n2 _ (mb p hp).1
    · exact n1 _ (S.num p hp)
  · rcases mem_letsE_cons.mp h with h | h
    · rw [et] at h; cases h
    · exact l1 _ (S.letl l' h)
  · rcases List.mem_cons.mp h with rfl | h
    · rw [eb, List.length_map]; exact h3
    · exact S.few e' h
  · rcases List.mem_cons.mp ha with z1 | z1 <;> rcases List.mem_cons.mp hb' with z2 | z2
    · rw [z1, z2]
    · rw [z1, el] at q; cases q; exact (hl (S.lab b z2 _ q')).elim
    · rw [z2, el] at q'; cases q'; exact (hl (S.lab a z1 _ q)).elim
    · exact S.p1 a z1 b z2 l' q q'
  · rw [bindsE_cons] at hp hq
    rcases List.mem_append.mp hp with hp | hp <;> rcases List.mem_append.mp hq with hq | hq
    · rw [(mb p hp).2, (mb q hq).2]
    · exact (hb _ (mb p hp).1 (e2 ▸ S.num q hq)).elim
    · exact (hb _ (mb q hq).1 (e2 ▸ S.num p hp)).elim
    · exact S.p2 p hp q hq e2
  · rcases split_cons h with ⟨_, rfl, rfl⟩ | ⟨A', rfl, a⟩
    · rw [el] at q; cases q
      rcases List.mem_cons.mp h' with rfl | h'
      · rw [he] at hm; exact (hlc hm).elim
      · exact h'
    · rcases List.mem_cons.mp h' with rfl | h'
      · rw [he] at hm; exact (hc l' hm (S.lab f (mem_split a) l' q)).elim
      · exact S.p3 A' f B a l' q e' h' hm
  · rcases mem_letsE_cons.mp q with q | q
    · rw [et] at q; cases q
    rcases split_cons h with ⟨_, rfl, rfl⟩ | ⟨A', rfl, a⟩
    · rw [he] at hm; exact (hc l' hm (S.letl l' q)).elim
    · exact mem_letsE_cons.mpr (.inr (S.p4 A' f B a l' q hm))
  · rcases split_cons h with ⟨_, rfl, rfl⟩ | ⟨A', rfl, a⟩
    · rw [he] at q; exact (len_no q).elim
    · rcases List.eq_nil_or_concat c2 with rfl | ⟨c2', z, rfl⟩
      · obtain ⟨p, a1, _⟩ := S.tail f (mem_split a)
        have : c1 ++ [l'] = p ++ [l] := by
          rw [a1] at q
          have : (p ++ [l]) ++ c = (c1 ++ [l']) ++ c := by simpa using q
          exact (List.append_cancel_right this).symm
        obtain ⟨_, h2⟩ := List.append_inj' this rfl
        cases h2
        exact ⟨e, .head _, el, by simpa using he⟩
      · obtain ⟨p, a1, _⟩ := S.tail f (mem_split a)
        have : (c1 ++ l' :: c2') ++ [z] = p ++ [l] := by
          rw [a1] at q
          have : (p ++ [l]) ++ c = ((c1 ++ l' :: c2') ++ [z]) ++ c := by simpa using q
          exact (List.append_cancel_right this).symm
        obtain ⟨_, h2⟩ := List.append_inj' this rfl
        cases h2
        obtain ⟨e', x, y, y2⟩ := S.p5 A' f B a c1 l' c2' (by simpa using q)
        exact ⟨e', .tail _ x, y, by simpa using y2⟩
  · rcases split_cons h with ⟨_, rfl, rfl⟩ | ⟨A', rfl, a⟩
    · rw [eu] at q; cases q
    · rw [bindsE_cons]
      rcases S.p6 A' f B a x q with hx | ⟨h, hx, q⟩
      · rcases List.mem_append.mp hx with hx | hx
        · exact .inl hx
        · refine .inr ⟨l, List.mem_append_left _ (by rw [eb]; exact List.mem_map.mpr ⟨x, hx, rfl⟩), .inl ?_⟩
          obtain ⟨p, a1, _⟩ := S.tail f (mem_split a)
          rw [a1]; simp
      · exact .inr ⟨h, List.mem_append_right _ hx, q⟩
theorem Sub.fix {c K : List Int} {N N' L : Int → Prop} {E : List Ev} {e : Ev} {nums : List Int} (S : Sub c (K ++ nums) N L E) (he : e.c = c) (hk : e.kd = .fix nums) (hc : ∀ x ∈ c, ¬ L x)
    (hb : ∀ x ∈ nums, ¬ N x) (h3 : nums.length ≤ 3) (n1 : ∀ x, N x → N' x) (n2 : ∀ x ∈ nums, N' x) : Sub c K N' L (e :: E) := by
  have eb : e.binds = nums.map fun x => (x, hd c) := by unfold Ev.binds; rw [hk, he]
  have el : e.lamOf = none := by unfold Ev.lamOf; rw [hk]
  have et : e.letOf = none := by unfold Ev.letOf; rw [hk]; rfl
  have eu : e.useOf = none := by unfold Ev.useOf; rw [hk]
  have mb : ∀ p ∈ e.binds, p.1 ∈ nums ∧ p.2 = hd c := fun p hp => by
    rw [eb] at hp
    obtain ⟨x, hx, rfl⟩ := List.mem_map.mp hp
    exact ⟨hx, rfl⟩
  refine ⟨fun e' h => ?_, fun e' h l' q => ?_, fun p hp => ?_, fun l' h => ?_, fun e' h => ?_, fun a ha b hb' l' q q' => ?_, fun p hp q hq e2 => ?_, fun A f B h l' q e' h' hm => ?_, fun A f B h l' q hm => ?_, fun A f B h c1 l' c2 q => ?_, fun A f B h x q => ?_⟩
  · rcases List.mem_cons.mp h with rfl | h
    · exact ⟨[], he, (fun _ h => nomatch h)⟩
    · exact S.tail e' h
  · rcases List.mem_cons.mp h with rfl | h
    · rw [el] at q; cases q
    · exact S.lab e' h l' q
  · rw [bindsE_cons] at hp
    rcases List.mem_append.mp hp with hp | hp
    · exact n2 _ (mb p hp).1
    · exact n1 _ (S.num p hp)
  · rcases mem_letsE_cons.mp h with h | h
    · rw [et] at h; cases h
    · exact S.letl l' h
  · rcases List.mem_cons.mp h with rfl | h
    · rw [eb, List.length_map]; exact h3
    · exact S.few e' h
  · rcases List.mem_cons.mp ha with rfl | ha
    · rw [el] at q; cases q
    rcases List.mem_cons.mp hb' with rfl | hb'
    · rw [el] at q'; cases q'
    exact S.p1 a ha b hb' l' q q'
  · rw [bindsE_cons] at hp hq
    rcases List.mem_append.mp hp with hp | hp <;> rcases List.mem_append.mp hq with hq | hq
    · rw [(mb p hp).2, (mb q hq).2]
    · exact (hb _ (mb p hp).1 (e2 ▸ S.num q hq)).elim
    · exact (hb _ (mb q hq).1 (e2 ▸ S.num p hp)).elim
    · exact S.p2 p hp q hq e2
  · rcases split_cons h with ⟨_, rfl, rfl⟩ | ⟨A', rfl, a⟩
    · rw [el] at q; cases q
    · rcases List.mem_cons.mp h' with rfl | h'
      · rw [he] at hm; exact (hc l' hm (S.lab f (mem_split a) l' q)).elim
      · exact S.p3 A' f B a l' q e' h' hm
  · rcases mem_letsE_cons.mp q with q | q
    · rw [et] at q; cases q
    rcases split_cons h with ⟨_, rfl, rfl⟩ | ⟨A', rfl, a⟩
    · rw [he] at hm; exact (hc l' hm (S.letl l' q)).elim
    · exact mem_letsE_cons.mpr (.inr (S.p4 A' f B a l' q hm))
  · rcases split_cons h with ⟨_, rfl, rfl⟩ | ⟨A', rfl, a⟩
    · rw [he] at q; exact (len_no q).elim
    · obtain ⟨e', x, y⟩ := S.p5 A' f B a c1 l' c2 q
      exact ⟨e', .tail _ x, y⟩
  · rcases split_cons h with ⟨_, rfl, rfl⟩ | ⟨A', rfl, a⟩
    · rw [eu] at q; cases q
    · rw [bindsE_cons]
      rcases S.p6 A' f B a x q with hx | ⟨h, hx, q⟩
      · rcases List.mem_append.mp hx with hx | hx
        · exact .inl hx
        · refine .inr ⟨hd c, List.mem_append_left _ (by rw [eb]; exact List.mem_map.mpr ⟨x, hx, rfl⟩), ?_⟩
          obtain ⟨p, a1, _⟩ := S.tail f (mem_split a)
          rw [a1]
          cases c with
          | nil => exact .inr rfl
          | cons y c => exact .inl (by simp [hd])
      · exact .inr ⟨h, List.mem_append_right _ hx, q⟩

/-- what was drawn between two states of the counters -/
noncomputable def Iv (a b x : Int) : Prop := a < x ∧ x ≤ b
inductive Row (c K : List Int) (n0 l0 : Int) : Int → Int → List (List Ev) → Prop
  | nil : Row c K n0 l0 n0 l0 []
  | snoc {n1 n2 l1 l2 : Int} {Es : List (List Ev)} {E : List Ev} : Row c K n0 l0 n1 l1 Es → Sub c K (Iv n1 n2) (Iv l1 l2) E → n1 ≤ n2 → l1 ≤ l2 → Row c K n0 l0 n2 l2 (Es ++ [E])
theorem Row.le {c K : List Int} {n0 l0 n1 l1 : Int} {Es : List (List Ev)} (R : Row c K n0 l0 n1 l1 Es) : n0 ≤ n1 ∧ l0 ≤ l1 := by
  induction R with
  | nil => omega
  | snoc _ _ h1 h2 ih => omega
theorem Sub.next {c K : List Int} {n0 n1 n2 l0 l1 l2 : Int} {E1 E2 : List Ev} (S1 : Sub c K (Iv n0 n1) (Iv l0 l1) E1) (S2 : Sub c K (Iv n1 n2) (Iv l1 l2) E2) (h1 : n0 ≤ n1) (h2 : n1 ≤ n2) (h3 : l0 ≤ l1) (h4 : l1 ≤ l2) (hc : ∀ x ∈ c, x ≤ l0) : Sub c K (Iv n0 n2) (Iv l0 l2) (E1 ++ E2) := by
  refine S1.append S2 ?_ ?_ ?_ ?_ ?_ ?_ ?_ ?_ <;> intro x <;> unfold Iv
  · omega
  · omega
  · intro h; have := hc x h; omega
  · intro h; have := hc x h; omega
  all_goals omega
theorem Row.sub {c K : List Int} {n0 l0 n1 l1 : Int} {Es : List (List Ev)} (R : Row c K n0 l0 n1 l1 Es) (hc : ∀ x ∈ c, x ≤ l0) : Sub c K (Iv n0 n1) (Iv l0 l1) Es.flatten := by
  induction R with
  | nil => exact .nil
  | snoc R S h1 h2 ih =>
    rw [List.flatten_append]
    have := R.le
    exact ih.next (by simpa using S) this.1 h1 this.2 h2 hc
theorem Row.head {c K : List Int} {n0 l0 n1 l1 : Int} {E : List Ev} {Es : List (List Ev)} (R : Row c K n0 l0 n1 l1 (E :: Es)) : Sub c K (Iv n0 n1) (Iv l0 l1) E := by
  generalize hF : E :: Es = F at R
  induction R generalizing E Es with
  | nil => cases hF
  | @snoc m1 m2 k1 k2 F E' R S h1 h2 ih =>
    have := R.le
    cases F with
    | nil =>
      simp at hF
      obtain ⟨rfl, rfl⟩ := hF
      exact S.mono (fun _ h => h) (fun x => by unfold Iv; omega) (fun x => by unfold Iv; omega)
    | cons G F =>
      simp at hF
      obtain ⟨rfl, _⟩ := hF
      exact (ih rfl).mono (fun _ h => h) (fun x => by unfold Iv; omega) (fun x => by unfold Iv; omega)
/-- the first and the last -/
theorem Row.ends {c K : List Int} {n0 l0 n1 l1 : Int} {E E' : List Ev} {Es : List (List Ev)} (R : Row c K n0 l0 n1 l1 (E :: Es)) (hl : (E :: Es).getLast? = some E') (hc : ∀ x ∈ c, x ≤ l0) : Sub c K (Iv n0 n1) (Iv l0 l1) (E ++ E') := by
  generalize hF : E :: Es = F at R hl
  cases R with
  | nil => cases hF
  | @snoc m1 m2 k1 k2 F E2 R S h1 h2 =>
    have := R.le
    simp at hl
    subst hl
    cases F with
    | nil =>
      simp at hF
      obtain ⟨rfl, rfl⟩ := hF
      exact (S.mono (fun _ h => h) (fun x => by unfold Iv; omega) (fun x => by unfold Iv; omega)).dup
    | cons G F =>
      simp at hF
      obtain ⟨rfl, _⟩ := hF
      exact R.head.next S this.1 h1 this.2 h2 hc
/-! Bld1 -/
inductive All2 {α β : Type} (R : α → β → Prop) : List α → List β → Prop
  | nil : All2 R [] []
  | cons {a : α} {b : β} {as : List α} {bs : List β} : R a b → All2 R as bs → All2 R (a :: as) (b :: bs)
theorem All2.length {α β : Type} {R : α → β → Prop} {as : List α} {bs : List β} (h : All2 R as bs) : as.length = bs.length := by
  induction h with
  | nil => rfl
  | cons _ _ ih => simp [ih]
theorem All2.mono {α β : Type} {R R' : α → β → Prop} {as : List α} {bs : List β} (h : All2 R as bs) (hr : ∀ a b, R a b → R' a b) : All2 R' as bs := by
  induction h with
  | nil => exact .nil
  | cons a _ ih => exact .cons (hr _ _ a) ih
theorem All2.append {α β : Type} {R : α → β → Prop} {as as' : List α} {bs bs' : List β} (h : All2 R as bs) (h' : All2 R as' bs') : All2 R (as ++ as') (bs ++ bs') := by
  induction h with
  | nil => exact h'
  | cons a _ ih => exact .cons a ih
theorem All2.at {α β : Type} {R : α → β → Prop} {as : List α} {bs : List β} (h : All2 R as bs) : ∀ {i : Nat} {a : α}, as[i]? = some a → ∃ b, bs[i]? = some b ∧ R a b := by
  induction h with
  | nil => intro i a e; simp at e
  | cons a _ ih =>
    intro i x e
    cases i with
    | zero => simp at e; subst e; exact ⟨_, rfl, a⟩
    | succ i => simp at e; simpa using ih e

noncomputable def opOf : List (List Ev) → Kd
  | (e :: _) :: _ => e.kd
  | _ => .const
/-- the node v stands in T, its visits from the chain c are E -/
noncomputable def Tr (T : Led) : Nat → List Int → Value → List Ev → Prop
  | 0, _, _, _ => False
  | h + 1, c, v, E => ∃ a kd vs Es, v = .ref a ∧ NodeAt T a vs kd ∧ All2 (Tr T h (chainIn kd c)) vs Es ∧ E = ⟨c, kd, opOf Es, vs.length⟩ :: Es.flatten
theorem Tr.mono {T T' : Led} (s : ∀ p ∈ T, p ∈ T') : ∀ {h h' : Nat}, h ≤ h' → ∀ {c : List Int} {v : Value} {E : List Ev}, Tr T h c v E → Tr T' h' c v E
  | 0, _, _, _, _, _, t => t.elim
  | h + 1, 0, hh, _, _, _, _ => by omega
  | h + 1, h' + 1, hh, c, v, E, ⟨a, kd, vs, Es, e, N, A, q⟩ => ⟨a, kd, vs, Es, e, N.mono s, A.mono fun _ _ => Tr.mono s (by omega), q⟩
theorem Tr.op {T : Led} {h : Nat} {c : List Int} {kd : Kd} {a : Addr} {vs : List Value} {Es : List (List Ev)} (N : NodeAt T a vs kd) (A : All2 (Tr T h c) vs Es) : kd = .call → ∃ yo ovs vs0, vs = .ref yo :: ovs ∧ NodeAt T yo vs0 (opOf Es) := by
  rintro rfl
  obtain ⟨yo, ol, ovs, rfl, _⟩ := N
  cases A with
  | @cons _ E0 _ Es0 t A =>
    cases h with
    | zero => exact t.elim
    | succ h =>
      obtain ⟨a0, kd0, vs0, Es1, e, N0, _, rfl⟩ := t
      cases e
      exact ⟨yo, ovs, vs0, rfl, N0⟩

/-- while nodes are built: the deck at d, the counters at st, T what stays -/
structure Bw (d st : Addr) (T n : Led) (N L : Int) : Prop where
  sub : ∀ p ∈ T, p ∈ n
  nd : (keys n).Nodup
  dk : ∃ vs ns ep, (d, listOf vs.toArray ep) ∈ n ∧ IntsAre vs ns ∧ DeckOk ns
  sk : ∃ t u ep, (st, listOf #[.int N t, .int L u] ep) ∈ n
  offd : d ∉ keys T
  offs : st ∉ keys T
  ne : d ≠ st
  n0 : 0 ≤ N
  l0 : 0 ≤ L

noncomputable def Le (T T' : Led) : Prop := ∀ p ∈ T, p ∈ T'
theorem Le.refl (T : Led) : Le T T := fun _ h => h
theorem Le.trans {A B C : Led} (h : Le A B) (h' : Le B C) : Le A C := fun p hp => h' p (h p hp)
theorem Le.cons {A : Led} {p : Addr × Obj} : Le A (p :: A) := fun _ h => .tail _ h
theorem LsAt.sup {n n' : Led} {a : Addr} {vs : List Value} (h : LsAt n a vs) (s : Le n n') : LsAt n' a vs := h.mono s
theorem Bw.alloc {d st : Addr} {T n : Led} {N L : Int} (B : Bw d st T n N L) {a : Addr} {o : Obj} (ha : a ∉ keys n) : Bw d st ((a, o) :: T) ((a, o) :: n) N L := by
  obtain ⟨vs, ns, ep, h1, h2, h3⟩ := B.dk
  obtain ⟨t, u, ep2, h4⟩ := B.sk
  refine ⟨fun p hp => ?_, List.nodup_cons.mpr ⟨ha, B.nd⟩, ⟨vs, ns, ep, .tail _ h1, h2, h3⟩, ⟨t, u, ep2, .tail _ h4⟩, fun q => ?_, fun q => ?_, B.ne, B.n0, B.l0⟩
  · rcases List.mem_cons.mp hp with rfl | hp
    · exact .head _
    · exact .tail _ (B.sub p hp)
  · rcases List.mem_cons.mp q with q | q
    · exact ha (by have : d = a := q; rw [← this]; exact mem_keys h1)
    · exact B.offd q
  · rcases List.mem_cons.mp q with q | q
    · exact ha (by have : st = a := q; rw [← this]; exact mem_keys h4)
    · exact B.offs q
theorem Bw.alloc' {d st : Addr} {T n : Led} {N L : Int} (B : Bw d st T n N L) {a : Addr} {o : Obj} (ha : a ∉ keys n) : Bw d st T ((a, o) :: n) N L :=
  let C := B.alloc (o := o) ha
  ⟨fun p hp => C.sub p (.tail _ hp), C.nd, C.dk, C.sk, fun q => C.offd (.tail _ q), fun q => C.offs (.tail _ q), C.ne, C.n0, C.l0⟩
theorem Bw.of {d st : Addr} {T T' n n' : Led} {N L : Int} (B : Bw d st T n N L) (h1 : ∀ p ∈ n, p ∈ n') (nd : (keys n').Nodup) (h2 : ∀ p ∈ T', p ∈ n') (h3 : d ∉ keys T') (h4 : st ∉ keys T') : Bw d st T' n' N L := by
  obtain ⟨vs, ns, ep, a1, a2, a3⟩ := B.dk
  obtain ⟨t, u, ep2, a4⟩ := B.sk
  exact ⟨h2, nd, ⟨vs, ns, ep, h1 _ a1, a2, a3⟩, ⟨t, u, ep2, h1 _ a4⟩, h3, h4, B.ne, B.n0, B.l0⟩
/-- what is new and lies nowhere in n may be kept -/
theorem Bw.grow {d st : Addr} {T n : Led} {N L : Int} (B : Bw d st T n N L) {X n' : Led} (h1 : ∀ p ∈ n, p ∈ n') (nd : (keys n').Nodup) (h2 : ∀ p ∈ X, p ∈ n') (h3 : ∀ p ∈ X, p.1 ∉ keys n) : Bw d st (X ++ T) n' N L := by
  obtain ⟨vs, ns, ep, a1, a2, a3⟩ := id B.dk
  obtain ⟨t, u, ep2, a4⟩ := id B.sk
  refine B.of h1 nd (fun p hp => (List.mem_append.mp hp).elim (h2 p) fun q => h1 p (B.sub p q)) (fun q => ?_) fun q => ?_
  · rw [keys_append] at q
    rcases List.mem_append.mp q with q | q
    · obtain ⟨p, hp, e⟩ := List.mem_map.mp q
      exact h3 p hp (e ▸ mem_keys a1)
    · exact B.offd q
  · rw [keys_append] at q
    rcases List.mem_append.mp q with q | q
    · obtain ⟨p, hp, e⟩ := List.mem_map.mp q
      exact h3 p hp (e ▸ mem_keys a4)
    · exact B.offs q

section
variable {w : World} {k : Nat} {n T : Led} {d st : Addr} {N L : Int}
theorem draw_ok (B : Bw d st T n N L) {many : Int} {t : Tok} (h1 : 0 < many) (h2 : many < 100) : OK w (k + 9) (call (.ref 515) [.ref d, .int many t]) n fun v n' => ∃ r t, v = .int r t ∧ 0 ≤ r ∧ r < many ∧ Bw d st T n' N L := by
  obtain ⟨vs, ns, ep, a1, a2, a3⟩ := B.dk
  obtain ⟨t0, u0, ep2, a4⟩ := B.sk
  refine OK.use (n1 := [(d, listOf vs.toArray ep)]) (fun p hp => by rw [List.mem_singleton.mp hp]; exact a1) (by simp [keys]) (draw1 a2 a3 h1 h2) ?_
  rintro v n1' n' ⟨r, t', vs', ns', ep', rfl, r0, r1, i', d', rfl⟩ nd' s1 s2 s3 _ _
  refine ⟨r, t', rfl, r0, r1, fun p hp => s2 p (B.sub p hp) fun q => ?_, nd', ⟨vs', ns', ep', s1 _ (.head _), i', d'⟩, ⟨t0, u0, ep2, s2 _ a4 fun q => ?_⟩, B.offd, B.offs, B.ne, B.n0, B.l0⟩
  · simp [keys] at q
    exact B.offd (q ▸ List.mem_map.mpr ⟨p, hp, rfl⟩)
  · simp [keys] at q
    exact B.ne q.symm

theorem draw_use {Q : Value → Led → Prop} (B : Bw d st T n N L) {many : Int} {t : Tok} (h1 : 0 < many) (h2 : many < 100) (hq : ∀ r t n', 0 ≤ r → r < many → Bw d st T n' N L → Q (.int r t) n') : OK w (k + 9) (call (.ref 515) [.ref d, .int many t]) n Q :=
  (draw_ok B h1 h2).mono fun _ n' ⟨r, t, e, a, b, c⟩ => e ▸ hq r t n' a b c
theorem fwd {l : Lc} {Q Q' : Flow → Lc → Led → Prop} {f : Flow} {n : Led} (h : Q f l n) (e : Q = Q') : Q' f l n := e ▸ h

theorem new0_ok (B : Bw d st T n N L) {t : Tok} : OK w (k + 1) (call (.ref 534) [.ref st, .int 0 t]) n fun v n' => ∃ t, v = .int (N + 1) t ∧ Bw d st T n' (N + 1) L := by
  obtain ⟨vs, ns, ep, a1, a2, a3⟩ := B.dk
  obtain ⟨t0, u0, ep2, a4⟩ := B.sk
  refine OK.withNd ((call_law_new ?_).ok)
  unfold ir_law_new
  repeat' walk_at "st"
  refine ok_idx_list (vs := [.int N t0, .int L u0]) a4 (by decide) (by decide) rfl ?_
  repeat' walk_at "st"
  refine ok_add fun t1 => ?_
  repeat' walk_at "st"
  refine ok_setItem_list (vs := [.int N t0, .int L u0]) a4 (by decide) (by decide) (by simp) ?_
  repeat' walk_at "st"
  refine ok_idx_list (vs := [.int (N + 1) t1, .int L u0]) (mem_upd_self a4) (by decide) (by decide) rfl ?_
  intro nd'
  refine ⟨t1, rfl, ?_, nd', ⟨vs, ns, ep, mem_upd_ne a1 B.ne, a2, a3⟩, ⟨t1, u0, ep2, mem_upd_self a4⟩, B.offd, B.offs, B.ne, by have := B.n0; omega, B.l0⟩
  exact fun p hp => mem_upd_ne (B.sub p hp) fun e => B.offs (e ▸ List.mem_map.mpr ⟨p, hp, rfl⟩)
theorem new1_ok (B : Bw d st T n N L) {t : Tok} : OK w (k + 1) (call (.ref 534) [.ref st, .int 1 t]) n fun v n' => ∃ t, v = .int (L + 1) t ∧ Bw d st T n' N (L + 1) := by
  obtain ⟨vs, ns, ep, a1, a2, a3⟩ := B.dk
  obtain ⟨t0, u0, ep2, a4⟩ := B.sk
  refine OK.withNd ((call_law_new ?_).ok)
  unfold ir_law_new
  repeat' walk_at "st"
  refine ok_idx_list (vs := [.int N t0, .int L u0]) a4 (by decide) (by decide) rfl ?_
  repeat' walk_at "st"
  refine ok_add fun t1 => ?_
  repeat' walk_at "st"
  refine ok_setItem_list (vs := [.int N t0, .int L u0]) a4 (by decide) (by decide) (by simp) ?_
  repeat' walk_at "st"
  refine ok_idx_list (vs := [.int N t0, .int (L + 1) t1]) (mem_upd_self a4) (by decide) (by decide) rfl ?_
  intro nd'
  refine ⟨t1, rfl, ?_, nd', ⟨vs, ns, ep, mem_upd_ne a1 B.ne, a2, a3⟩, ⟨t0, t1, ep2, mem_upd_self a4⟩, B.offd, B.offs, B.ne, B.n0, by have := B.l0; omega⟩
  exact fun p hp => mem_upd_ne (B.sub p hp) fun e => B.offs (e ▸ List.mem_map.mpr ⟨p, hp, rfl⟩)
theorem one_ok (B : Bw d st T n N L) {kn : Addr} {kvs : List Value} {K : List Int} (hk : LsAt T kn kvs) (hi : IntsAre kvs K) (h0 : K ≠ []) (hz : K.length < 100) :
    OK w (k + 10) (call (.ref 527) [.ref d, .ref kn]) n fun v n' => ∃ x t, v = .int x t ∧ x ∈ K ∧ Bw d st T n' N L := by
  refine ((call_law_one (k := k + 9) ?_).ok)
  obtain ⟨ep, hk⟩ := hk
  have hl := hi.length
  have hp : 0 < K.length := List.length_pos_iff.mpr h0
  unfold ir_law_one
  repeat' walk_at "st"
  refine ⟨callable_builtin _, ok_len_list (B.sub _ hk) (zl (by omega)) fun t => ?_⟩
  repeat' walk_at "st"
  refine ⟨kp_law_draw, (draw_ok B (by omega) (by omega)).mono ?_⟩
  rintro v n' ⟨r, t, rfl, r0, r1, B'⟩
  have hr : r.toNat < kvs.length := by omega
  obtain ⟨x, tx, e1, e2⟩ := hi.at r.toNat kvs[r.toNat] (by simp [hr])
  have : (2 : Int) ^ 63 > 1000 := by decide
  refine ok_idx_list (x := .int x tx) (B'.sub _ hk) r0 (by omega) (by rw [List.getElem?_eq_getElem hr, e1]) ?_
  exact ⟨x, tx, rfl, List.mem_of_getElem? e2, B'⟩
end
/-! Bld2 -/
theorem Src.live.mono {S : Src} {n n' : Led} (h : S.live n) (s : Le n n') : S.live n' := by
  cases S <;> exact s _ h

inductive Made (d st : Addr) (T : Led) (c K : List Int) (N L : Int) (b h z : Nat) (v : Value) (n' : Led) : Prop
  | mk (T' : Led) (N' L' : Int) (E : List Ev) (h1 : Le T T') (h2 : Bw d st T' n' N' L') (h3 : N ≤ N') (h4 : N' ≤ N + b) (h5 : L ≤ L') (h6 : Tr T' h c v E) (h7 : Sub c K (Iv N N') (Iv L L') E) (h8 : E.length ≤ z)
inductive LamMade (d st : Addr) (T : Led) (c K : List Int) (N L : Int) (b h z : Nat) (v : Value) (n' : Led) : Prop
  | mk (T' : Led) (N' L' : Int) (a : Addr) (l : Int) (ps : List Int) (r : Int) (y : Value) (E : List Ev) (h0 : v = .ref a) (h1 : Le T T') (h2 : Bw d st T' n' N' L') (h3 : N ≤ N') (h4 : N' ≤ N + b) (h5 : L ≤ L') (h6 : NodeAt T' a [y] (.lam l ps r)) (h7 : Tr T' h (l :: c) y E)
    (h8 : Sub c K (Iv N N') (Iv L L') (⟨c, .lam l ps r, opOf [E], 1⟩ :: E)) (h9 : Iv L L' l) (h10 : ps.length ≤ 2) (h11 : E.length ≤ z)
theorem Made.mono {d st : Addr} {T : Led} {c K : List Int} {N L : Int} {b h z b' h' z' : Nat} {v : Value} {n' : Led} (M : Made d st T c K N L b h z v n') (hb : b ≤ b') (hh : h ≤ h') (hz : z ≤ z') : Made d st T c K N L b' h' z' v n' := by
  obtain ⟨T', N', L', E, a1, a2, a3, a4, a5, a6, a7, a8⟩ := M
  exact ⟨T', N', L', E, a1, a2, a3, by omega, a5, a6.mono (Le.refl _) hh, a7, by omega⟩
theorem LamMade.made {d st : Addr} {T : Led} {c K : List Int} {N L : Int} {b h z : Nat} {v : Value} {n' : Led} (M : LamMade d st T c K N L b h z v n') : Made d st T c K N L b (h + 1) (z + 1) v n' := by
  obtain ⟨T', N', L', a, l, ps, r, y, E, a1, a2, a3, a4, a5, a6, a7, a8, a9, a10, a11, a12⟩ := M
  exact ⟨T', N', L', _, a2, a3, a4, a5, a6, ⟨a, .lam l ps r, [y], [E], a1, a7, (.cons a8 .nil), by simp⟩, a9, by simpa using a12⟩

noncomputable def fresh (N : Int) (i : Nat) : List Int := (List.range i).map fun (j : Nat) => N + 1 + (j : Int)
theorem fresh_succ (N : Int) (i : Nat) : fresh N (i + 1) = fresh N i ++ [N + i + 1] := by
  unfold fresh
  rw [List.range_succ, List.map_append]
  simp; omega
theorem fresh_len (N : Int) (i : Nat) : (fresh N i).length = i := by simp [fresh]
theorem mem_fresh {N : Int} {i : Nat} {x : Int} (h : x ∈ fresh N i) : N < x ∧ x ≤ N + i := by
  unfold fresh at h
  simp at h
  obtain ⟨j, hj, rfl⟩ := h
  omega

section
variable {w : World} {k : Nat} {n T : Led} {d st : Addr} {N L : Int} {Q : Value → Led → Prop}
theorem nums_comp {l : Lc} {it : Ex} (hs : l 1 = some (.ref st)) (h : wE w (k + 1) it l n fun v n1 => ∃ (i : Nat) (t : Tok), v = .int (i : Int) t ∧ i ≤ 2 ∧ Bw d st T n1 N L ∧ ∀ a n2 ys T', Le T T' → Bw d st T' n2 (N + i) L → LsAt T' a ys → IntsAre ys (fresh N i) → Q (.ref a) n2) :
    wE w (k + 1) (.comp (.call (.g (.ref 534)) (.cons (.v 1) (.cons (.int 0) .nil))) 8 (.call (.g (.type "range")) (.cons it .nil))) l n Q := by
  refine e_comp (e_call (e_g (es_cons (e_join _ h fun v n1 h => es_nil ?_))))
  obtain ⟨i, t, rfl, hi, B, q⟩ := h
  refine ⟨callable_type _, ok_range rfl (by omega) fun r t u v hr hsm => ?_⟩
  refine ⟨.range r i t u v, rfl, .head _, hsm, zl (by show i ≤ 1000; omega), fun j ys n2 => j ≤ i ∧ Bw d st ((r, rangeOf i t u v) :: T) n2 (N + j) L ∧ IntsAre ys (fresh N j), ⟨Nat.zero_le _, by simpa using B.alloc hr, .nil⟩, ?_⟩
  rintro j ys n2 ⟨hj, B2, hy⟩
  refine ⟨B2.sub _ (.head _), fun hlt y _ => e_call (e_g (es_cons (e_v hs (es_cons (e_int fun tz => es_nil ⟨kp_law_new, (new0_ok B2).mono ?_⟩))))), fun hje a ha => ?_⟩
  · rintro v n3 ⟨t', rfl, B3⟩
    have hlt : j < i := hlt
    refine ⟨hlt, ?_, ?_⟩
    · have e : N + ((j + 1 : Nat) : Int) = N + j + 1 := by omega
      rw [e]; exact B3
    · rw [fresh_succ]
      exact hy.append (.cons _ _ .nil)
  · have e : j = i := hje
    subst e
    refine q a _ ys ((a, listOf ys.toArray ys.length) :: (r, rangeOf j t u v) :: T) (fun p hp => .tail _ (.tail _ hp)) (B2.alloc ha) ⟨_, .head _⟩ hy

theorem row_comp {l : Lc} {e it : Ex} {c K : List Int} {b h z : Nat}
    (he : ∀ y T1 n1 N1 L1, Le T T1 → N ≤ N1 → L ≤ L1 → Bw d st T1 n1 N1 L1 → wE w k e (lset 8 y l) n1 (Made d st T1 c K N1 L1 b h z))
    (hit : wE w k it l n fun v n1 => ∃ S T1, Le T T1 ∧ Src.val S = v ∧ S.live T1 ∧ S.fits ∧ S.cnt ≤ 3 ∧ Bw d st T1 n1 N L ∧
      ∀ a n2 T' ys N' L' Es, Le T1 T' → Bw d st T' n2 N' L' → LsAt T' a ys → All2 (Tr T' h c) ys Es → Row c K N L N' L' Es → N' ≤ N + (S.cnt * b : Nat) → Es.flatten.length ≤ S.cnt * z → ys.length = S.cnt → Q (.ref a) n2) : wE w k (.comp e 8 it) l n Q := by
  refine e_comp (e_join _ hit fun v n1 hh => ?_)
  obtain ⟨S, T1, hT, rfl, hlive, hfit, h3, B, q⟩ := hh
  refine ⟨S, rfl, hlive.mono B.sub, hfit, zl (by omega), fun i ys n2 => i ≤ S.cnt ∧ ys.length = i ∧ ∃ T2 N2 L2 Es, Le T1 T2 ∧ Bw d st T2 n2 N2 L2 ∧ All2 (Tr T2 h c) ys Es ∧ Row c K N L N2 L2 Es ∧ N2 ≤ N + (i * b : Nat) ∧ Es.flatten.length ≤ i * z,
    ⟨Nat.zero_le _, rfl, T1, N, L, [], Le.refl _, B, .nil, .nil, by simp, by simp⟩, ?_⟩
  rintro i ys n2 ⟨hi, hlen, T2, N2, L2, Es, l1, B2, A2, R2, b2, z2⟩
  refine ⟨hlive.mono (l1.trans B2.sub), fun hlt y _ => ?_, fun hje a ha => ?_⟩
  · have := R2.le
    refine e_join _ (he y T2 n2 N2 L2 (hT.trans l1) this.1 this.2 B2) fun v n3 M => ?_
    obtain ⟨T3, N3, L3, E, l3, B3, m1, m2, m3, t3, s3, z3⟩ := M
    refine ⟨hlt, by simp [hlen], T3, N3, L3, Es ++ [E], l1.trans l3, B3, (A2.mono fun _ _ t => t.mono l3 (Nat.le_refl _)).append (.cons t3 .nil), .snoc R2 s3 m1 m3, ?_, ?_⟩
    · rw [Nat.succ_mul]; omega
    · rw [List.flatten_append, List.length_append, Nat.succ_mul]
      simp only [List.flatten_cons, List.flatten_nil, List.append_nil]
      omega
  · subst hje
    refine q a _ ((a, listOf ys.toArray ys.length) :: T2) ys N2 L2 Es (l1.trans Le.cons) (B2.alloc ha) ⟨_, .head _⟩ (A2.mono fun _ _ t => t.mono Le.cons (Nat.le_refl _)) R2 b2 z2 hlen
end

/-- what law_node_of does at a depth of at most dd -/
noncomputable def NodeSpec (w : World) (κ : Nat) (dd : Int) (b h z : Nat) : Prop := ∀ (d st : Addr) (T n : Led) (N L : Int) (c K : List Int) (kn : Addr) (kvs : List Value) (deep : Int) (t : Tok),
  Bw d st T n N L → LsAt T kn kvs → IntsAre kvs K → (K.length : Int) ≤ 60 - 10 * deep → -1 ≤ deep → deep ≤ 2 → (∀ x ∈ K, x ≤ N) → (∀ x ∈ c, x ≤ L) → deep ≤ dd → OK w κ (call (.ref 544) [.ref d, .ref st, .ref kn, .int deep t]) n (Made d st T c K N L b h z)
noncomputable def LamSpec (w : World) (κ : Nat) (dd : Int) (b h z : Nat) : Prop := ∀ (d st : Addr) (T n : Led) (N L : Int) (c K : List Int) (kn : Addr) (kvs : List Value) (deep : Int) (t : Tok),
  Bw d st T n N L → LsAt T kn kvs → IntsAre kvs K → (K.length : Int) ≤ 65 - 10 * deep → 0 ≤ deep → deep ≤ 2 → (∀ x ∈ K, x ≤ N) → (∀ x ∈ c, x ≤ L) → deep ≤ dd → OK w κ (call (.ref 539) [.ref d, .ref st, .ref kn, .int deep t]) n (LamMade d st T c K N L b h z)

theorem lam_ok {w : World} {κ : Nat} {dd : Int} {b h z : Nat} (hκ : 20 ≤ κ) (hN : NodeSpec w κ (dd - 1) b h z) (hdd : 0 ≤ dd) : LamSpec w (κ + 1) dd (b + 3) h z := by
  intro d st T n N L c K kn kvs deep t B hkn hK hKl hd0 hd2 hKN hcL hdeep
  obtain ⟨κ0, rfl⟩ : ∃ j, κ = j + 9 := ⟨κ - 9, by omega⟩
  refine OK.post fun Q hQ => ((call_law_lam ?_).ok)
  unfold ir_law_lam
  refine b_cons (s_asg (nums_comp (T := T) (N := N) (L := L) (d := d) (by with_unfolding_all rfl) ?_))
  repeat' walk_at "st"
  refine ⟨kp_law_draw, draw_use B (by decide) (by decide) fun r0 t0 n1 r1 r2 B1 => ?_⟩
  refine ⟨r0.toNat, t0, by rw [Int.toNat_of_nonneg r1], by omega, B1, ?_⟩
  generalize hj : r0.toNat = j
  have hj2 : j ≤ 2 := by omega
  clear hj r1 r2
  intro pa n2 pvs T2 l2 B2 hpa hps
  refine b_cons (s_asg (e_join (fun v n' => ∃ r t N', v = .int r t ∧ Bw d st T2 n' N' L ∧ ((r = -1 ∧ N' = N + j) ∨ (r = N + j + 1 ∧ N' = N + j + 1))) ?_ ?_))
  · refine e_ite (t_cmp ?_)
    repeat' walk_at "st"
    refine ⟨kp_law_draw, draw_use B2 (by decide) (by decide) fun r1 t1 n3 _ _ B3 => ?_⟩
    repeat' walk_at "st"
    refine ok_eq_int ⟨_, rfl, ?_⟩
    cases r1 == 3
    · repeat' walk_at "st"
      refine neg_one fun t => ⟨-1, _, _, rfl, B3, .inl ⟨rfl, rfl⟩⟩
    · repeat' walk_at "st"
      refine ⟨kp_law_new, OK.less (new0_ok (k := 0) B3) (by omega) |>.mono ?_⟩
      rintro _ n4 ⟨t, rfl, B4⟩
      exact ⟨_, _, _, rfl, B4, .inr ⟨rfl, rfl⟩⟩
  · rintro _ n3 ⟨r, tr, N3, rfl, B3, hr⟩
    have hN0 := B.n0
    have hNr : (r = -1 ∧ N3 = N + j) ∨ (0 ≤ r ∧ r = N + j + 1 ∧ N3 = N + j + 1) := hr.imp id fun q => ⟨by omega, q⟩
    clear hr
    have hps3 : IntsAre pvs (fresh N j) := hps
    have hlj : (fresh N j).length = j := fresh_len N j
    obtain ⟨ekn, hkn⟩ := hkn
    obtain ⟨epa, hpa⟩ := hpa
    have hkl := hK.length
    have hpl := hps.length
    repeat' walk_at "st"
    refine ok_add_list (B3.sub _ (l2 _ hkn)) (B3.sub _ hpa) (zl (by omega)) fun a1 ha1 => ?_
    have B4 := B3.alloc (o := listOf (kvs ++ pvs).toArray 0) ha1
    refine e_join (fun v n' => ∃ a T' us, v = .ref a ∧ Le ((a1, listOf (kvs ++ pvs).toArray 0) :: T2) T' ∧ Bw d st T' n' N3 L ∧ LsAt T' a us ∧ IntsAre us (if 0 ≤ r then [r] else [])) ?_ ?_
    · refine e_ite (t_cmp ?_)
      repeat' walk_at "st"
      refine ok_ge_int ⟨_, rfl, ?_⟩
      by_cases h0 : 0 ≤ r
      · simp only [h0, decide_true]
        repeat' walk_at "st"
        refine ⟨zl (by simp), fun a2 ha2 => ⟨_, _, _, rfl, Le.cons, B4.alloc ha2, ⟨_, .head _⟩, .cons _ _ .nil⟩⟩
      · simp only [h0, decide_false]
        repeat' walk_at "st"
        refine ⟨zl (by simp), fun a2 ha2 => ⟨_, _, _, rfl, Le.cons, B4.alloc ha2, ⟨_, .head _⟩, .nil⟩⟩
    · rintro _ n5 ⟨a2, T5, us, rfl, l5, B5, ⟨e5, h5⟩, hus⟩
      have hul := hus.length
      have hul2 : (if 0 ≤ r then [r] else [] : List Int).length ≤ 1 := by split <;> simp
      refine ok_add_list (B5.sub _ (l5 _ (.head _))) (B5.sub _ h5) (zl (by simp; omega)) fun a6 ha6 => ?_
      have B6 := B5.alloc (o := listOf ((kvs ++ pvs) ++ us).toArray 0) ha6
      repeat' walk_at "st"
      refine ⟨kp_law_new, OK.less (new1_ok (k := 0) B6) (by omega) |>.mono ?_⟩
      rintro _ n7 ⟨tl, rfl, B7⟩
      have hI : IntsAre ((kvs ++ pvs) ++ us) (K ++ bindsOf (fresh N j) r) := by
        unfold bindsOf
        rw [← List.append_assoc]
        exact (hK.append hps).append hus
      have hbm : ∀ x ∈ bindsOf (fresh N j) r, N < x ∧ x ≤ N3 := fun x hx => by
        unfold bindsOf at hx
        rcases List.mem_append.mp hx with hx | hx
        · have := mem_fresh hx; omega
        · by_cases h0 : 0 ≤ r
          · simp [h0] at hx; omega
          · simp [h0] at hx
      have hbl : (bindsOf (fresh N j) r).length ≤ 3 := by
        unfold bindsOf
        rw [List.length_append]; omega
      repeat' walk_at "st"
      refine ok_sub fun td => ?_
      repeat' walk_at "st"
      refine ⟨kp_law_node_of, (hN d st _ n7 N3 (L + 1) ((L + 1) :: c) _ a6 _ (deep - 1) td B7 ⟨_, .head _⟩ hI ?_ (by omega) (by omega) ?_ ?_ (by omega)).mono ?_⟩
      · rw [List.length_append]; omega
      · intro x hx
        rcases List.mem_append.mp hx with hx | hx
        · have := hKN x hx; omega
        · exact (hbm x hx).2
      · intro x hx
        rcases List.mem_cons.mp hx with rfl | hx
        · omega
        · have := hcL x hx; omega
      rintro y n8 M
      obtain ⟨T8, N8, L8, E, l8, B8, m1, m2, m3, t8, s8, z8⟩ := M
      refine ⟨kpc_Lambda, OK.less (k := κ0 + 9) (j := 2) (new_Lambda (k := 0) fun x dx es ep hx hdx hne F hle => ?_) (by omega)⟩
      have B9 := (B8.alloc (o := dictOf es ep) hdx).alloc (a := x) (o := instObj 283 dx) (fun q => by
        rcases List.mem_cons.mp q with q | q
        · exact hne q
        · exact hx q)
      have l9 : Le T8 ((x, instObj 283 dx) :: (dx, dictOf es ep) :: T8) := Le.cons.trans Le.cons
      obtain ⟨ay, ty, ey⟩ : ∃ ay, y = .ref ay := by
        cases h with
        | zero => exact t8.elim
        | succ h => obtain ⟨a, _, _, _, e, _⟩ := t8; exact ⟨a, e⟩
      have hI2 : Le T2 T8 := fun p hp => l8 p (.tail _ (l5 p (.tail _ hp)))
      refine hQ _ _ ⟨_, N8, L8, x, L + 1, fresh N j, r, .ref ay, E, rfl, (l2.trans hI2).trans l9, B9, by omega, by omega, by omega, ?_, t8.mono l9 (Nat.le_refl _), ?_, ⟨by omega, by omega⟩, by omega, z8⟩
      · exact ⟨_, _, pa, pvs, ay, rfl, ⟨dx, es, ep, .head _, .tail _ (.head _), F, hle⟩, ⟨epa, l9 _ (hI2 _ hpa)⟩, hps, by omega⟩
      · refine s8.lam rfl rfl ?_ ?_ ?_ ?_ hbl ?_ ?_ ?_ ?_
        · unfold Iv; omega
        · intro hm; have := hcL _ hm; omega
        · intro x hx; have := hcL x hx; unfold Iv; omega
        · intro x hx; have := hbm x hx; unfold Iv; omega
        · intro x; unfold Iv; omega
        · intro x hx; have := hbm x hx; unfold Iv; omega
        · intro x; unfold Iv; omega
        · unfold Iv; omega
/-! Bld3 -/
inductive InstB (d st : Addr) (T n' : Led) (N L : Int) (x C : Addr) (fs : List (Str × Value)) : Prop
  | mk (T' : Led) (h1 : Le T T') (h2 : Bw d st T' n' N L) (h3 : Inst T' x C fs)
theorem Bw.inst {d st x dx C : Addr} {T n : Led} {N L : Int} {es : List DictEntry} {ep : Nat} {fs : List (Str × Value)} (B : Bw d st T n N L) (hx : x ∉ keys n) (hdx : dx ∉ keys n) (hne : x ≠ dx) (F : FieldsAre es fs) (hle : es.length ≤ 100) :
    InstB d st T ((x, instObj C dx) :: (dx, dictOf es ep) :: n) N L x C fs :=
  ⟨(x, instObj C dx) :: (dx, dictOf es ep) :: T, Le.cons.trans Le.cons, (B.alloc hdx).alloc (fun q => by
    rcases List.mem_cons.mp q with q | q
    · exact hne q
    · exact hx q), dx, es, ep, .head _, .tail _ (.head _), F, hle⟩
theorem made_node {d st x : Addr} {T0 T' n' : Led} {c K : List Int} {N L N' L' : Int} {b h z H : Nat} {kd : Kd} {vs : List Value} {Es : List (List Ev)} (l0 : Le T0 T') (B : Bw d st T' n' N' L') (NA : NodeAt T' x vs kd) (A : All2 (Tr T' h (chainIn kd c)) vs Es)
    (S : Sub c K (Iv N N') (Iv L L') (⟨c, kd, opOf Es, vs.length⟩ :: Es.flatten)) (h1 : N ≤ N') (h2 : N' ≤ N + b) (h3 : L ≤ L') (hz : Es.flatten.length + 1 ≤ z) (hh : h + 1 ≤ H) : Made d st T0 c K N L b H z (.ref x) n' :=
  ⟨T', N', L', _, l0, B, h1, h2, h3, Tr.mono (Le.refl _) hh ⟨x, kd, vs, Es, rfl, NA, A, rfl⟩, S, by simpa using hz⟩
theorem Sub.top {c K : List Int} {N N' L L' : Int} {E : List Ev} {e : Ev} (S : Sub c K (Iv N N') (Iv L L') E) (he : e.c = c) (hl : e.lamOf = none) (hb : e.binds = []) (ht : ∀ l, e.letOf = some l → Iv L L' l) (hu : ∀ x, e.useOf = some x → x ∈ K) (hc : ∀ x ∈ c, x ≤ L) : Sub c K (Iv N N') (Iv L L') (e :: E) :=
  S.cons he hl hb ht hu fun x hx => by have := hc x hx; unfold Iv; omega
theorem isLet_some {op : Kd} {m : Nat} {l : Int} (h : isLet op m = some l) : ∃ ps r, op = .lam l ps r := by
  cases op with
  | lam l' ps r =>
    have h : (if r < 0 ∧ ps.length = m then some l' else none) = some l := h
    by_cases q : r < 0 ∧ ps.length = m
    · rw [if_pos q] at h; cases h; exact ⟨_, _, rfl⟩
    · rw [if_neg q] at h; cases h
  | _ => cases h
theorem let_in {c K : List Int} {N L : Int → Prop} {Es : List (List Ev)} (S : Sub c K N L Es.flatten) {m : Nat} {l : Int} (h : isLet (opOf Es) m = some l) : L l := by
  obtain ⟨ps, r, e⟩ := isLet_some h
  match Es, S, e with
  | (e0 :: E0) :: Es, S, e => exact S.lab e0 (by simp) l (by unfold Ev.lamOf; rw [show e0.kd = Kd.lam l ps r from e])
  | [] :: Es, S, e => cases e
  | [], S, e => cases e
theorem pick_from1 (vs : List Value) : slicePick vs.toArray (some 1) none none = (vs.drop 1).toArray := by
  have e : sliceBounds (some 1) none none vs.toArray.size = (((min 1 vs.toArray.size : Nat) : Int), ((vs.toArray.size : Nat) : Int), 1) := by
    simp only [sliceBounds, Option.getD_none, show (1 : Int) > 0 by decide, if_true, if_neg (show ¬ ((1 : Int) < 0) by omega)]
    congr 1
    omega
  rw [kmk_pick_nat _ e]
  show ((vs.drop (min 1 vs.toArray.size)).take (vs.toArray.size - min 1 vs.toArray.size)).toArray = _
  rw [List.size_toArray, kmk_drop_min, List.take_of_length_le (by rw [List.length_drop]; omega)]

theorem Row.last {c K : List Int} {n0 l0 n1 l1 : Int} {Es : List (List Ev)} (R : Row c K n0 l0 n1 l1 Es) : ∀ E ∈ Es.getLast?, E.length ≤ Es.flatten.length := by
  intro E hE
  obtain ⟨ys, rfl⟩ := List.getLast?_eq_some_iff.mp hE
  simp
theorem Tr.isRef {T : Led} {h : Nat} {c : List Int} {v : Value} {E : List Ev} (t : Tr T h c v E) : ∃ a, v = .ref a := by
  cases h with
  | zero => exact t.elim
  | succ h => obtain ⟨a, _, _, _, e, _⟩ := t; exact ⟨a, e⟩

theorem made_leaf {d st x : Addr} {T0 T' n' : Led} {c K : List Int} {N L : Int} {b z H : Nat} {kd : Kd} (l0 : Le T0 T') (B : Bw d st T' n' N L) (NA : NodeAt T' x [] kd) (h1 : Ev.lamOf ⟨c, kd, .const, 0⟩ = none) (h2 : Ev.binds ⟨c, kd, .const, 0⟩ = []) (h3 : Ev.letOf ⟨c, kd, .const, 0⟩ = none) (h4 : ∀ l, Ev.letOf ⟨c, kd, .const, 0⟩ = some l → Iv L L l)
    (hu : ∀ y, Ev.useOf ⟨c, kd, .const, 0⟩ = some y → y ∈ K) (hc : ∀ x ∈ c, x ≤ L) (hH : 1 ≤ H) (hz : 1 ≤ z) : Made d st T0 c K N L b H z (.ref x) n' :=
  made_node (Es := []) (h := 0) l0 B NA .nil (Sub.nil.top rfl h1 h2 h4 hu hc) (Int.le_refl _) (by omega) (Int.le_refl _) hz hH
theorem Made.isRef {d st : Addr} {T : Led} {c K : List Int} {N L : Int} {b h z : Nat} {v : Value} {n' : Led} (M : Made d st T c K N L b h z v n') : ∃ a, v = .ref a := by
  obtain ⟨_, _, _, _, _, _, _, _, _, t, _, _⟩ := M
  exact t.isRef
/-- one node more around what was made -/
theorem Made.wrap {d st x dx y C : Addr} {T n : Led} {c K : List Int} {N L : Int} {b h z B H Z : Nat} {kd : Kd} {es : List DictEntry} {ep : Nat} {fs : List (Str × Value)} (M : Made d st T c K N L b h z (.ref y) n) (hx : x ∉ keys n) (hdx : dx ∉ keys n) (hne : x ≠ dx) (F : FieldsAre es fs) (hle : es.length ≤ 100)
    (hch : chainIn kd c = c) (NA : ∀ {T'}, Inst T' x C fs → NodeAt T' x [.ref y] kd) (h1 : ∀ op, Ev.lamOf ⟨c, kd, op, 1⟩ = none) (h2 : ∀ op, Ev.binds ⟨c, kd, op, 1⟩ = []) (h3 : ∀ op, Ev.letOf ⟨c, kd, op, 1⟩ = none) (h4 : ∀ op l, Ev.letOf ⟨c, kd, op, 1⟩ = some l → False)
    (hu : ∀ op y, Ev.useOf ⟨c, kd, op, 1⟩ = some y → y ∈ K) (hc : ∀ x ∈ c, x ≤ L) (hb : b ≤ B) (hH : h + 1 ≤ H) (hz : z + 1 ≤ Z) : Made d st T c K N L B H Z (.ref x) ((x, instObj C dx) :: (dx, dictOf es ep) :: n) := by
  obtain ⟨T7, N7, L7, E, l7, B7, k1, k2, k3, t7, s7, z7⟩ := M
  obtain ⟨T8, l8, B8, I⟩ := B7.inst (C := C) (ep := ep) hx hdx hne F hle
  exact made_node (Es := [E]) (h := h) (l7.trans l8) B8 (NA I) (.cons (by rw [hch]; exact t7.mono l8 (Nat.le_refl _)) .nil) (Sub.top (by simpa using s7) rfl (h1 _) (h2 _) (fun l e => (h4 _ l e).elim) (hu _) hc) k1 (by omega) k3 (by simp; omega) hH
theorem mem_len {E : List Ev} : ∀ {Es : List (List Ev)}, E ∈ Es → E.length ≤ Es.flatten.length
  | F :: Es, h => by
    rw [List.flatten_cons, List.length_append]
    rcases List.mem_cons.mp h with rfl | h
    · omega
    · have := mem_len h; omega
set_option maxHeartbeats 1000000 in
theorem node_ok {w : World} {κ : Nat} {dd : Int} {b h z b2 g2 z2 B H Z : Nat} (hκ : 25 ≤ κ) (hN : 0 < dd → NodeSpec w κ (dd - 1) b h z) (hL : 0 < dd → LamSpec w κ dd (b + 3) h z) (hL2 : 0 < dd → LamSpec w κ (dd - 1) (b2 + 3) g2 z2)
    (hs : 0 < dd → 3 + 3 * b ≤ B ∧ 8 + 2 * b2 + b ≤ B ∧ h + 2 ≤ H ∧ g2 + 2 ≤ H ∧ 6 * z + 4 ≤ Z ∧ 2 * (z2 + 1) + z + 1 ≤ Z) (hH1 : 1 ≤ H) (hZ3 : 1 ≤ Z) : NodeSpec w (κ + 1) dd B H Z := by
  intro d st T n N L c K kn kvs deep t B0 hkn hK hKl hd0 hd2 hKN hcL hdeep
  obtain ⟨κ0, rfl⟩ : ∃ j, κ = j + 10 := ⟨κ - 10, by omega⟩
  obtain ⟨ekn, hkn⟩ := hkn
  have hkl := hK.length
  have h8 : 8 ≤ κ0 + 10 := by omega
  have hK100 : K.length < 100 := by omega
  have hcc : ∀ {L5 : Int}, L ≤ L5 → ∀ x ∈ c, x ≤ L5 := fun h x hx => Int.le_trans (hcL x hx) h
  have hkk : ∀ {N5 : Int}, N ≤ N5 → ∀ x ∈ K, x ≤ N5 := fun h x hx => Int.le_trans (hKN x hx) h
  refine OK.post fun Q hQ => ((call_law_node_of ?_).ok)
  unfold ir_law_node_of
  refine b_cons (s_asg (e_join (fun v n' => ∃ r t, v = .int r t ∧ 0 ≤ r ∧ r < 12 ∧ (0 < deep ∨ r < 3) ∧ Bw d st T n' N L) ?_ ?_))
  · refine e_ite (t_cmp ?_)
    repeat' walk_at "st"
    refine ok_gt_int ⟨_, rfl, ?_⟩
    by_cases h0 : 0 < deep
    · simp only [h0, decide_true]
      repeat' walk_at "st"
      refine ⟨kp_law_draw, draw_use (k := κ0 + 1) B0 (by decide) (by decide) fun r0 t0 n1 r1 r2 B1 => ?_⟩
      exact ⟨_, _, rfl, r1, r2, by first | exact .inl h0 | exact .inl trivial, B1⟩
    · simp only [h0, decide_false]
      repeat' walk_at "st"
      refine ⟨kp_law_draw, draw_use (k := κ0 + 1) B0 (by decide) (by decide) fun r0 t0 n1 r1 r2 B1 => ?_⟩
      exact ⟨_, _, rfl, r1, by omega, .inr r2, B1⟩
  rintro _ n1 ⟨r, tr, rfl, hr0, hr1, hr2, B1⟩
  clear B0
  -- a constant
  refine b_cons (s_ite (t_join (fun q n' => Bw d st T n' N L ∧ (q = false → r ≠ 0 ∧ (r = 1 → K ≠ []))) ?_ ?_))
  · refine t_or (t_cmp ?_)
    repeat' walk_at "st"
    refine ok_eq_int ⟨_, rfl, ?_⟩
    by_cases h0 : r = 0
    · simp only [h0, beq_self_eq_true]
      exact ⟨B1, nofun⟩
    · have h0' : (r == 0) = false := by simpa using h0
      simp only [h0']
      refine t_and (t_cmp ?_)
      repeat' walk_at "st"
      refine ok_eq_int ⟨_, rfl, ?_⟩
      by_cases h1 : r = 1
      · simp only [h1, beq_self_eq_true]
        refine t_cmp ?_
        repeat' walk_at "st"
        refine ⟨Nat.zero_le _, fun a ha => ?_⟩
        refine ok_eq_ints (ms := []) (us := []) h8 (.tail _ (B1.sub _ hkn)) (.head _) hK .nil ⟨_, rfl, B1.alloc' ha, fun q => ⟨by decide, fun _ => by simpa using q⟩⟩
      · have h1' : (r == 1) = false := by simpa using h1
        simp only [h1']
        exact ⟨B1, fun _ => ⟨h0, fun q => absurd q h1⟩⟩
  rintro q n2 ⟨B2, hq⟩
  cases q with
  | true =>
    repeat' walk_at "st"
    refine ⟨kp_law_draw, draw_use (k := κ0 + 1) B2 (by decide) (by decide) fun r3 t3 n3 _ _ B3 => ?_⟩
    repeat' walk_at "st"
    refine ⟨kpc_Const, new_Const (k := κ0 + 8) fun x dx es ep hx hdx hne F hle => ?_⟩
    obtain ⟨T', l', B', I⟩ := B3.inst (C := 66) (ep := ep) hx hdx hne F hle
    exact hQ _ _ (made_leaf (kd := .const) l' B' ⟨rfl, _, I⟩ rfl rfl rfl nofun nofun hcL hH1 hZ3)
  | false =>
  obtain ⟨h0, hK1⟩ := hq rfl
  refine b_nil ?_
  -- a local
  refine b_cons (s_ite (t_cmp ?_))
  repeat' walk_at "st"
  refine ok_eq_int ⟨_, rfl, ?_⟩
  by_cases h1 : r = 1
  · simp only [h1, beq_self_eq_true]
    repeat' walk_at "st"
    refine ⟨kp_law_one, (one_ok (k := κ0) B2 ⟨_, hkn⟩ hK (hK1 h1) hK100).mono ?_⟩
    rintro _ n3 ⟨x3, t3, rfl, hx3, B3⟩
    repeat' walk_at "st"
    refine ⟨kpc_Local, new_Local (k := κ0 + 8) fun x dx es ep hx hdx hne F hle => ?_⟩
    obtain ⟨T', l', B', I⟩ := B3.inst (C := 85) (ep := ep) hx hdx hne F hle
    exact hQ _ _ (made_leaf (kd := .loc x3) l' B' ⟨rfl, _, I⟩ rfl rfl rfl nofun (fun y e => Option.some.inj e ▸ hx3) hcL hH1 hZ3)
  have h1' : (r == 1) = false := by simpa using h1
  simp only [h1']
  refine b_nil ?_
  -- a global
  refine b_cons (s_ite (t_cmp ?_))
  repeat' walk_at "st"
  refine ok_eq_int ⟨_, rfl, ?_⟩
  by_cases h2 : r = 2
  · simp only [h2, beq_self_eq_true]
    repeat' walk_at "st"
    refine ⟨kp_law_draw, draw_use (k := κ0 + 1) B2 (by decide) (by decide) fun x3 t3 n3 _ _ B3 => ?_⟩
    repeat' walk_at "st"
    refine ⟨kpc_Global, new_Global (k := κ0 + 8) fun x dx es ep hx hdx hne F hle => ?_⟩
    obtain ⟨T', l', B', I⟩ := B3.inst (C := 104) (ep := ep) hx hdx hne F hle
    exact hQ _ _ (made_leaf (kd := .glob x3) l' B' ⟨rfl, _, I⟩ rfl rfl rfl nofun nofun hcL hH1 hZ3)
  have h2' : (r == 2) = false := by simpa using h2
  simp only [h2']
  refine b_nil ?_
  have hdp : 0 < deep := by omega
  have hdd : 0 < dd := by omega
  replace hN := hN hdd
  replace hL := hL hdd
  replace hL2 := hL2 hdd
  obtain ⟨hB, hB2, hH, hH2, hZ, hZ2⟩ := hs hdd
  clear hq hK1 hr2
  have hb1 : b ≤ B := by omega
  have hh1 : h + 1 ≤ H := by omega
  have hz1 : z + 1 ≤ Z := by omega
  have c1 : (K.length : Int) ≤ 60 - 10 * (deep - 1) := by omega
  have c2 : -1 ≤ deep - 1 := by omega
  have c3 : deep - 1 ≤ 2 := by omega
  have c4 : deep - 1 ≤ dd - 1 := by omega
  -- a lambda
  refine b_cons (s_ite (t_cmp ?_))
  repeat' walk_at "st"
  refine ok_eq_int ⟨_, rfl, ?_⟩
  by_cases h3 : r = 3
  · simp only [h3, beq_self_eq_true]
    repeat' walk_at "st"
    refine ⟨kp_law_lam, (hL d st T n2 N L c K kn kvs deep t B2 ⟨_, hkn⟩ hK (by omega) (by omega) hd2 hKN hcL hdeep).mono ?_⟩
    intro v n3 M
    exact hQ _ _ (M.made.mono (by omega) (by omega) (by omega))
  have h3' : (r == 3) = false := by simpa using h3
  simp only [h3']
  refine b_nil ?_
  -- locals that hold lambdas
  refine b_cons (s_ite (t_cmp ?_))
  repeat' walk_at "st"
  refine ok_eq_int ⟨_, rfl, ?_⟩
  by_cases h4 : r = 4
  · simp only [h4, beq_self_eq_true]
    refine b_cons (s_asg (nums_comp (T := T) (N := N) (L := L) (d := d) (by with_unfolding_all rfl) ?_))
    repeat' walk_at "st"
    refine ⟨kp_law_draw, draw_use (k := κ0 + 1) B2 (by decide) (by decide) fun r4 t4 n3 r5 r6 B3 => ?_⟩
    refine ok_add fun t5 => ?_
    refine ⟨(1 + r4).toNat, t5, by rw [Int.toNat_of_nonneg (by omega)], by omega, B3, ?_⟩
    generalize hj : (1 + r4).toNat = j
    have hj2 : j ≤ 2 := by omega
    clear hj r5 r6
    intro pa n4 pvs T4 l4 B4 hpa hps
    obtain ⟨epa, hpa⟩ := hpa
    have hpl := hps.length
    have hlj : (fresh N j).length = j := fresh_len N j
    have hKn : ∀ x ∈ K ++ fresh N j, x ≤ N + j := fun x hx => by
      rcases List.mem_append.mp hx with hx | hx
      · have := hKN x hx; omega
      · exact (mem_fresh hx).2
    have len1 : ((K ++ fresh N j).length : Int) ≤ 65 - 10 * (deep - 1) := by rw [List.length_append]; omega
    have len2 : ((K ++ fresh N j).length : Int) ≤ 60 - 10 * (deep - 1) := by rw [List.length_append]; omega
    refine b_cons (s_asg (row_comp (T := T4) (N := N + j) (L := L) (c := c) (K := K ++ fresh N j) (b := b2 + 3) (h := g2 + 1) (z := z2 + 1) (d := d) (st := st) ?_ ?_))
    · intro y T5 n5 N5 L5 l5 hN5 hL5 B5
      repeat' walk_at "st"
      refine ok_add_list (B5.sub _ (l5 _ (l4 _ hkn))) (B5.sub _ (l5 _ hpa)) (zl (by omega)) fun a6 ha6 => ?_
      have B6 := B5.alloc (o := listOf (kvs ++ pvs).toArray 0) ha6
      repeat' walk_at "st"
      refine ok_sub fun td => ?_
      repeat' walk_at "st"
      refine ⟨kp_law_lam, (hL2 d st _ _ N5 L5 c _ a6 _ (deep - 1) td B6 ⟨_, .head _⟩ (hK.append hps) len1 (Int.sub_nonneg_of_le hdp) c3 (fun x hx => Int.le_trans (hKn x hx) hN5) (hcc hL5) c4).mono ?_⟩
      intro v n7 M
      obtain ⟨T', N', L', E, a1, a2, a3, a4, a5, a6, a7, a8⟩ := M.made
      exact ⟨T', N', L', E, Le.cons.trans a1, a2, a3, a4, a5, a6, a7, a8⟩
    · repeat' walk_at "st"
      refine ⟨.list pa pvs.toArray epa, T4, Le.refl _, rfl, hpa, trivial, by show pvs.toArray.size ≤ 3; simp; omega, B4, ?_⟩
      intro la n5 T5 ys N5 L5 Es l5 B5 ⟨ela, hla⟩ A5 R5 hn5 hz5 hy5
      have hc5 : (Src.list pa pvs.toArray epa).cnt = j := by show pvs.toArray.size = j; simp; omega
      rw [hc5] at hn5 hz5 hy5
      have m1 : j * (b2 + 3) ≤ 2 * (b2 + 3) := Nat.mul_le_mul_right _ hj2
      have m2 : j * (z2 + 1) ≤ 2 * (z2 + 1) := Nat.mul_le_mul_right _ hj2
      have hle5 := R5.le
      repeat' walk_at "st"
      refine ok_add_list (B5.sub _ (l5 _ (l4 _ hkn))) (B5.sub _ (l5 _ hpa)) (zl (by omega)) fun a6 ha6 => ?_
      have B6 := B5.alloc (o := listOf (kvs ++ pvs).toArray 0) ha6
      repeat' walk_at "st"
      refine ok_sub fun td => ?_
      repeat' walk_at "st"
      refine ⟨kp_law_node_of, (hN d st _ _ N5 L5 c _ a6 _ (deep - 1) td B6 ⟨_, .head _⟩ (hK.append hps) len2 c2 c3 (fun x hx => Int.le_trans (hKn x hx) hle5.1) (hcc hle5.2) c4).mono ?_⟩
      intro v n7 M
      obtain ⟨T7, N7, L7, E, l7, B7, k1, k2, k3, t7, s7, z7⟩ := M
      obtain ⟨ay, rfl⟩ := t7.isRef
      repeat' walk_at "st"
      refine ⟨kpc_Fix, new_Fix (k := κ0 + 8) fun x dx es ep hx hdx hne F hle => ?_⟩
      obtain ⟨T8, l8, B8, I⟩ := B7.inst (C := 415) (ep := ep) hx hdx hne F hle
      have l58 : Le T5 T8 := (Le.cons.trans l7).trans l8
      refine hQ _ _ (made_node (kd := .fix (fresh N j)) (Es := Es ++ [E]) (h := max (g2 + 1) h) ((l4.trans l5).trans l58) B8 ⟨pa, pvs, la, ys, ay, rfl, I, ⟨epa, l58 _ (l5 _ hpa)⟩, hps, ⟨ela, l58 _ hla⟩, by omega, by omega⟩ ?_ ?_ (by omega) (by omega) (by omega) ?_ (by omega))
      · exact (A5.mono fun _ _ t => t.mono l58 (Nat.le_max_left _ _)).append (.cons (t7.mono l8 (Nat.le_max_right _ _)) .nil)
      · have S5 := R5.sub hcL
        have S7 := S5.next s7 hle5.1 k1 hle5.2 k3 hcL
        refine Sub.fix (nums := fresh N j) (N := Iv (N + j) N7) (by rw [List.flatten_append]; simpa using S7) rfl rfl (fun x hx => by have := hcL x hx; unfold Iv; omega) (fun x hx => by have := mem_fresh hx; unfold Iv; omega) (by omega) (fun x => by unfold Iv; omega) fun x hx => by have := mem_fresh hx; unfold Iv; omega
      · rw [List.flatten_append, List.length_append]
        simp only [List.flatten_cons, List.flatten_nil, List.append_nil]
        omega
  have h4' : (r == 4) = false := by simpa using h4
  simp only [h4']
  refine b_nil ?_
  -- a local is set
  refine b_cons (s_ite (t_join (fun q n' => Bw d st T n' N L ∧ (q = true → K ≠ [])) ?_ ?_))
  · refine t_and (t_cmp ?_)
    repeat' walk_at "st"
    refine ok_eq_int ⟨_, rfl, ?_⟩
    by_cases h5 : r = 5
    · simp only [h5, beq_self_eq_true]
      refine t_cmp ?_
      repeat' walk_at "st"
      refine ⟨Nat.zero_le _, fun a ha => ?_⟩
      refine ok_ne_ints (ms := []) (us := []) h8 (.tail _ (B2.sub _ hkn)) (.head _) hK .nil ⟨_, rfl, B2.alloc' ha, fun q => by simpa using q⟩
    · have h5' : (r == 5) = false := by simpa using h5
      simp only [h5']
      exact ⟨B2, nofun⟩
  rintro q n2 ⟨B2, hq⟩
  cases q with
  | true =>
    repeat' walk_at "st"
    refine ⟨kp_law_one, (one_ok (k := κ0) B2 ⟨_, hkn⟩ hK (hq rfl) hK100).mono ?_⟩
    rintro _ n3 ⟨x3, t3, rfl, hx3, B3⟩
    repeat' walk_at "st"
    refine ok_sub fun td => ?_
    repeat' walk_at "st"
    refine ⟨kp_law_node_of, (hN d st _ _ N L c _ kn _ (deep - 1) td B3 ⟨_, hkn⟩ hK c1 c2 c3 hKN hcL c4).mono ?_⟩
    intro v n7 M
    obtain ⟨ay, rfl⟩ := M.isRef
    repeat' walk_at "st"
    exact ⟨kpc_SetLocal, new_SetLocal (k := κ0 + 8) fun x dx es ep hx hdx hne F hle => hQ _ _ (M.wrap hx hdx hne F hle (kd := .setl x3) rfl (fun I => ⟨_, ay, rfl, I⟩) (fun _ => rfl) (fun _ => rfl) (fun _ => rfl) (fun _ => nofun) (fun _ y e => Option.some.inj e ▸ hx3) hcL hb1 hh1 hz1)⟩
  | false =>
  refine b_nil ?_
  -- a global is set
  refine b_cons (s_ite (t_cmp ?_))
  repeat' walk_at "st"
  refine ok_lt_int ⟨_, rfl, ?_⟩
  by_cases h6 : r < 7
  · simp only [h6, decide_true]
    repeat' walk_at "st"
    refine ⟨kp_law_draw, draw_use (k := κ0 + 1) B2 (by decide) (by decide) fun x3 t3 n3 _ _ B3 => ?_⟩
    repeat' walk_at "st"
    refine ok_sub fun td => ?_
    repeat' walk_at "st"
    refine ⟨kp_law_node_of, (hN d st _ _ N L c _ kn _ (deep - 1) td B3 ⟨_, hkn⟩ hK c1 c2 c3 hKN hcL c4).mono ?_⟩
    intro v n7 M
    obtain ⟨ay, rfl⟩ := M.isRef
    repeat' walk_at "st"
    exact ⟨kpc_SetGlobal, new_SetGlobal (k := κ0 + 8) fun x dx es ep hx hdx hne F hle => hQ _ _ (M.wrap hx hdx hne F hle (kd := .setg x3) rfl (fun I => ⟨_, ay, rfl, I⟩) (fun _ => rfl) (fun _ => rfl) (fun _ => rfl) (fun _ => nofun) (fun _ => nofun) hcL hb1 hh1 hz1)⟩
  simp only [h6, decide_false]
  refine b_nil ?_
  -- a let
  refine b_cons (s_ite (t_cmp ?_))
  repeat' walk_at "st"
  refine ok_eq_int ⟨_, rfl, ?_⟩
  by_cases h7 : r = 7
  · simp only [h7, beq_self_eq_true]
    repeat' walk_at "st"
    refine ⟨kp_law_lam, (hL d st T n2 N L c K kn kvs deep t B2 ⟨_, hkn⟩ hK (by omega) (by omega) hd2 hKN hcL hdeep).mono ?_⟩
    intro v n3 M
    obtain ⟨T3, N3, L3, a, l, ps, rr, y, E, rfl, l3, B3, k1, k2, k3, NA3, t3, s3, hl3, hps3, z3⟩ := M
    repeat' walk_at "st"
    refine row_comp (T := T3) (N := N3) (L := L3) (c := c) (K := K) (b := b) (h := h) (z := z) (d := d) (st := st) ?_ ?_
    · intro y T5 n5 N5 L5 l5 hN5 hL5 B5
      repeat' walk_at "st"
      refine ok_sub fun td => ?_
      repeat' walk_at "st"
      refine ⟨kp_law_node_of, (hN d st _ _ N5 L5 c _ kn _ (deep - 1) td B5 ⟨_, l5 _ (l3 _ hkn)⟩ hK c1 c2 c3 (hkk (Int.le_trans k1 hN5)) (hcc (Int.le_trans k3 hL5)) c4)⟩
    · repeat' walk_at "st"
      obtain ⟨_, _, pl, pvs, y', ey, I3, ⟨epl, hpl⟩, hpi, _⟩ := id NA3
      cases ey
      have hpll := hpi.length
      refine ok_attr (I3.mono B3.sub) (at_283_params _) rfl rfl ?_
      refine ⟨.list pl pvs.toArray epl, T3, Le.refl _, rfl, hpl, trivial, by show pvs.toArray.size ≤ 3; simp; omega, B3, ?_⟩
      intro la n5 T5 ys N5 L5 Es l5 B5 ⟨ela, hla⟩ A5 R5 hn5 hz5 hy5
      have hc5 : (Src.list pl pvs.toArray epl).cnt = ps.length := by show pvs.toArray.size = _; simp; omega
      rw [hc5] at hn5 hz5 hy5
      have m1 : ps.length * b ≤ 2 * b := Nat.mul_le_mul_right _ hps3
      have m2 : ps.length * z ≤ 2 * z := Nat.mul_le_mul_right _ hps3
      have hle5 := R5.le
      repeat' walk_at "st"
      refine ⟨kpc_Call, new_Call (k := κ0 + 8) fun x dx es ep hx hdx hne F hle => ?_⟩
      obtain ⟨T8, l8, B8, I⟩ := B5.inst (C := 316) (ep := ep) hx hdx hne F hle
      refine hQ _ _ (made_node (kd := .call) (Es := (⟨c, .lam l ps rr, opOf [E], 1⟩ :: E) :: Es) (h := h + 1) ((l3.trans l5).trans l8) B8 ⟨a, la, ys, rfl, I, ⟨ela, l8 _ hla⟩, by omega⟩ ?_ ?_ (by omega) (by omega) (by omega) ?_ (by omega))
      · refine .cons ?_ (A5.mono fun _ _ t => t.mono l8 (by omega))
        exact (⟨a, .lam l ps rr, [.ref y'], [E], rfl, NA3.mono (l5.trans l8), .cons (t3.mono (l5.trans l8) (Nat.le_refl _)) .nil, by rw [List.flatten_cons, List.flatten_nil, List.append_nil]⟩ : Tr T8 (h + 1) c _ _)
      · have S5 := R5.sub (fun x hx => by have := hcL x hx; omega)
        have S7 := s3.next S5 k1 hle5.1 k3 hle5.2 hcL
        refine Sub.top (by simpa using S7) rfl rfl rfl (fun l' e => ?_) nofun hcL
        obtain ⟨_, _, e2⟩ := isLet_some (op := .lam l ps rr) e
        cases e2
        have := hl3
        unfold Iv at this ⊢
        omega
      · rw [List.flatten_cons, List.length_append, List.length_cons]
        omega
  have h7' : (r == 7) = false := by simpa using h7
  simp only [h7']
  refine b_nil ?_
  -- parts
  refine b_cons (s_asg (row_comp (T := T) (N := N) (L := L) (c := c) (K := K) (b := b) (h := h) (z := z) (d := d) (st := st) ?_ ?_))
  · intro y T5 n5 N5 L5 l5 hN5 hL5 B5
    repeat' walk_at "st"
    refine ok_sub fun td => ?_
    repeat' walk_at "st"
    refine ⟨kp_law_node_of, (hN d st _ _ N5 L5 c _ kn _ (deep - 1) td B5 ⟨_, l5 _ hkn⟩ hK c1 c2 c3 (hkk hN5) (hcc hL5) c4)⟩
  repeat' walk_at "st"
  refine ⟨kp_law_draw, draw_use (k := κ0 + 1) B2 (by decide) (by decide) fun r4 t4 n3 r5 r6 B3 => ?_⟩
  refine ok_add fun t5 => ?_
  repeat' walk_at "st"
  refine ⟨callable_type _, ok_range (j := (1 + r4).toNat) (by omega) (by omega) fun rg ta tb tc hrg hsm => ?_⟩
  generalize hj : (1 + r4).toNat = j at *
  have hj2 : j ≤ 3 := by omega
  have hj0 : 1 ≤ j := by omega
  refine ⟨.range rg j ta tb tc, (rg, rangeOf j ta tb tc) :: T, Le.cons, rfl, .head _, ?_, hj2, B3.alloc hrg, ?_⟩
  · have e : (1 + r4) = (j : Int) := by omega
    rw [e] at hsm; exact hsm
  intro la n5 T5 ys N5 L5 Es l5 B5 ⟨ela, hla⟩ A5 R5 hn5 hz5 hy5
  replace l5 : Le T T5 := Le.cons.trans l5
  have hc5 : (Src.range rg j ta tb tc).cnt = j := rfl
  rw [hc5] at hn5 hz5 hy5
  have m1 : j * b ≤ 3 * b := Nat.mul_le_mul_right _ hj2
  have m2 : j * z ≤ 3 * z := Nat.mul_le_mul_right _ hj2
  have hle5 := R5.le
  have S5 := R5.sub hcL
  have p2 : N5 ≤ N + B := by omega
  have p4 : Es.flatten.length + 1 ≤ Z := by omega
  have p6 : ys.length ≤ 100 := by omega
  have p7 : 0 < ys.length := by omega
  clear hsm r5 r6 hj B3 B2 hc5
  -- a choice
  refine b_cons (s_ite (t_cmp ?_))
  repeat' walk_at "st"
  refine ok_eq_int ⟨_, rfl, ?_⟩
  by_cases h8 : r = 8
  · simp only [h8, beq_self_eq_true]
    obtain ⟨y0, hy0⟩ : ∃ y0, ys[0]? = some y0 := ⟨ys[0], List.getElem?_eq_getElem p7⟩
    obtain ⟨y1, hy1⟩ : ∃ y1, ys.getLast? = some y1 := by
      cases hg : ys.getLast? with
      | none => rw [List.getLast?_eq_none_iff] at hg; subst hg; simp at hy5; omega
      | some y => exact ⟨y, rfl⟩
    obtain ⟨E0, hE0, t0⟩ := A5.at hy0
    obtain ⟨E1, hE1, t1⟩ := A5.at (i := ys.length - 1) (by rw [← List.getLast?_eq_getElem?]; exact hy1)
    rw [A5.length, ← List.getLast?_eq_getElem?] at hE1
    obtain ⟨a0, rfl⟩ := t0.isRef
    obtain ⟨a1, rfl⟩ := t1.isRef
    repeat' walk_at "st"
    refine ok_idx_list (B5.sub _ hla) (by decide) (by decide) hy0 ?_
    repeat' walk_at "st"
    refine neg_one fun tn => ?_
    refine ok_idx_last (B5.sub _ hla) hy1 ?_
    repeat' walk_at "st"
    refine ⟨kpc_Const, new_Const (k := κ0 + 8) fun x dx es ep hx hdx hne F hle => ?_⟩
    obtain ⟨T6, l6, B6, I6⟩ := B5.inst (C := 66) (ep := ep) hx hdx hne F hle
    repeat' walk_at "st"
    refine ⟨kpc_If, new_If (k := κ0 + 8) fun x8 dx8 es8 ep8 hx8 hdx8 hne8 F8 hle8 => ?_⟩
    obtain ⟨T8, l8, B8, I8⟩ := B6.inst (C := 236) (ep := ep8) hx8 hdx8 hne8 F8 hle8
    refine hQ _ _ (made_node (kd := .ite) (Es := [E0, E1, [⟨c, .const, .const, 0⟩]]) (h := h + 1) ((l5.trans l6).trans l8) B8 ⟨a0, a1, x, rfl, I8⟩ ?_ ?_ hle5.1 p2 hle5.2 ?_ hH)
    · refine .cons (t0.mono (l6.trans l8) (Nat.le_succ h)) (.cons (t1.mono (l6.trans l8) (Nat.le_succ h)) (.cons ?_ .nil))
      exact Tr.mono (h := 1) l8 (Nat.le_add_left 1 h) ⟨x, .const, [], [], rfl, ⟨rfl, _, I6⟩, .nil, rfl⟩
    · match Es, hE0, hE1, R5 with
      | E0' :: Es, hE0, hE1, R5 =>
        cases hE0
        have S6 := R5.ends hE1 hcL
        have S7 := S6.next (Sub.nil (c := c) (K := K) (N := Iv N5 N5) (L := Iv L5 L5) |>.top (e := ⟨c, .const, .const, 0⟩) rfl rfl rfl nofun nofun (hcc hle5.2)) hle5.1 (Int.le_refl _) hle5.2 (Int.le_refl _) hcL
        exact Sub.top (by simpa using S7) rfl rfl rfl nofun nofun hcL
    · have q0 := mem_len (List.mem_of_getElem? hE0)
      have q1 := mem_len (List.mem_of_getLast? hE1)
      simp only [List.flatten_cons, List.flatten_nil, List.append_nil, List.length_append, List.length_cons, List.length_nil]
      omega
  have h8' : (r == 8) = false := by simpa using h8
  simp only [h8']
  refine b_nil ?_
  -- a sequence
  refine b_cons (s_ite (t_cmp ?_))
  repeat' walk_at "st"
  refine ok_eq_int ⟨_, rfl, ?_⟩
  by_cases h9 : r = 9
  · simp only [h9, beq_self_eq_true]
    repeat' walk_at "st"
    refine ⟨kpc_Seq, new_Seq (k := κ0 + 8) fun x dx es ep hx hdx hne F hle => ?_⟩
    obtain ⟨T8, l8, B8, I⟩ := B5.inst (C := 349) (ep := ep) hx hdx hne F hle
    exact hQ _ _ (made_node (kd := .seq) (Es := Es) (h := h) (l5.trans l8) B8 ⟨la, I, ⟨ela, l8 _ hla⟩, p6⟩ (A5.mono fun _ _ t => t.mono l8 (Nat.le_refl _)) (Sub.top S5 rfl rfl rfl nofun nofun hcL) hle5.1 p2 hle5.2 p4 hh1)
  have h9' : (r == 9) = false := by simpa using h9
  simp only [h9']
  refine b_nil ?_
  -- a call, a primitive
  refine b_ret ((e_ite (t_cmp ?_)))
  repeat' walk_at "st"
  refine ok_eq_int ⟨_, rfl, ?_⟩
  by_cases h10 : r = 10
  · simp only [h10, beq_self_eq_true]
    obtain ⟨y0, hy0⟩ : ∃ y0, ys[0]? = some y0 := ⟨ys[0], List.getElem?_eq_getElem p7⟩
    obtain ⟨E0, hE0, t0⟩ := A5.at hy0
    obtain ⟨a0, rfl⟩ := t0.isRef
    repeat' walk_at "st"
    refine ok_idx_list (B5.sub _ hla) (by decide) (by decide) hy0 ?_
    repeat' walk_at "st"
    refine e_cutFrom ?_
    repeat' walk_at "st"
    intro ia hia
    refine ok_cutFrom_list (B5.sub _ hla) (zl (by omega)) fun a6 ha6 => ?_
    rw [pick_from1]
    have B6 := B5.alloc (o := listOf (ys.drop 1).toArray 0) ha6
    repeat' walk_at "st"
    refine ⟨kpc_Call, new_Call (k := κ0 + 8) fun x dx es ep hx hdx hne F hle => ?_⟩
    obtain ⟨T8, l8, B8, I⟩ := B6.inst (C := 316) (ep := ep) hx hdx hne F hle
    have l58 := Le.cons.trans l8
    have hys : ys = .ref a0 :: ys.drop 1 := by
      cases ys with
      | nil => cases hy0
      | cons y ys => cases hy0; rfl
    refine hQ _ _ (made_node (kd := .call) (vs := ys) (Es := Es) (h := h) (l5.trans l58) B8 ⟨a0, a6, ys.drop 1, hys, I, ⟨0, l8 _ (.head _)⟩, by rw [List.length_drop]; omega⟩ (A5.mono fun _ _ t => t.mono l58 (Nat.le_refl _)) (Sub.top S5 rfl rfl rfl (fun l' e => let_in S5 (m := ys.length - 1) e) nofun hcL) hle5.1 p2 hle5.2 p4 hh1)
  have h10' : (r == 10) = false := by simpa using h10
  simp only [h10']
  repeat' walk_at "st"
  refine ⟨kpc_Prim, new_Prim (k := κ0 + 8) fun x dx es ep hx hdx hne F hle => ?_⟩
  obtain ⟨T8, l8, B8, I⟩ := B5.inst (C := 382) (ep := ep) hx hdx hne F hle
  exact hQ _ _ (made_node (kd := .prim) (Es := Es) (h := h) (l5.trans l8) B8 ⟨la, _, I, ⟨ela, l8 _ hla⟩, p6⟩ (A5.mono fun _ _ t => t.mono l8 (Nat.le_refl _)) (Sub.top S5 rfl rfl rfl nofun nofun hcL) hle5.1 p2 hle5.2 p4 hh1)

theorem NodeSpec.less {w : World} {κ κ' : Nat} {dd dd' : Int} {b h z : Nat} (S : NodeSpec w κ dd b h z) (hk : κ ≤ κ') (hd : dd' ≤ dd) : NodeSpec w κ' dd' b h z := fun d st T n N L c K kn kvs deep t h1 h2 h3 h4 h5 h6 h7 h8 h9 =>
  (S d st T n N L c K kn kvs deep t h1 h2 h3 h4 h5 h6 h7 h8 (by omega)).less hk
/-- two levels of nodes -/
theorem node0 (w : World) : NodeSpec w 30 0 0 1 1 :=
  node_ok (κ := 29) (b := 0) (b2 := 0) (h := 0) (g2 := 0) (z := 1) (z2 := 0) (by omega) (fun h => absurd h (by omega)) (fun h => absurd h (by omega)) (fun h => absurd h (by omega)) (fun h => absurd h (by omega)) (by omega) (by omega)
theorem lam0 (w : World) : LamSpec w 31 0 3 1 1 := lam_ok (by omega) ((node0 w).less (by omega) (by omega)) (by omega)
theorem lam1 (w : World) : LamSpec w 31 1 3 1 1 := lam_ok (by omega) ((node0 w).less (by omega) (by omega)) (by omega)
theorem LamSpec.less {w : World} {κ κ' : Nat} {dd dd' : Int} {b h z : Nat} (S : LamSpec w κ dd b h z) (hk : κ ≤ κ') (hd : dd' ≤ dd) : LamSpec w κ' dd' b h z := fun d st T n N L c K kn kvs deep t h1 h2 h3 h4 h5 h6 h7 h8 h9 =>
  (S d st T n N L c K kn kvs deep t h1 h2 h3 h4 h5 h6 h7 h8 (by omega)).less hk
theorem node1 (w : World) : NodeSpec w 32 1 8 3 10 :=
  node_ok (κ := 31) (dd := 1) (b2 := 0) (g2 := 1) (z2 := 1) (by omega) (fun _ => (node0 w).less (by omega) (by omega)) (fun _ => lam1 w) (fun _ => lam0 w) (fun _ => by omega) (by omega) (by omega)
theorem lam2 (w : World) : LamSpec w 33 2 11 3 10 := lam_ok (by omega) ((node1 w).less (by omega) (by omega)) (by omega)
theorem node2 (w : World) : NodeSpec w 34 2 27 5 64 :=
  node_ok (κ := 33) (dd := 2) (b2 := 0) (g2 := 1) (z2 := 1) (by omega) (fun _ => (node1 w).less (by omega) (by omega)) (fun _ => lam2 w) (fun _ => (lam1 w).less (by omega) (by omega)) (fun _ => by omega) (by omega) (by omega)
/-! Fct1 -/
/-! ### dicts with ints for keys -/
theorem valueAt_nil (j : Int) : valueAt ([] : List (Int × Value)) j = none := rfl
theorem valueAt_cons (p : Int × Value) (kvs : List (Int × Value)) (j : Int) : valueAt (p :: kvs) j = if p.1 = j then some p.2 else valueAt kvs j := by
  unfold valueAt
  rw [List.find?_cons]
  by_cases q : p.1 = j <;> simp [q]
theorem valueAt_app (a b : List (Int × Value)) (j : Int) : valueAt (a ++ b) j = (valueAt a j).or (valueAt b j) := by
  induction a with
  | nil => rfl
  | cons p a ih =>
    rw [List.cons_append, valueAt_cons, valueAt_cons]
    by_cases q : p.1 = j <;> simp [q, ih]
theorem valueAt_map (i : Int) (v : Value) (j : Int) : ∀ kvs : List (Int × Value), valueAt (kvs.map fun kv => if kv.1 = i then (kv.1, v) else kv) j = if j = i then (valueAt kvs j).map fun _ => v else valueAt kvs j
  | [] => by simp [valueAt_nil]
  | p :: kvs => by
    rw [List.map_cons, valueAt_cons, valueAt_cons, valueAt_map i v j kvs]
    by_cases q : p.1 = i
    · by_cases q2 : i = j
      · subst q2; simp [q]
      · simp [q, q2, Ne.symm q2]
    · by_cases q2 : p.1 = j
      · subst q2; simp [q]
      · simp [q, q2]
theorem valueAt_any {kvs : List (Int × Value)} {i : Int} : kvs.any (fun kv => decide (kv.1 = i)) = (valueAt kvs i).isSome := by
  induction kvs with
  | nil => rfl
  | cons p kvs ih =>
    rw [List.any_cons, valueAt_cons, ih]
    by_cases q : p.1 = i <;> simp [q]
theorem valueAt_stored (kvs : List (Int × Value)) (i j : Int) (v : Value) : valueAt (stored kvs i v) j = if j = i then some v else valueAt kvs j := by
  unfold stored
  rw [valueAt_any]
  cases h : valueAt kvs i with
  | none =>
    simp only [Option.isSome_none, Bool.false_eq_true, if_false]
    rw [valueAt_app, valueAt_cons, valueAt_nil]
    by_cases q : j = i
    · subst q; simp [h]
    · simp [q, Ne.symm q]
  | some u =>
    simp only [Option.isSome_some, if_true]
    rw [valueAt_map]
    by_cases q : j = i
    · subst q; simp [h]
    · simp [q]
theorem stored_len (kvs : List (Int × Value)) (i : Int) (v : Value) : (stored kvs i v).length ≤ kvs.length + 1 := by
  unfold stored
  split <;> simp
theorem mem_keysOf {kvs : List (Int × Value)} {i : Int} : i ∈ kvs.map (·.1) ↔ (valueAt kvs i).isSome = true := by
  rw [← valueAt_any, List.any_eq_true, List.mem_map]
  constructor
  · rintro ⟨p, h, rfl⟩; exact ⟨p, h, by simp⟩
  · rintro ⟨p, h, q⟩; exact ⟨p, h, by simpa using q⟩

noncomputable abbrev s_get_ : Str := ⟨#[103, 101, 116]⟩
noncomputable abbrev s_index_ : Str := ⟨#[105, 110, 100, 101, 120]⟩
theorem meth_get {w : World} {k : Nat} {n : Led} {d : Addr} {kvs : List (Int × Value)} (D : DictAt w n d kvs) : ∀ pl, OK w k (getMethod (.ref d) s_get_ pl) n fun r n2 => r = (.builtin "dict.get", [.ref d]) ∧ n2 = n := fun pl A g L m R s C =>
  getMethod_builtin (C.dict D).typeIs PySem.F.plainAttrs_dict PySem.F.slot_dict_get PySem.F.type_dict_get (C.dict D).mapOf.noDict ⟨n, s.heap, s.toks, rfl, C, rfl, rfl⟩
theorem meth_index {w : World} {k : Nat} {n : Led} {a : Addr} {its : Array Value} (h : (a, tupOf its) ∈ n) : ∀ pl, OK w k (getMethod (.ref a) s_index_ pl) n fun r n2 => r = (.builtin "tuple.index", [.ref a]) ∧ n2 = n := fun pl A g L m R s C =>
  getMethod_builtin (C.isTup h).typeIs PySem.F.plainAttrs_tuple PySem.F.slot_tuple_index PySem.F.type_tuple_index (fun b e => by cases e; exact ⟨_, C.get h, rfl⟩) ⟨n, s.heap, s.toks, rfl, C, rfl, rfl⟩

/-! ### the ten dicts of facts, and the dicts of the lambdas -/
inductive Sl where
  | read | set | called | bound | caught | parent | lets | inner | rg | sg | inn (l : Int)
deriving DecidableEq
noncomputable def slotOf : Tag → Sl
  | .read => .read | .set => .set | .glob => .rg | .setGlob => .sg | .called => .called | .lambda => .read

structure FX (w : World) (T n : Led) (ad : Sl → Option Addr) (m : Nat) (R : Sl → Int → Option Value → Prop) : Prop where
  sub : Le T n
  nd : (keys n).Nodup
  inj : ∀ s s' a, ad s = some a → ad s' = some a → s = s'
  off : ∀ s a, ad s = some a → a ∉ keys T
  at' : ∀ s a, ad s = some a → ∃ kvs, DictAt w n a kvs ∧ kvs.length ≤ m ∧ ∀ i, R s i (valueAt kvs i)

section
variable {w : World} {k m : Nat} {n T : Led} {ad : Sl → Option Addr} {R R' : Sl → Int → Option Value → Prop}
theorem FX.alloc (X : FX w T n ad m R) {a : Addr} {o : Obj} (h : a ∉ keys n) : FX w T ((a, o) :: n) ad m R :=
  ⟨X.sub.trans Le.cons, List.nodup_cons.mpr ⟨h, X.nd⟩, X.inj, X.off, fun s b hb => let ⟨kvs, D, z⟩ := X.at' s b hb; ⟨kvs, D.mono Le.cons, z⟩⟩
theorem FX.imp (X : FX w T n ad m R) {m' : Nat} (hm : m ≤ m') (h : ∀ s i v, R s i v → R' s i v) : FX w T n ad m' R' :=
  ⟨X.sub, X.nd, X.inj, X.off, fun s b hb => let ⟨kvs, D, z, q⟩ := X.at' s b hb; ⟨kvs, D, by omega, fun i => h s i _ (q i)⟩⟩
theorem FX.put (X : FX w T n ad m R) {s : Sl} {a : Addr} {i : Int} {t : Tok} {v : Value} (ha : ad s = some a) (hm : m ≤ 1000000) (h1 : ∀ s' i' x, (s' ≠ s ∨ i' ≠ i) → R s' i' x → R' s' i' x) (h2 : R' s i (some v)) {Q : Unit → Led → Prop}
    (h : ∀ n', FX w T n' ad (m + 1) R' → (∀ p ∈ n, p.1 ≠ a → p ∈ n') → Q () n') : OK w k (setItem (.ref a) (.int i t) v) n Q := by
  obtain ⟨kvs, D, hl, hR⟩ := X.at' s a ha
  refine ok_setItem_dict D (by have : sizeLine = 2 ^ 24 := rfl; omega) fun o ho D' => h _ ⟨fun p hp => mem_upd_ne (X.sub p hp) fun e => X.off s a ha (e ▸ List.mem_map.mpr ⟨p, hp, rfl⟩), by rw [keys_upd]; exact X.nd, X.inj, X.off, fun s' b hb => ?_⟩ fun p hp he => mem_upd_ne hp he
  by_cases q : s' = s
  · subst q
    rw [ha] at hb; cases hb
    refine ⟨_, D', Nat.le_trans (stored_len ..) (by omega), fun i' => ?_⟩
    rw [valueAt_stored]
    by_cases q : i' = i
    · subst q; simpa using h2
    · rw [if_neg q]; exact h1 _ _ _ (.inr q) (hR i')
  · obtain ⟨kvs', D2, hl2, hR2⟩ := X.at' s' b hb
    exact ⟨kvs', D2.upd fun e => q (X.inj s' s b hb (e ▸ ha)), by omega, fun i' => h1 _ _ _ (.inl q) (hR2 i')⟩
theorem FX.get (X : FX w T n ad m R) {s : Sl} {a : Addr} (ha : ad s = some a) : ∃ kvs, DictAt w n a kvs ∧ kvs.length ≤ m ∧ ∀ i, R s i (valueAt kvs i) := X.at' s a ha
end

noncomputable def cntR (f : Int → Nat) (i : Int) (v : Option Value) : Prop := (v = none ∧ f i = 0) ∨ (0 < f i ∧ ∃ t, v = some (.int (f i : Nat) t))
noncomputable def mapR (B : List (Int × Int)) (i : Int) (v : Option Value) : Prop := (v = none ∧ ∀ j, (i, j) ∉ B) ∨ ∃ j t, v = some (.int j t) ∧ (i, j) ∈ B
noncomputable def setR (p : Int → Prop) (i : Int) (v : Option Value) : Prop := (v = none ∧ ¬ p i) ∨ (v = some (.bool true) ∧ p i)
structure PF where
  cnt : Tag → Int → Nat
  bnd : List (Int × Int)
  par : List (Int × Int)
  lets : Int → Prop
  caught : Int → Prop
  inn : Int → Int → Prop
noncomputable def RF (p : PF) (ad : Sl → Option Addr) : Sl → Int → Option Value → Prop
  | .read => cntR (p.cnt .read)
  | .set => cntR (p.cnt .set)
  | .called => cntR (p.cnt .called)
  | .rg => cntR (p.cnt .glob)
  | .sg => cntR (p.cnt .setGlob)
  | .bound => mapR p.bnd
  | .parent => mapR p.par
  | .lets => setR p.lets
  | .caught => setR p.caught
  | .inner => fun l v => v = (ad (.inn l)).map .ref
  | .inn l => setR (p.inn l)
theorem mapR_iff {B B' : List (Int × Int)} (h : ∀ q, q ∈ B ↔ q ∈ B') {i : Int} {v : Option Value} (r : mapR B i v) : mapR B' i v :=
  r.imp (fun ⟨a, b⟩ => ⟨a, fun j q => b j ((h _).mpr q)⟩) fun ⟨j, t, a, b⟩ => ⟨j, t, a, (h _).mp b⟩
theorem setR_iff {p p' : Int → Prop} {i : Int} (h : p i ↔ p' i) {v : Option Value} (r : setR p i v) : setR p' i v :=
  r.imp (fun ⟨a, b⟩ => ⟨a, fun q => b (h.mpr q)⟩) fun ⟨a, b⟩ => ⟨a, h.mp b⟩
structure PF.Eqv (p p' : PF) : Prop where
  cnt : ∀ tg, tg ≠ .lambda → p.cnt tg = p'.cnt tg
  bnd : ∀ q, q ∈ p.bnd ↔ q ∈ p'.bnd
  par : ∀ q, q ∈ p.par ↔ q ∈ p'.par
  lets : ∀ i, p.lets i ↔ p'.lets i
  caught : ∀ i, p.caught i ↔ p'.caught i
  inn : ∀ l i, p.inn l i ↔ p'.inn l i
theorem RF_eqv {p p' : PF} {ad : Sl → Option Addr} (h : p.Eqv p') (s : Sl) (i : Int) (v : Option Value) (r : RF p ad s i v) : RF p' ad s i v := by
  cases s with
  | read => exact (show cntR (p'.cnt .read) i v by rw [← h.cnt .read nofun]; exact r)
  | set => exact (show cntR (p'.cnt .set) i v by rw [← h.cnt .set nofun]; exact r)
  | called => exact (show cntR (p'.cnt .called) i v by rw [← h.cnt .called nofun]; exact r)
  | rg => exact (show cntR (p'.cnt .glob) i v by rw [← h.cnt .glob nofun]; exact r)
  | sg => exact (show cntR (p'.cnt .setGlob) i v by rw [← h.cnt .setGlob nofun]; exact r)
  | bound => exact mapR_iff h.bnd r
  | parent => exact mapR_iff h.par r
  | lets => exact setR_iff (h.lets i) r
  | caught => exact setR_iff (h.caught i) r
  | inner => exact r
  | inn l => exact setR_iff (h.inn l i) r

noncomputable abbrev fFields (D : Sl → Addr) : List (Str × Value) := [(s_set_globals_, .ref (D .sg)), (s_read_globals_, .ref (D .rg)), (s_inner_, .ref (D .inner)), (s_lets_, .ref (D .lets)), (s_parent_, .ref (D .parent)), (s_caught_, .ref (D .caught)), (s_bound_, .ref (D .bound)),
  (s_called_, .ref (D .called)), (s_set_, .ref (D .set)), (s_read_, .ref (D .read))]
noncomputable def Sl.base : Sl → Bool
  | .inn _ => false | _ => true
/-- the facts object at fa -/
noncomputable def FI (T : Led) (fa : Addr) (ad : Sl → Option Addr) : Prop := ∃ D : Sl → Addr, (∀ s, s.base = true → ad s = some (D s)) ∧ Inst T fa 483 (fFields D)
theorem FI.mono {T T' : Led} {fa : Addr} {ad ad' : Sl → Option Addr} (F : FI T fa ad) (h : Le T T') (e : ∀ s, s.base = true → ad' s = ad s) : FI T' fa ad' :=
  let ⟨D, a, b⟩ := F; ⟨D, fun s hs => (e s hs).trans (a s hs), b.mono h⟩
noncomputable def nmOf : Sl → Str
  | .read => s_read_ | .set => s_set_ | .called => s_called_ | .bound => s_bound_ | .caught => s_caught_ | .parent => s_parent_ | .lets => s_lets_ | .inner => s_inner_ | .rg => s_read_globals_ | .sg => s_set_globals_ | .inn _ => s_read_
theorem at_483 (P : Params) (s : Sl) : ownOk (KK P) 483 (nmOf s) = true := by cases s <;> kernel_rfl
theorem ok_fact {w : World} {k : Nat} {n T : Led} {Q : Value → Led → Prop} {fa : Addr} {ad : Sl → Option Addr} {b : Bool} (F : FI T fa ad) (hs : Le T n) (s : Sl) (h0 : s.base = true) (h : ∀ a, ad s = some a → Q (.ref a) n) : OK w k (getAttr (.ref fa) (nmOf s) b) n Q := by
  obtain ⟨D, hD, I⟩ := F
  refine ok_attr (v := .ref (D s)) (I.mono hs) (at_483 _ s) ?_ rfl (h _ (hD s h0))
  cases s <;> first | rfl | cases h0
theorem meet_mOk (P : Params) : methOk (KK P) 483 q_meet 480 = true := by kernel_rfl
theorem tr_mOk (P : Params) : methOk (KK P) 483 q_times_read 459 = true := by kernel_rfl
theorem tc_mOk (P : Params) : methOk (KK P) 483 q_times_called 466 = true := by kernel_rfl
theorem is_mOk (P : Params) : methOk (KK P) 483 q_is_set 445 = true := by kernel_rfl
theorem isg_mOk (P : Params) : methOk (KK P) 483 q_is_set_global 452 = true := by kernel_rfl
theorem free_mOk (P : Params) : methOk (KK P) 483 q_free 473 = true := by kernel_rfl
theorem ok_factM {w : World} {k : Nat} {n T : Led} {fa f : Addr} {ad : Sl → Option Addr} {nm : Str} {pl : Sem Bool} (F : FI T fa ad) (hs : Le T n) (ho : methOk (KK w.params) 483 nm f = true) (hn : ∀ D, (fFields D).lookup nm = none) :
    OK w k (getMethod (.ref fa) nm pl) n fun r n2 => r = (.ref f, [.ref fa]) ∧ n2 = n := by
  obtain ⟨D, hD, I⟩ := F
  exact ok_method (I.mono hs) ho (hn D) ⟨rfl, rfl⟩

section
variable {w : World} {k m : Nat} {n T : Led} {ad : Sl → Option Addr} {p : PF}
noncomputable def bump (f : Tag → Int → Nat) (tg : Tag) (x : Int) : Tag → Int → Nat := fun tg' i => if tg' = tg ∧ i = x then f tg' i + 1 else f tg' i
theorem count_ok {tg : Tag} (X : FX w T n ad m (RF p ad)) (ht : tg ≠ .lambda) {a : Addr} (ha : ad (slotOf tg) = some a) (hm : m ≤ 1000000) {x : Int} {t : Tok} : OK w (k + 1) (call (.ref 494) [.ref a, .int x t]) n fun v n' => v = .none ∧ FX w T n' ad (m + 1) (RF { p with cnt := bump p.cnt tg x } ad) := by
  refine (call_count_in ?_).ok
  obtain ⟨kvs, D, hl, hR⟩ := X.get ha
  unfold ir_count_in
  repeat' walk_at "st"
  refine ⟨_, _, meth_get D, ?_⟩
  repeat' walk_at "st"
  refine ⟨callable_builtin _, ok_dictget D ?_⟩
  have hc : cntR (p.cnt tg) x (valueAt kvs x) := by cases tg <;> first | exact hR x | exact absurd rfl ht
  have hv : ∃ u : Tok → Tok, ∀ t0, (valueAt kvs x).getD (.int 0 t0) = .int (p.cnt tg x : Nat) (u t0) := by
    rcases hc with ⟨e, z⟩ | ⟨_, u, e⟩
    · rw [e, z]; exact ⟨id, fun _ => rfl⟩
    · rw [e]; exact ⟨fun _ => u, fun _ => rfl⟩
  obtain ⟨u, hv⟩ := hv
  rw [hv]
  repeat' walk_at "st"
  refine ok_add fun t1 => ?_
  repeat' walk_at "st"
  refine X.put ha hm (R' := RF { p with cnt := bump p.cnt tg x } ad) ?_ ?_ fun n' X' _ => ?_
  · intro s' i' v hne r
    have key : ∀ tg', tg' ≠ .lambda → s' = slotOf tg' → bump p.cnt tg x tg' i' = p.cnt tg' i' := fun tg' h1 h2 => by
      unfold bump
      rw [if_neg]
      rintro ⟨rfl, rfl⟩
      rcases hne with h | h
      · exact h h2
      · exact h rfl
    have ext : ∀ f g : Int → Nat, f i' = g i' → cntR f i' v → cntR g i' v := fun f g e r => by unfold cntR at r ⊢; rw [← e]; exact r
    cases s' with
    | read => exact ext _ _ (key .read nofun rfl).symm r
    | set => exact ext _ _ (key .set nofun rfl).symm r
    | called => exact ext _ _ (key .called nofun rfl).symm r
    | rg => exact ext _ _ (key .glob nofun rfl).symm r
    | sg => exact ext _ _ (key .setGlob nofun rfl).symm r
    | _ => exact r
  · have e : bump p.cnt tg x tg x = p.cnt tg x + 1 := by unfold bump; rw [if_pos ⟨rfl, rfl⟩]
    have : cntR (bump p.cnt tg x tg) x (some (.int ((p.cnt tg x : Nat) + 1) t1)) := by
      refine .inr ⟨by omega, t1, ?_⟩
      rw [e]; rfl
    cases tg with
    | lambda => exact absurd rfl ht
    | _ => exact this
  · repeat' walk_at "st"
    exact ⟨rfl, X'⟩
end
/-! Fct2 -/
theorem mapR_get {B : List (Int × Int)} {x h : Int} {v : Option Value} (r : mapR B x v) (hx : (x, h) ∈ B) (hu : ∀ j, (x, j) ∈ B → j = h) : ∃ t, v = some (.int h t) := by
  rcases r with ⟨_, b⟩ | ⟨j, t, a, b⟩
  · exact absurd hx (b h)
  · rw [a, hu j b]; exact ⟨t, rfl⟩
theorem setR_isSome {p : Int → Prop} {i : Int} {v : Option Value} (r : setR p i v) : v.isSome = true ↔ p i := by
  rcases r with ⟨a, b⟩ | ⟨a, b⟩ <;> simp [a, b]
noncomputable def PF.met (p : PF) (x : Int) (tk : List Int) : PF := { p with caught := fun y => p.caught y ∨ (y = x ∧ ∃ l ∈ tk, ¬ p.lets l), inn := fun l y => p.inn l y ∨ (y = x ∧ l ∈ tk) }
theorem takeWhile_all {h : Int} : ∀ {c : List Int}, (∀ y ∈ c, y ≠ h) → c.takeWhile (· != h) = c
  | [], _ => rfl
  | y :: c, a => by
    rw [List.takeWhile_cons]
    have : (y != h) = true := by simpa using a y (.head _)
    rw [if_pos this, takeWhile_all fun z hz => a z (.tail _ hz)]
theorem takeWhile_stop {h : Int} {c2 : List Int} : ∀ {c : List Int}, (∀ y ∈ c, y ≠ h) → (c ++ h :: c2).takeWhile (· != h) = c
  | [], _ => by simp
  | y :: c, a => by
    rw [List.cons_append, List.takeWhile_cons]
    have : (y != h) = true := by simpa using a y (.head _)
    rw [if_pos this, takeWhile_stop fun z hz => a z (.tail _ hz)]

section
variable {w : World} {k m : Nat} {n T : Led} {ad : Sl → Option Addr} {p : PF}
theorem meet_ok (X : FX w T n ad m (RF p ad)) {fa : Addr} (F : FI T fa ad) {c : List Int} {x h : Int} {t u : Tok} (hx : (x, h) ∈ p.bnd) (hu : ∀ j, (x, j) ∈ p.bnd → j = h) (hh : h ∈ c ∨ h = -1)
    (hc : ∀ c1 l c2, c = c1 ++ l :: c2 → (∃ a, ad (.inn l) = some a) ∧ (l, hd c2) ∈ p.par ∧ ∀ j, (l, j) ∈ p.par → j = hd c2) (hm : m + 2 * c.length ≤ 1000000) :
    OK w (k + 1) (call (.ref 480) [.ref fa, .int x t, .int (hd c) u]) n fun v n' => v = .none ∧ FX w T n' ad (m + 2 * c.length) (RF (p.met x (c.takeWhile (· != h))) ad) := by
  refine (call_Facts_meet ?_).ok
  unfold ir_Facts_meet
  repeat' walk_at "st"
  refine s_loop (fun j l n' => ∃ c1 c2 u, c = c1 ++ c2 ∧ (∀ y ∈ c1, y ≠ h) ∧ j = c2.length ∧ l 0 = some (.ref fa) ∧ l 1 = some (.int x t) ∧ l 3 = some (.int (hd c2) u) ∧ FX w T n' ad (m + 2 * c1.length) (RF (p.met x c1) ad)) c.length
    ⟨[], c, u, rfl, nofun, rfl, rfl, rfl, rfl, X.imp (by omega) (RF_eqv ⟨fun _ _ => rfl, fun _ => .rfl, fun _ => .rfl, fun _ => .rfl, fun i => by simp [PF.met], fun l i => by simp [PF.met]⟩)⟩ ?_
  rintro j l n' ⟨c1, c2, u1, e1, hc1, rfl, l0, l1, l3, X1⟩
  obtain ⟨D, hD, I⟩ := id F
  refine t_cmp ?_
  repeat' walk_at "st"
  refine ok_fact F X1.sub .bound rfl fun ab hab => ?_
  repeat' walk_at "st"
  obtain ⟨kb, Db, _, Rb⟩ := X1.get hab
  obtain ⟨tb, eb⟩ := mapR_get (Rb x) hx hu
  refine ok_get_dict Db eb ?_
  refine ok_ne_int ⟨_, rfl, ?_⟩
  by_cases hst : hd c2 = h
  · have : (hd c2 != h) = false := by simpa using hst
    simp only [this]
    have etk : c.takeWhile (· != h) = c1 := by
      subst e1
      cases c2 with
      | nil => rw [List.append_nil]; exact takeWhile_all hc1
      | cons y c2 =>
        have : y = h := hst
        subst this
        exact takeWhile_stop hc1
    repeat' walk_at "st"
    rw [etk]
    have : c1.length ≤ c.length := by rw [e1, List.length_append]; omega
    exact ⟨rfl, X1.imp (by omega) fun _ _ _ r => r⟩
  · have : (hd c2 != h) = true := by simpa using hst
    simp only [this]
    cases c2 with
    | nil =>
      exfalso
      rw [List.append_nil] at e1
      rcases hh with q | q
      · exact hc1 h (e1 ▸ q) rfl
      · exact hst q.symm
    | cons y c2 =>
      have hyh : y ≠ h := hst
      replace l3 : l 3 = some (.int y u1) := l3
      obtain ⟨⟨ay, hay⟩, hp1, hp2⟩ := hc c1 y c2 e1
      have hl1 : c1.length + 1 ≤ c.length := by rw [e1, List.length_append, List.length_cons]; omega
      repeat' walk_at "st"
      refine ok_fact F X1.sub .inner rfl fun ai hai => ?_
      repeat' walk_at "st"
      obtain ⟨ki, Di, _, Ri⟩ := X1.get hai
      refine ok_get_dict (v := .ref ay) Di (by have := Ri y; rw [show valueAt ki y = (ad (.inn y)).map .ref from this, hay]; rfl) ?_
      repeat' walk_at "st"
      let p1 : PF := { p.met x c1 with inn := fun l y' => (p.met x c1).inn l y' ∨ (l = y ∧ y' = x) }
      refine X1.put hay (by omega) (R' := RF p1 ad) ?_ ?_ fun n2 X2 _ => ?_
      · intro s' i' v hne r
        cases s' with
        | inn l =>
          refine setR_iff (p' := p1.inn l) ?_ r
          refine ⟨.inl, fun q => q.resolve_right ?_⟩
          rintro ⟨rfl, rfl⟩
          rcases hne with q | q <;> exact q rfl
        | _ => exact r
      · exact .inr ⟨rfl, .inr ⟨rfl, rfl⟩⟩
      repeat' walk_at "st"
      refine ok_fact F X2.sub .lets rfl fun al hal => ?_
      obtain ⟨kl, Dl, _, Rl⟩ := X2.get hal
      refine ok_notin_dict Dl ⟨_, rfl, ?_⟩
      have hlt : (valueAt kl y).isSome = true ↔ p.lets y := setR_isSome (Rl y)
      have fin : ∀ n3, FX w T n3 ad (m + 2 * c1.length + 1 + 1) (RF (p.met x (c1 ++ [y])) ad) → ∀ Q : Flow → Lc → Led → Prop, (∀ l3 n3, (∃ i, i < (y :: c2).length ∧ ∃ c1 c2 u, c = c1 ++ c2 ∧ (∀ y ∈ c1, y ≠ h) ∧ i = c2.length ∧ l3 0 = some (.ref fa) ∧ l3 1 = some (.int x t) ∧ l3 3 = some (.int (hd c2) u) ∧ FX w T n3 ad (m + 2 * c1.length) (RF (p.met x c1) ad)) → Q .next l3 n3) →
          wB w k (.cons (.asg 3 (.idx (.attr (.v 0) s_parent_) (.v 3))) .nil) l n3 Q := fun n3 X3 Q hQ => by
        repeat' walk_at "st"
        refine ok_fact F X3.sub .parent rfl fun ap hap => ?_
        obtain ⟨kp, Dp, _, Rp⟩ := X3.get hap
        obtain ⟨tp, ep⟩ := mapR_get (Rp y) hp1 hp2
        repeat' walk_at "st"
        refine ok_get_dict Dp ep ?_
        repeat' walk_at "st"
        refine hQ _ _ ⟨c2.length, by simp, c1 ++ [y], c2, tp, by simp [e1], fun z hz => ?_, rfl, l0, l1, rfl, X3.imp (by simp; omega) fun _ _ _ r => r⟩
        rcases List.mem_append.mp hz with hz | hz
        · exact hc1 z hz
        · rw [List.mem_singleton.mp hz]; exact hyh
      by_cases hly : p.lets y
      · have : (!(valueAt kl y).isSome) = false := by simp [hlt.mpr hly]
        simp only [this]
        refine b_nil ?_
        refine fin n2 (X2.imp (by omega) (RF_eqv ⟨fun _ _ => rfl, fun _ => .rfl, fun _ => .rfl, fun _ => .rfl, fun i => ?_, fun l i => ?_⟩)) _ fun _ _ h => h
        · show (p.caught i ∨ _) ↔ (p.caught i ∨ _)
          simp only [List.mem_append, List.mem_singleton]
          constructor
          · rintro (q | ⟨a, l, b, d⟩)
            · exact .inl q
            · exact .inr ⟨a, l, .inl b, d⟩
          · rintro (q | ⟨a, l, b | rfl, d⟩)
            · exact .inl q
            · exact .inr ⟨a, l, b, d⟩
            · exact absurd hly d
        · show ((p.inn l i ∨ _) ∨ _) ↔ (p.inn l i ∨ _)
          simp only [List.mem_append, List.mem_singleton]
          constructor
          · rintro ((q | ⟨a, b⟩) | ⟨a, b⟩)
            · exact .inl q
            · exact .inr ⟨a, .inl b⟩
            · exact .inr ⟨b, .inr a⟩
          · rintro (q | ⟨a, b | b⟩)
            · exact .inl (.inl q)
            · exact .inl (.inr ⟨a, b⟩)
            · exact .inr ⟨b, a⟩
      · have : (!(valueAt kl y).isSome) = true := by
          cases q : (valueAt kl y).isSome with
          | true => exact absurd (hlt.mp q) hly
          | false => rfl
        simp only [this]
        repeat' walk_at "st"
        refine ok_fact F X2.sub .caught rfl fun ac hac => ?_
        repeat' walk_at "st"
        refine X2.put hac (by omega) (R' := RF (p.met x (c1 ++ [y])) ad) ?_ ?_ fun n3 X3 _ => ?_
        · intro s' i' v hne r
          cases s' with
          | inn l =>
            refine setR_iff ?_ r
            show ((p.inn l i' ∨ _) ∨ _) ↔ (p.inn l i' ∨ _)
            simp only [List.mem_append, List.mem_singleton]
            constructor
            · rintro ((q | ⟨a, b⟩) | ⟨a, b⟩)
              · exact .inl q
              · exact .inr ⟨a, .inl b⟩
              · exact .inr ⟨b, .inr a⟩
            · rintro (q | ⟨a, b | b⟩)
              · exact .inl (.inl q)
              · exact .inl (.inr ⟨a, b⟩)
              · exact .inr ⟨b, a⟩
          | caught =>
            have hix : i' ≠ x := hne.resolve_left (fun q => q rfl)
            refine setR_iff ?_ r
            show (p.caught i' ∨ _) ↔ (p.caught i' ∨ _)
            simp [hix]
          | _ => exact r
        · exact .inr ⟨rfl, .inr ⟨rfl, y, by simp, hly⟩⟩
        · exact fin n3 X3 _ fun _ _ h => h
end
/-! Fct3 -/
theorem any_ints {i : Int} : ∀ {vs : List Value} {ns : List Int}, IntsAre vs ns → vs.any (isInt i) = decide (i ∈ ns)
  | _, _, .nil => rfl
  | _, _, .cons j t h => by
    rw [List.any_cons, any_ints h]
    show ((j == i) || _) = _
    by_cases q : j = i
    · subst q; simp
    · have : (j == i) = false := by simpa using q
      rw [this]; simp [Ne.symm q]
section
variable {w : World} {k : Nat} {n : Led} {Q : Value → Led → Prop}
theorem ok_in_ints {a : Addr} {vs : List Value} {ns : List Int} {i : Int} {t : Tok} (ha : (a, tupOf vs.toArray) ∈ n) (hi : IntsAre vs ns) (h : Q (.bool (decide (i ∈ ns))) n) : OK w k (compareOp .In (.int i t) (.ref a)) n Q :=
  ok_in_tup (isInt i) ha (eq_isInt i t hi) (by rw [any_ints hi]; exact h)
end

/-! ### the facts of a prefix of the visits -/
noncomputable def sn (l : Int) (A : List Ev) : List Ev := A.reverse.takeWhile fun e => decide (e.lamOf ≠ some l)
noncomputable def Esc (E : List Ev) (e : Ev) (x l : Int) : Prop := e.useOf = some x ∧ ∃ h, (x, h) ∈ bindsE E ∧ l ∈ e.c.takeWhile (· != h)
noncomputable def parE (A : List Ev) : List (Int × Int) := A.filterMap fun e => e.lamOf.map fun l => (l, hd e.c)
noncomputable def cntE (A : List Ev) (tg : Tag) (x : Int) : Nat := A.countP fun e => decide (e.row = some (tg, x))
noncomputable def PFof (E A : List Ev) : PF where
  cnt := cntE A
  bnd := bindsE A
  par := parE A
  lets := (· ∈ letsE A)
  caught := fun x => ∃ e ∈ A, ∃ l, Esc E e x l ∧ l ∉ letsE E
  inn := fun l x => ∃ e ∈ sn l A, Esc E e x l
theorem sn_snoc (l : Int) (A : List Ev) (e : Ev) : sn l (A ++ [e]) = if e.lamOf = some l then [] else e :: sn l A := by
  unfold sn
  rw [List.reverse_append, List.reverse_singleton, List.singleton_append, List.takeWhile_cons]
  by_cases q : e.lamOf = some l <;> simp [q]
theorem mem_parE {A : List Ev} {q : Int × Int} : q ∈ parE A ↔ ∃ e ∈ A, e.lamOf = some q.1 ∧ hd e.c = q.2 := by
  unfold parE
  rw [List.mem_filterMap]
  constructor
  · rintro ⟨e, he, h⟩
    rw [Option.map_eq_some_iff] at h
    obtain ⟨l, h1, rfl⟩ := h
    exact ⟨e, he, h1, rfl⟩
  · rintro ⟨e, he, h1, h2⟩
    exact ⟨e, he, by rw [h1, Option.map_some, h2]⟩
theorem cntE_snoc (A : List Ev) (e : Ev) (tg : Tag) (x : Int) : cntE (A ++ [e]) tg x = cntE A tg x + if e.row = some (tg, x) then 1 else 0 := by
  unfold cntE
  rw [List.countP_append, List.countP_singleton]
  by_cases q : e.row = some (tg, x) <;> simp [q]
theorem mem_letsE_snoc {A : List Ev} {e : Ev} {l : Int} : l ∈ letsE (A ++ [e]) ↔ l ∈ letsE A ∨ e.letOf = some l := by
  rw [letsE_append, List.mem_append]
  have : l ∈ letsE [e] ↔ e.letOf = some l := by rw [mem_letsE_cons]; simp [letsE]
  rw [this]
theorem snoc_eqv {p : PF} {E A : List Ev} {e : Ev} (hcnt : ∀ tg x, tg ≠ .lambda → p.cnt tg x = cntE A tg x + if e.row = some (tg, x) then 1 else 0) (hb : ∀ q, q ∈ p.bnd ↔ q ∈ bindsE A ∨ q ∈ e.binds)
    (hp : ∀ q, q ∈ p.par ↔ q ∈ parE A ∨ (e.lamOf = some q.1 ∧ hd e.c = q.2)) (hl : ∀ l, p.lets l ↔ l ∈ letsE A ∨ e.letOf = some l) (hc : ∀ x, p.caught x ↔ (PFof E A).caught x ∨ ∃ l, Esc E e x l ∧ l ∉ letsE E)
    (hi : ∀ l x, p.inn l x ↔ e.lamOf ≠ some l ∧ ((PFof E A).inn l x ∨ Esc E e x l)) : p.Eqv (PFof E (A ++ [e])) where
  cnt := fun tg ht => by funext x; rw [hcnt tg x ht]; exact (cntE_snoc A e tg x).symm
  bnd := fun q => by
    rw [hb q]
    show _ ↔ q ∈ bindsE (A ++ [e])
    rw [bindsE_append, List.mem_append]
    simp [bindsE]
  par := fun q => by
    rw [hp q]
    show _ ↔ q ∈ parE (A ++ [e])
    rw [mem_parE, mem_parE]
    constructor
    · rintro (⟨e', a, b⟩ | b)
      · exact ⟨e', List.mem_append_left _ a, b⟩
      · exact ⟨e, by simp, b⟩
    · rintro ⟨e', a, b⟩
      rcases List.mem_append.mp a with a | a
      · exact .inl ⟨e', a, b⟩
      · rw [List.mem_singleton.mp a] at b; exact .inr b
  lets := fun l => by rw [hl l]; exact mem_letsE_snoc.symm
  caught := fun x => by
    rw [hc x]
    constructor
    · rintro (⟨e', a, b⟩ | b)
      · exact ⟨e', List.mem_append_left _ a, b⟩
      · exact ⟨e, by simp, b⟩
    · rintro ⟨e', a, b⟩
      rcases List.mem_append.mp a with a | a
      · exact .inl ⟨e', a, b⟩
      · rw [List.mem_singleton.mp a] at b; exact .inr b
  inn := fun l x => by
    rw [hi l x]
    show _ ↔ ∃ e' ∈ sn l (A ++ [e]), _
    rw [sn_snoc]
    by_cases q : e.lamOf = some l
    · simp [q]
    · rw [if_neg q]
      constructor
      · rintro ⟨_, ⟨e', a, b⟩ | b⟩
        · exact ⟨e', .tail _ a, b⟩
        · exact ⟨e, .head _, b⟩
      · rintro ⟨e', a, b⟩
        rcases List.mem_cons.mp a with rfl | a
        · exact ⟨q, .inr b⟩
        · exact ⟨q, .inl ⟨e', a, b⟩⟩

inductive FA (w : World) (T n : Led) (fa : Addr) (E A : List Ev) (m : Nat) : Prop
  | mk (ad : Sl → Option Addr) (h1 : FI T fa ad) (h2 : FX w T n ad m (RF (PFof E A) ad)) (h3 : ∀ l, (∃ a, ad (.inn l) = some a) ↔ ∃ e ∈ A, e.lamOf = some l)

theorem mapR_of {B B' : List (Int × Int)} {i : Int} {v : Option Value} (h1 : ∀ q ∈ B, q ∈ B') (h2 : ∀ q ∈ B', q.1 = i → q ∈ B) (r : mapR B i v) : mapR B' i v :=
  r.imp (fun ⟨a, b⟩ => ⟨a, fun j q => b j (h2 _ q rfl)⟩) fun ⟨j, t, a, b⟩ => ⟨j, t, a, h1 _ b⟩
section
variable {w : World} {k m : Nat} {n T : Led} {ad : Sl → Option Addr} {p : PF} {fa : Addr}
theorem FX.reset (X : FX w T n ad m (RF p ad)) {a ai : Addr} {l : Int} {t : Tok} (h0 : a ∉ keys n) (hlow : (a == sysModules) = false) (hai : ad .inner = some ai) (hm : m ≤ 1000000) {Q : Unit → Led → Prop}
    (h : ∀ n' ad', (∀ s, s ≠ .inn l → ad' s = ad s) → ad' (.inn l) = some a → FX w T n' ad' (m + 1) (RF { p with inn := fun l' x => l' ≠ l ∧ p.inn l' x } ad') → Q () n') :
    OK w k (setItem (.ref ai) (.int l t) (.ref a)) ((a, dictOf [] 0) :: n) Q := by
  refine (X.alloc (o := dictOf [] 0) h0).put hai hm (R' := fun s i v => if s = .inner ∧ i = l then v = some (.ref a) else RF p ad s i v) ?_ ?_ fun n' X' hk => ?_
  · intro s' i' x hne r
    rw [if_neg]
    · exact r
    · rintro ⟨rfl, rfl⟩
      rcases hne with q | q <;> exact q rfl
  · rw [if_pos ⟨rfl, rfl⟩]
  have hin : ∀ s b, ad s = some b → b ∈ keys n := fun s b hb => let ⟨_, D, _⟩ := X.at' s b hb; D.key
  have hma : (a, dictOf [] 0) ∈ n' := hk _ (.head _) fun e => h0 (by show a ∈ _; have e : a = ai := e; rw [e]; exact hin _ _ hai)
  refine h n' (fun s => if s = .inn l then some a else ad s) (fun s hs => if_neg hs) (if_pos rfl) ⟨X'.sub, X'.nd, fun s s' b hb hb' => ?_, fun s b hb => ?_, fun s b hb => ?_⟩
  · by_cases q : s = .inn l <;> by_cases q' : s' = .inn l
    · rw [q, q']
    · rw [if_pos q] at hb; rw [if_neg q'] at hb'; cases hb; exact (h0 (hin _ _ hb')).elim
    · rw [if_neg q] at hb; rw [if_pos q'] at hb'; cases hb'; exact (h0 (hin _ _ hb)).elim
    · rw [if_neg q] at hb; rw [if_neg q'] at hb'; exact X.inj _ _ _ hb hb'
  · by_cases q : s = .inn l
    · rw [if_pos q] at hb; cases hb
      intro hT
      obtain ⟨p, hp, e⟩ := List.mem_map.mp hT
      exact h0 (e ▸ List.mem_map.mpr ⟨p, X.sub p hp, rfl⟩)
    · rw [if_neg q] at hb; exact X.off _ _ hb
  · by_cases q : s = .inn l
    · rw [if_pos q] at hb; cases hb
      refine ⟨[], ⟨⟨_, hma, isDict_new w⟩, hlow⟩, Nat.zero_le _, fun i => ?_⟩
      subst q
      exact .inl ⟨rfl, fun q => q.1 rfl⟩
    · rw [if_neg q] at hb
      obtain ⟨kvs, D, z, r⟩ := X'.at' s b hb
      refine ⟨kvs, D, z, fun i => ?_⟩
      have r := r i
      cases s with
      | inner =>
        show _ = Option.map _ (if Sl.inn i = Sl.inn l then some a else ad (.inn i))
        by_cases q2 : i = l
        · subst q2; rw [if_pos ⟨rfl, rfl⟩] at r; rw [if_pos rfl]; exact r
        · rw [if_neg (fun q => q2 q.2)] at r
          rw [if_neg (fun q => q2 (by cases q; rfl))]; exact r
      | inn l' =>
        have q2 : l' ≠ l := fun e => q (by rw [e])
        rw [if_neg (fun q => nomatch q.1)] at r
        exact setR_iff (p' := fun x => l' ≠ l ∧ p.inn l' x) ⟨fun z => ⟨q2, z⟩, fun z => z.2⟩ r
      | _ =>
        rw [if_neg (fun q => nomatch q.1)] at r
        exact r

theorem mapR_snoc {B : List (Int × Int)} {x j i : Int} {v : Option Value} (h : i ≠ x) (r : mapR B i v) : mapR (B ++ [(x, j)]) i v :=
  mapR_of (fun q hq => List.mem_append_left _ hq) (fun q hq e => by
    rcases List.mem_append.mp hq with hq | hq
    · exact hq
    · rw [List.mem_singleton.mp hq] at e; exact absurd e.symm h) r
theorem bind_loop {val e : Ex} {l : Lc} {j : Int} {Q : Flow → Lc → Led → Prop} (F : FI T fa ad) (l0 : l 0 = some (.ref fa))
    (hv : ∀ (l' : Lc) n' (Q : Value → Led → Prop), l' 1 = l 1 → l' 2 = l 2 → Le T n' → (∀ t, Q (.int j t) n') → wE w k val l' n' Q)
    (he : wE w k e l n fun v n1 => ∃ d us ns ep, v = .ref d ∧ (d, listOf us.toArray ep) ∈ n1 ∧ (∀ s a, ad s = some a → a ≠ d) ∧ IntsAre us ns ∧ FX w T n1 ad m (RF p ad) ∧ ns.length ≤ 3 ∧ m ≤ 900000 ∧
      ∀ l' n', FX w T n' ad (m + 3) (RF { p with bnd := p.bnd ++ ns.map fun x => (x, j) } ad) → Q .next l' n') : wS w k (.each 3 e (.cons (.asgI (.attr (.v 0) s_bound_) (.v 3) val) .nil)) l n Q := by
  refine s_each (e_join _ he fun v n1 hh => ?_)
  obtain ⟨d, us, ns, ep, rfl, hd, hne, hi, X, h3, hm, q⟩ := hh
  have hlen := hi.length
  refine ⟨.list d us.toArray ep, rfl, hd, trivial, fun i l' n' => i ≤ us.length ∧ l' 0 = l 0 ∧ l' 1 = l 1 ∧ l' 2 = l 2 ∧ (d, listOf us.toArray ep) ∈ n' ∧ FX w T n' ad (m + i) (RF { p with bnd := p.bnd ++ (ns.take i).map fun x => (x, j) } ad),
    ⟨Nat.zero_le _, rfl, rfl, rfl, hd, by simpa using X⟩, ?_⟩
  rintro i l' n' ⟨hil, k0, k1, k2, hd', X'⟩
  refine ⟨hd', fun hlt y hy => ?_, fun hie => ?_⟩
  · have hy : us[i]? = some y := by simpa [Src.item] using hy
    obtain ⟨x, t, rfl, hx⟩ := hi.at i y hy
    have hlt2 : i < us.length := (List.getElem?_eq_some_iff.mp hy).1
    refine b_cons (s_asgI (hv _ _ _ k1 k2 X'.sub fun tv => ?_))
    refine e_attr (e_v (show lset 3 _ l' 0 = some (.ref fa) from k0.trans l0) ?_)
    refine ok_fact F X'.sub .bound rfl fun ab hab => e_v (by with_unfolding_all rfl) ?_
    refine X'.put hab (by omega) (R' := RF { p with bnd := p.bnd ++ (ns.take (i + 1)).map fun x => (x, j) } ad) ?_ ?_ fun n2 X2 hk => b_nil ⟨hlt2, k0, k1, k2, hk _ hd' (Ne.symm (hne _ _ hab)), X2⟩
    · intro s' i' v hne r
      cases s' with
      | bound =>
        have hix : i' ≠ x := hne.resolve_left fun q => q rfl
        have e : (ns.take (i + 1)) = ns.take i ++ [x] := by rw [List.take_add_one, hx]; rfl
        show mapR (p.bnd ++ (ns.take (i + 1)).map fun x => (x, j)) i' v
        rw [e, List.map_append, ← List.append_assoc]
        exact mapR_snoc hix r
      | _ => exact r
    · refine .inr ⟨j, tv, rfl, List.mem_append_right _ (List.mem_map.mpr ⟨x, ?_, rfl⟩)⟩
      exact List.mem_of_getElem? (i := i) (by rw [List.getElem?_take_of_lt (by omega)]; exact hx)
  · have hie : i = us.length := hie
    subst hie
    refine q _ _ ?_
    have : ns.take us.length = ns := List.take_of_length_le (by omega)
    rw [this] at X'
    exact X'.imp (by omega) fun _ _ _ r => r
end
/-! Fct4 -/
section
variable {E A B : List Ev} {e : Ev} {N L : Int → Prop}
theorem sub_prefix {A' : List Ev} (hE : E = A ++ e :: B) : ∀ q ∈ bindsE A, q ∈ bindsE E := fun q hq => by rw [hE, bindsE_append]; exact List.mem_append_left _ hq
theorem use_pre (S : Sub [] [] N L E) (hE : E = A ++ e :: B) {x : Int} (hx : e.useOf = some x) : ∃ h, (x, h) ∈ bindsE A ∧ (∀ j, (x, j) ∈ bindsE E → j = h) ∧ (h ∈ e.c ∨ h = -1) := by
  rcases S.p6 A e B hE x hx with q | ⟨h, a, b⟩
  · cases q
  · exact ⟨h, a, fun j hj => S.p2 _ hj _ (sub_prefix (A' := A) hE _ a) rfl, b⟩
theorem chain_pre (S : Sub [] [] N L E) (hE : E = A ++ e :: B) {ad : Sl → Option Addr} (dom : ∀ l, (∃ a, ad (.inn l) = some a) ↔ ∃ e ∈ A, e.lamOf = some l) :
    ∀ c1 l c2, e.c = c1 ++ l :: c2 → (∃ a, ad (.inn l) = some a) ∧ (l, hd c2) ∈ parE A ∧ ∀ j, (l, j) ∈ parE A → j = hd c2 := by
  intro c1 l c2 hc
  obtain ⟨e', h1, h2, h3⟩ := S.p5 A e B hE c1 l c2 (by simpa using hc)
  rw [List.append_nil] at h3
  have hin : ∀ f ∈ A, f ∈ E := fun f hf => by rw [hE]; exact List.mem_append_left _ hf
  refine ⟨(dom l).mpr ⟨e', h1, h2⟩, mem_parE.mpr ⟨e', h1, h2, by rw [h3]⟩, fun j hj => ?_⟩
  obtain ⟨f, f1, f2, f3⟩ := mem_parE.mp hj
  have f3 : hd f.c = j := f3
  rw [← f3, S.p1 f (hin f f1) e' (hin e' h1) l f2 h2, h3]
theorem let_pre (S : Sub [] [] N L E) (hE : E = A ++ e :: B) {l : Int} (hl : l ∈ e.c) : l ∈ letsE A ↔ l ∈ letsE E :=
  ⟨fun h => by rw [hE, letsE_append]; exact List.mem_append_left _ h, fun h => S.p4 A e B hE l h hl⟩
theorem Esc_iff (S : Sub [] [] N L E) {x h : Int} (hx : e.useOf = some x) (hb : (x, h) ∈ bindsE E) (i l : Int) : Esc E e i l ↔ i = x ∧ l ∈ e.c.takeWhile (· != h) := by
  unfold Esc
  rw [hx]
  constructor
  · rintro ⟨a, h', b, c⟩
    cases a
    have e : h' = h := S.p2 _ b _ hb rfl
    rw [e] at c
    exact ⟨rfl, c⟩
  · rintro ⟨rfl, c⟩
    exact ⟨rfl, h, hb, c⟩
theorem Esc_no (hx : e.useOf = none) (i l : Int) : ¬ Esc E e i l := fun h => by have := h.1; rw [hx] at this; cases this
theorem use_eqv (S : Sub [] [] N L E) (hE : E = A ++ e :: B) {x h : Int} {tg : Tag} (hx : e.useOf = some x) (hb : (x, h) ∈ bindsE E) (e1 : e.lamOf = none) (e2 : e.binds = []) (e3 : e.letOf = none) (e4 : e.row = some (tg, x)) :
    (PF.met { PFof E A with cnt := bump (cntE A) tg x } x (e.c.takeWhile (· != h))).Eqv (PFof E (A ++ [e])) := by
  refine snoc_eqv (fun tg' i ht => ?_) (fun q => ?_) (fun q => ?_) (fun l => ?_) (fun i => ?_) fun l i => ?_
  · show bump (cntE A) tg x tg' i = _
    unfold bump
    rw [e4]
    by_cases q : tg' = tg ∧ i = x
    · obtain ⟨rfl, rfl⟩ := q; simp
    · rw [if_neg q, if_neg]
      · rfl
      · intro z; cases z; exact q ⟨rfl, rfl⟩
  · show q ∈ bindsE A ↔ _
    simp [e2]
  · show q ∈ parE A ↔ _
    simp [e1]
  · show l ∈ letsE A ↔ _
    simp [e3]
  · show ((PFof E A).caught i ∨ _) ↔ _
    simp only [Esc_iff S hx hb]
    refine or_congr_right ?_
    constructor
    · rintro ⟨a, l, b, d⟩
      exact ⟨l, ⟨a, b⟩, fun z => d ((let_pre S hE ((List.takeWhile_sublist _).subset b)).mpr z)⟩
    · rintro ⟨l, ⟨a, b⟩, d⟩
      exact ⟨a, l, b, fun z => d ((let_pre S hE ((List.takeWhile_sublist _).subset b)).mp z)⟩
  · show ((PFof E A).inn l i ∨ _) ↔ _
    rw [Esc_iff S hx hb, e1]
    simp
theorem row_eqv {cnt : Tag → Int → Nat} {lets : Int → Prop} (hx : e.useOf = none) (e1 : e.lamOf = none) (e2 : e.binds = []) (e3 : ∀ l, lets l ↔ l ∈ letsE A ∨ e.letOf = some l) (e4 : ∀ tg x, tg ≠ .lambda → cnt tg x = cntE A tg x + if e.row = some (tg, x) then 1 else 0) :
    ({ PFof E A with cnt := cnt, lets := lets } : PF).Eqv (PFof E (A ++ [e])) := by
  refine snoc_eqv e4 (fun q => ?_) (fun q => ?_) e3 (fun i => ?_) fun l i => ?_
  · show q ∈ bindsE A ↔ _
    simp [e2]
  · show q ∈ parE A ↔ _
    simp [e1]
  · show (PFof E A).caught i ↔ _
    constructor
    · exact .inl
    · rintro (q | ⟨l, q, _⟩)
      · exact q
      · exact (Esc_no hx _ _ q).elim
  · show (PFof E A).inn l i ↔ _
    rw [e1]
    constructor
    · exact fun q => ⟨nofun, .inl q⟩
    · rintro ⟨_, q | q⟩
      · exact q
      · exact (Esc_no hx _ _ q).elim
theorem bump_row {tg : Tag} {x : Int} (e4 : e.row = some (tg, x)) (tg' : Tag) (i : Int) : bump (cntE A) tg x tg' i = cntE A tg' i + if e.row = some (tg', i) then 1 else 0 := by
  unfold bump
  rw [e4]
  by_cases q : tg' = tg ∧ i = x
  · obtain ⟨rfl, rfl⟩ := q; simp
  · rw [if_neg q, if_neg]
    · rfl
    · intro z; cases z; exact q ⟨rfl, rfl⟩
theorem dom_snoc {ad : Sl → Option Addr} (dom : ∀ l, (∃ a, ad (.inn l) = some a) ↔ ∃ e ∈ A, e.lamOf = some l) (h : e.lamOf = none) : ∀ l, (∃ a, ad (.inn l) = some a) ↔ ∃ f ∈ A ++ [e], f.lamOf = some l := fun l => by
  rw [dom l]
  constructor
  · rintro ⟨f, a, b⟩; exact ⟨f, List.mem_append_left _ a, b⟩
  · rintro ⟨f, a, b⟩
    rcases List.mem_append.mp a with a | a
    · exact ⟨f, a, b⟩
    · rw [List.mem_singleton.mp a, h] at b; cases b
end

section
variable {w : World} {k : Nat} {n T : Led} {l : Lc} {Q : Flow → Lc → Led → Prop} {a : Addr} {vs : List Value} {kd : Kd} {b r : Sts}
theorem kind_step {j : Int} {t : Tok} (NA : NodeAt T a vs kd) (hs : Le T n) (l1 : l 1 = some (.ref a)) (h : kd.num = j → wB w k b l n Q) (h2 : kd.num ≠ j → wB w k r l n Q) : wS w k (.ite (.cmp .Eq (.attr (.v 1) q_kind) (.g (.int j t))) b r) l n Q := by
  refine s_ite (t_cmp (e_attr (e_v l1 (ok_kind (NA.mono hs) (e_g (ok_eq_int ⟨_, rfl, ?_⟩))))))
  by_cases q : kd.num = j
  · have : (kd.num == j) = true := by simpa using q
    rw [this]; exact h q
  · have : (kd.num == j) = false := by simpa using q
    rw [this]; exact h2 q
theorem kin_step {i j : Int} {t u : Tok} (NA : NodeAt T a vs kd) (hs : Le T n) (l1 : l 1 = some (.ref a)) (h : ∀ x o, x ∉ keys n → kd.num = i ∨ kd.num = j → wB w k b l ((x, o) :: n) Q) (h2 : ∀ x o, x ∉ keys n → ¬ (kd.num = i ∨ kd.num = j) → wB w k r l ((x, o) :: n) Q) :
    wS w k (.ite (.cmp .In (.attr (.v 1) q_kind) (.tuple (.cons (.g (.int i t)) (.cons (.g (.int j u)) .nil)))) b r) l n Q := by
  refine s_ite (t_cmp (e_attr (e_v l1 (ok_kind (NA.mono hs) (e_tuple (es_cons (e_g (es_cons (e_g (es_nil ⟨zl (by simp), fun x hx => ?_⟩))))))))))
  refine ok_in_ints (ns := [i, j]) (.head _) (.cons _ _ (.cons _ _ .nil)) ⟨_, rfl, ?_⟩
  by_cases q : kd.num = i ∨ kd.num = j
  · have : decide (kd.num ∈ [i, j]) = true := by simpa using q
    rw [this]; exact h x _ hx q
  · have : decide (kd.num ∈ [i, j]) = false := by simpa using q
    rw [this]; exact h2 x _ hx q
end
theorem loc_of {kd : Kd} (h : kd.num = 1) : ∃ x, kd = .loc x := by cases kd <;> first | exact ⟨_, rfl⟩ | exact num_ne h rfl
theorem glob_of {kd : Kd} (h : kd.num = 2) : ∃ x, kd = .glob x := by cases kd <;> first | exact ⟨_, rfl⟩ | exact num_ne h rfl
theorem setl_of {kd : Kd} (h : kd.num = 3) : ∃ x, kd = .setl x := by cases kd <;> first | exact ⟨_, rfl⟩ | exact num_ne h rfl
theorem setg_of {kd : Kd} (h : kd.num = 4) : ∃ x, kd = .setg x := by cases kd <;> first | exact ⟨_, rfl⟩ | exact num_ne h rfl
theorem defi_of {kd : Kd} (h : kd.num = 5) : ∃ x, kd = .defi x := by cases kd <;> first | exact ⟨_, rfl⟩ | exact num_ne h rfl
theorem fix_of {kd : Kd} (h : kd.num = 11) : ∃ x, kd = .fix x := by cases kd <;> first | exact ⟨_, rfl⟩ | exact num_ne h rfl
theorem plain_ev {c : List Int} {kd op : Kd} {m : Nat} (h1 : kd.num ≠ 1) (h3 : kd.num ≠ 3) (h2 : kd.num ≠ 2) (h4 : ¬ (kd.num = 4 ∨ kd.num = 5)) (h11 : kd.num ≠ 11) (h7 : kd.num ≠ 7) (h8 : kd.num ≠ 8) :
    Ev.useOf ⟨c, kd, op, m⟩ = none ∧ Ev.lamOf ⟨c, kd, op, m⟩ = none ∧ Ev.binds ⟨c, kd, op, m⟩ = [] ∧ Ev.letOf ⟨c, kd, op, m⟩ = none ∧ Ev.row ⟨c, kd, op, m⟩ = none := by
  cases kd <;> first | exact ⟨rfl, rfl, rfl, rfl, rfl⟩ | exact absurd rfl h1 | exact absurd rfl h3 | exact absurd rfl h2 | exact absurd (.inl rfl) h4 | exact absurd (.inr rfl) h4 | exact absurd rfl h11 | exact absurd rfl h7 | exact absurd rfl h8
set_option maxHeartbeats 1000000 in
theorem note_ok {w : World} {k m : Nat} {n T : Led} {fa a : Addr} {E A B : List Ev} {e : Ev} {N L : Int → Prop} {vs : List Value} {u : Tok} (S : Sub [] [] N L E) (hE : E = A ++ e :: B) (F : FA w T n fa E A m) (NA : NodeAt T a vs e.kd) (hvs : vs.length = e.m)
    (ho : e.kd = .call → ∃ yo ovs vs0, vs = .ref yo :: ovs ∧ NodeAt T yo vs0 e.op) (hcl : e.c.length ≤ 20) (hm : m ≤ 100000) :
    OK w (k + 6) (call (.ref 501) [.ref fa, .ref a, .int (hd e.c) u]) n fun v n' => v = .none ∧ FA w T n' fa E (A ++ [e]) (m + 50) := by
  obtain ⟨ad, FI0, X, dom⟩ := F
  obtain ⟨c, kd, op, mm⟩ := e
  refine OK.post fun P hP => (call_note_node ?_).ok
  have heE : ⟨c, kd, op, mm⟩ ∈ E := mem_split hE
  have hs := X.sub
  dsimp only at NA hvs ho hcl
  unfold ir_note_node
  have fin0 : ∀ {n' ad' m' p'}, (∀ s, s.base = true → ad' s = ad s) → FX w T n' ad' m' (RF p' ad') → m' ≤ m + 50 → p'.Eqv (PFof E (A ++ [⟨c, kd, op, mm⟩])) → (∀ l, (∃ a, ad' (.inn l) = some a) ↔ ∃ f ∈ A ++ [⟨c, kd, op, mm⟩], f.lamOf = some l) →
      P .none n' := fun hb X' hm' hp hd' => hP _ _ ⟨rfl, _, FI0.mono (Le.refl _) hb, X'.imp hm' (RF_eqv hp), hd'⟩
  have use : ∀ {tg x n1}, tg ≠ Tag.lambda → Ev.useOf ⟨c, kd, op, mm⟩ = some x → Ev.lamOf ⟨c, kd, op, mm⟩ = none → Ev.binds ⟨c, kd, op, mm⟩ = [] → Ev.letOf ⟨c, kd, op, mm⟩ = none → Ev.row ⟨c, kd, op, mm⟩ = some (tg, x) → FX w T n1 ad (m + 1) (RF { PFof E A with cnt := bump (cntE A) tg x } ad) →
      ∀ t, OK w (k + 5) (call (.ref 480) [.ref fa, .int x t, .int (hd c) u]) n1 fun v n' => v = .none ∧ P .none n' := fun {tg x n1} ht q1 q2 q3 q4 q5 X1 t => by
    obtain ⟨h, b1, b2, b3⟩ := use_pre S hE q1
    refine (meet_ok (k := k + 4) X1 FI0 (c := c) (x := x) (h := h) b1 (fun j hj => b2 j (sub_prefix (A' := A) hE _ hj)) b3 (chain_pre S hE dom) (by omega)).mono ?_
    rintro v n' ⟨rfl, X2⟩
    exact ⟨rfl, fin0 (fun _ _ => rfl) X2 (by omega) (use_eqv S hE q1 (sub_prefix (A' := A) hE _ b1) q2 q3 q4 q5) (dom_snoc dom q2)⟩
  refine b_one (kind_step NA hs rfl (fun h1 => ?_) fun h1 => ?_)
  · obtain ⟨x, rfl⟩ := loc_of h1
    repeat' walk_at "st"
    refine ok_fact FI0 X.sub .read rfl fun ar har => ?_
    repeat' walk_at "st"
    refine ok_number (NA.mono X.sub) (.inl rfl) fun tx => ?_
    repeat' walk_at "st"
    refine ⟨kp_count_in, (count_ok (k := k + 4) (tg := .read) X nofun har (by omega)).mono ?_⟩
    rintro _ n1 ⟨rfl, X1⟩
    refine ⟨nofun, ?_⟩
    repeat' walk_at "st"
    refine ⟨_, _, fun pl => ok_factM FI0 X1.sub (meet_mOk _) (fun D => rfl), ?_⟩
    repeat' walk_at "st"
    refine ok_number (NA.mono X1.sub) (.inl rfl) fun tx => ?_
    repeat' walk_at "st"
    refine ⟨kp_Facts_meet, (use (x := x) (tg := .read) nofun rfl rfl rfl rfl rfl X1 _).mono ?_⟩
    rintro _ n2 ⟨rfl, F2⟩
    refine ⟨nofun, ?_⟩
    repeat' walk_at "st"
    exact F2
  refine b_one (kind_step NA hs rfl (fun h3 => ?_) fun h3 => ?_)
  · obtain ⟨x, rfl⟩ := setl_of h3
    repeat' walk_at "st"
    refine ok_fact FI0 X.sub .set rfl fun ar har => ?_
    repeat' walk_at "st"
    refine ok_number (NA.mono X.sub) (.inr rfl) fun tx => ?_
    repeat' walk_at "st"
    refine ⟨kp_count_in, (count_ok (k := k + 4) (tg := .set) X nofun har (by omega)).mono ?_⟩
    rintro _ n1 ⟨rfl, X1⟩
    refine ⟨nofun, ?_⟩
    repeat' walk_at "st"
    refine ⟨_, _, fun pl => ok_factM FI0 X1.sub (meet_mOk _) (fun D => rfl), ?_⟩
    repeat' walk_at "st"
    refine ok_number (NA.mono X1.sub) (.inr rfl) fun tx => ?_
    repeat' walk_at "st"
    refine ⟨kp_Facts_meet, (use (x := x) (tg := .set) nofun rfl rfl rfl rfl rfl X1 _).mono ?_⟩
    rintro _ n2 ⟨rfl, F2⟩
    refine ⟨nofun, ?_⟩
    repeat' walk_at "st"
    exact F2
  refine b_one (kind_step NA hs rfl (fun h2 => ?_) fun h2 => ?_)
  · obtain ⟨x, rfl⟩ := glob_of h2
    repeat' walk_at "st"
    refine ok_fact FI0 X.sub .rg rfl fun ar har => ?_
    repeat' walk_at "st"
    refine ok_symbol (NA.mono X.sub) (.inl rfl) fun tx => ?_
    repeat' walk_at "st"
    refine ⟨kp_count_in, (count_ok (k := k + 4) (tg := .glob) X nofun har (by omega)).mono ?_⟩
    rintro _ n1 ⟨rfl, X1⟩
    refine ⟨nofun, ?_⟩
    repeat' walk_at "st"
    exact fin0 (fun _ _ => rfl) X1 (by omega) (row_eqv rfl rfl rfl (by simp [Ev.letOf, letB, PFof]) fun tg i _ => bump_row rfl tg i) (dom_snoc dom rfl)
  refine b_one (kin_step NA hs rfl (fun tx to htx h4 => ?_) fun tx to htx h4 => ?_)
  · have X := X.alloc (o := to) htx
    rcases h4 with h4 | h4
    · obtain ⟨x, rfl⟩ := setg_of h4
      repeat' walk_at "st"
      refine ok_fact FI0 X.sub .sg rfl fun ar har => ?_
      repeat' walk_at "st"
      refine ok_symbol (NA.mono X.sub) (.inr (.inl rfl)) fun tx => ?_
      repeat' walk_at "st"
      refine ⟨kp_count_in, (count_ok (k := k + 4) (tg := .setGlob) X nofun har (by omega)).mono ?_⟩
      rintro _ n1 ⟨rfl, X1⟩
      refine ⟨nofun, ?_⟩
      repeat' walk_at "st"
      exact fin0 (fun _ _ => rfl) X1 (by omega) (row_eqv rfl rfl rfl (by simp [Ev.letOf, letB, PFof]) fun tg i _ => bump_row rfl tg i) (dom_snoc dom rfl)
    · obtain ⟨x, rfl⟩ := defi_of h4
      repeat' walk_at "st"
      refine ok_fact FI0 X.sub .sg rfl fun ar har => ?_
      repeat' walk_at "st"
      refine ok_symbol (NA.mono X.sub) (.inr (.inr rfl)) fun tx => ?_
      repeat' walk_at "st"
      refine ⟨kp_count_in, (count_ok (k := k + 4) (tg := .setGlob) X nofun har (by omega)).mono ?_⟩
      rintro _ n1 ⟨rfl, X1⟩
      refine ⟨nofun, ?_⟩
      repeat' walk_at "st"
      exact fin0 (fun _ _ => rfl) X1 (by omega) (row_eqv rfl rfl rfl (by simp [Ev.letOf, letB, PFof]) fun tg i _ => bump_row rfl tg i) (dom_snoc dom rfl)
  have X := X.alloc (o := to) htx
  replace hs := hs.trans (Le.cons (p := (tx, to)))
  refine b_one (kind_step NA hs rfl (fun h11 => ?_) fun h11 => ?_)
  · obtain ⟨nums, rfl⟩ := fix_of h11
    refine b_one (bind_loop (j := hd c) (p := PFof E A) (m := m) FI0 rfl (fun l' n' Q k1 k2 hl hq => e_v (k2.trans rfl) (hq _)) ?_)
    · repeat' walk_at "st"
      obtain ⟨nl, nvs, ll, lvs, y, e, i, ⟨epl, hnl⟩, z, l2, z2, z3⟩ := id NA
      refine ok_attr (i.mono X.sub) (at_415_numbers _) rfl rfl ?_
      refine ⟨nl, nvs, nums, epl, rfl, X.sub _ hnl, fun s b hb e => X.off s b hb (e ▸ mem_keys hnl), z, X, by have := S.few _ heE; simpa [Ev.binds] using this, by omega, fun l' n' X' => ?_⟩
      repeat' walk_at "st"
      refine fin0 (fun _ _ => rfl) X' (by omega) (snoc_eqv ?_ ?_ ?_ ?_ ?_ ?_) (dom_snoc dom rfl)
      · intro tg x _; simp [Ev.row, PFof]
      · intro q; simp [Ev.binds, PFof]
      · intro q; simp [Ev.lamOf, PFof]
      · intro q; simp [Ev.letOf, letB, PFof]
      · intro x; simp [Esc, Ev.useOf]
      · intro l x; simp [Esc, Ev.useOf, Ev.lamOf]
  refine b_one (kind_step NA hs rfl (fun h7 => ?_) fun h7 => ?_)
  · obtain ⟨l, ps, r, rfl⟩ := lam_of h7
    repeat' walk_at "st"
    refine ok_fact FI0 X.sub .parent rfl fun ap hap => ?_
    repeat' walk_at "st"
    refine ok_label (NA.mono X.sub) fun tl => ?_
    repeat' walk_at "st"
    refine X.put hap (by omega) (R' := RF { PFof E A with par := parE A ++ [(l, hd c)] } ad) ?_ ?_ fun n1 X1 _ => ?_
    · intro s' i' v hne r
      cases s' with
      | parent => exact mapR_snoc (hne.resolve_left fun q => q rfl) r
      | _ => exact r
    · exact .inr ⟨hd c, u, rfl, List.mem_append_right _ (.head _)⟩
    repeat' walk_at "st"
    refine e_dict fun an han hlow => ?_
    repeat' walk_at "st"
    refine ok_fact FI0 (X1.sub.trans Le.cons) .inner rfl fun ai hai => ?_
    repeat' walk_at "st"
    refine ok_label (NA.mono (X1.sub.trans Le.cons)) fun tl => ?_
    repeat' walk_at "st"
    refine X1.reset han hlow hai (by omega) fun n2 ad2 g1 g2 X2 => ?_
    have hb2 : ∀ s : Sl, s.base = true → ad2 s = ad s := fun s hs => g1 s (by rintro rfl; cases hs)
    have FI2 : FI T fa ad2 := FI0.mono (Le.refl _) hb2
    repeat' walk_at "st"
    refine (bind_loop (j := l) (p := { PFof E A with par := parE A ++ [(l, hd c)], inn := fun l' x => l' ≠ l ∧ (PFof E A).inn l' x }) (m := m + 1 + 1) FI2 rfl (fun l' n' Q k1 k2 hl hq => e_attr (e_v (k1.trans rfl) (ok_label (NA.mono hl) hq))) ?_)
    · repeat' walk_at "st"
      refine ⟨_, _, fun pl => ok_bindersM (NA.mono X2.sub), ?_⟩
      repeat' walk_at "st"
      refine ⟨kp_Lambda_binders, (binders_ok (k := k + 4) (NA.mono X2.sub)).mono ?_⟩
      rintro v n3 ⟨us, hus, d, epd, rfl, hdd, rfl⟩
      refine ⟨d, us, _, epd, rfl, .head _, fun s b hb e => ?_, hus, X2.alloc hdd, by have := S.few _ heE; simpa [Ev.binds] using this, by omega, fun l' n' X' => ?_⟩
      · obtain ⟨_, D, _⟩ := X2.at' s b hb
        exact hdd (e ▸ D.key)
      repeat' walk_at "st"
      refine fin0 hb2 X' (by omega) (snoc_eqv ?_ ?_ ?_ ?_ ?_ ?_) fun l' => ?_
      · intro tg x ht; simp [Ev.row, PFof, Ne.symm ht]
      · intro q; simp [Ev.binds, PFof]
      · intro q
        show q ∈ parE A ++ [(l, hd c)] ↔ q ∈ parE A ∨ some l = some q.1 ∧ hd c = q.2
        rw [List.mem_append, List.mem_singleton]
        obtain ⟨q1, q2⟩ := q
        simp [eq_comm]
      · intro q; simp [Ev.letOf, letB, PFof]
      · intro x; simp [Esc, Ev.useOf]
      · intro l' x
        show (l' ≠ l ∧ (PFof E A).inn l' x) ↔ some l ≠ some l' ∧ _
        simp [Esc, Ev.useOf, eq_comm]
      · by_cases q : l' = l
        · subst q
          exact ⟨fun _ => ⟨⟨c, .lam l' ps r, op, mm⟩, by simp, rfl⟩, fun _ => ⟨an, g2⟩⟩
        · rw [g1 (.inn l') (fun e => q (by cases e; rfl)), dom l']
          constructor
          · rintro ⟨f, a, b⟩; exact ⟨f, List.mem_append_left _ a, b⟩
          · rintro ⟨f, a, b⟩
            rcases List.mem_append.mp a with a | a
            · exact ⟨f, a, b⟩
            · rw [List.mem_singleton.mp a] at b; cases b; exact absurd rfl q
  refine b_one (kind_step NA hs rfl (fun h8 => ?_) fun h8 => ?_)
  · cases call_of h8
    obtain ⟨yo, ovs, vs0, rfl, NO⟩ := ho rfl
    have part2 : ∀ n1 (cnt : Tag → Int → Nat), FX w T n1 ad (m + 1) (RF { PFof E A with cnt := cnt } ad) → (∀ tg x, tg ≠ .lambda → cnt tg x = cntE A tg x + if Ev.row ⟨c, .call, op, mm⟩ = some (tg, x) then 1 else 0) → ∀ Q : Flow → Lc → Led → Prop, (∀ n', P .none n' → Q .next (initL [.ref fa, .ref a, .int (hd c) u]) n') →
        wB w (k + 5) (.cons (.ite (.call (.g (.ref 424)) (.cons (.v 1) .nil)) (.cons (.asgI (.attr (.v 0) s_lets_) (.attr (.attr (.v 1) s_operator_) s_label_) (.bool true)) .nil) .nil) .nil) (initL [.ref fa, .ref a, .int (hd c) u]) n1 Q := fun n1 cnt X1 hcnt Q hq => by
      refine b_cons (s_ite (t_call ?_))
      repeat' walk_at "st"
      refine ⟨kp_is_let, is_let_ok (k := k + 4) (NA.mono X1.sub) (op := op) (fun _ => ⟨yo, ovs, vs0, rfl, NO.mono X1.sub⟩) ⟨_, rfl, ?_⟩⟩
      have elo : Ev.letOf ⟨c, .call, op, mm⟩ = letB .call op ((Value.ref yo :: ovs).length - 1) := by unfold Ev.letOf; rw [← hvs]
      cases hlo : letB .call op ((Value.ref yo :: ovs).length - 1) with
      | none =>
        simp only [Option.isSome_none]
        repeat' walk_at "st"
        refine hq _ (fin0 (fun _ _ => rfl) X1 (by omega) (row_eqv (lets := fun l => l ∈ letsE A) rfl rfl rfl (fun l => by rw [elo, hlo]; simp) hcnt) (dom_snoc dom rfl))
      | some l =>
        simp only [Option.isSome_some]
        obtain ⟨ps, r, rfl⟩ := isLet_some (op := op) hlo
        repeat' walk_at "st"
        refine ok_fact FI0 X1.sub .lets rfl fun al hal => ?_
        repeat' walk_at "st"
        refine ok_operator (NA.mono X1.sub) fun yo' ovs' e => ?_
        cases e
        repeat' walk_at "st"
        refine ok_label (NO.mono X1.sub) fun tl => ?_
        refine X1.put hal (by omega) (R' := RF { PFof E A with cnt := cnt, lets := fun i => i ∈ letsE A ∨ i = l } ad) ?_ ?_ fun n2 X2 _ => ?_
        · intro s' i' v hne r
          cases s' with
          | lets =>
            have : i' ≠ l := hne.resolve_left fun q => q rfl
            refine setR_iff (p' := fun i => i ∈ letsE A ∨ i = l) ?_ r
            show i' ∈ letsE A ↔ _
            simp [this]
          | _ => exact r
        · exact .inr ⟨rfl, .inr rfl⟩
        repeat' walk_at "st"
        refine hq _ (fin0 (fun _ _ => rfl) X2 (by omega) (row_eqv rfl rfl rfl (fun l' => by rw [elo, hlo]; simp [eq_comm]) hcnt) (dom_snoc dom rfl))
    refine b_cons (s_ite (t_cmp ?_))
    repeat' walk_at "st"
    refine ok_operator (NA.mono X.sub) fun yo' ovs' e => ?_
    cases e
    repeat' walk_at "st"
    refine ok_kind (NO.mono X.sub) ?_
    repeat' walk_at "st"
    refine ok_eq_int ⟨_, rfl, ?_⟩
    by_cases hop : op.num = 1
    · obtain ⟨x, rfl⟩ : ∃ x, op = .loc x := by cases op <;> first | exact ⟨_, rfl⟩ | cases hop
      simp only [Kd.num, Int.reduceBEq]
      repeat' walk_at "st"
      refine ok_fact FI0 X.sub .called rfl fun ar har => ?_
      repeat' walk_at "st"
      refine ok_operator (NA.mono X.sub) fun yo' ovs' e => ?_
      cases e
      repeat' walk_at "st"
      refine ok_number (NO.mono X.sub) (.inl rfl) fun tx => ?_
      repeat' walk_at "st"
      refine ⟨kp_count_in, (count_ok (k := k + 4) (tg := .called) X nofun har (by omega)).mono ?_⟩
      rintro _ n1 ⟨rfl, X1⟩
      refine ⟨nofun, ?_⟩
      refine part2 n1 _ X1 (fun tg i _ => bump_row rfl tg i) _ fun n' F' => ?_
      repeat' walk_at "st"
      exact F'
    · have : (op.num == 1) = false := by simpa using hop
      simp only [this]
      refine b_nil ?_
      refine part2 _ (cntE A) (X.imp (by omega) fun _ _ _ r => r) (fun tg i _ => ?_) _ fun n' F' => ?_
      · have : Ev.row ⟨c, .call, op, mm⟩ = none := by
          cases op <;> first | rfl | exact absurd rfl hop
        rw [this]; simp [PFof]
      repeat' walk_at "st"
      exact F'
  obtain ⟨p1, p2, p3, p4, p5⟩ := plain_ev (c := c) (op := op) (m := mm) h1 h3 h2 h4 h11 h7 h8
  repeat' walk_at "st"
  exact fin0 (fun _ _ => rfl) X (by omega) (row_eqv p1 p2 p3 (by simp [p4, PFof]) (by simp [p5, PFof])) (dom_snoc dom p2)
/-! Fct5 -/
noncomputable def dictIr : List Str → Sts
  | [] => .nil
  | nm :: r => .cons (.asgA (.v 0) nm .dict) (dictIr r)
noncomputable def Sl.ix : Sl → Nat
  | .read => 0 | .set => 1 | .called => 2 | .bound => 3 | .caught => 4 | .parent => 5 | .lets => 6 | .inner => 7 | .rg => 8 | .sg => 9 | .inn _ => 0
theorem Sl.ix_lt (s : Sl) : s.ix < 10 := by cases s <;> simp [Sl.ix]
noncomputable def Sl.ofIx : Nat → Sl
  | 0 => .read | 1 => .set | 2 => .called | 3 => .bound | 4 => .caught | 5 => .parent | 6 => .lets | 7 => .inner | 8 => .rg | _ => .sg
theorem Sl.of_ix {s : Sl} (h : s.base = true) : Sl.ofIx s.ix = s := by cases s <;> first | rfl | (cases h; done)
theorem Sl.ix_inj {s s' : Sl} (h : s.base = true) (h' : s'.base = true) (e : s.ix = s'.ix) : s = s' := by rw [← Sl.of_ix h, ← Sl.of_ix h', e]
section
variable {w : World} {k : Nat}
theorem cons_of {as : List Addr} {n : Nat} (h : as.length = n + 1) : ∃ a r, as = a :: r ∧ r.length = n := by
  cases as with
  | nil => cases h
  | cons a r => exact ⟨a, r, rfl, Nat.succ.inj h⟩
theorem facts_init {x dx : Addr} {l : Lc} {Q : Flow → Lc → Led → Prop} (l0 : l 0 = some (.ref x)) : ∀ (names : List Str) {n : Led} {es : List DictEntry} {ep : Nat} {fs : List (Str × Value)}, (x, instObj 483 dx) ∈ n → (dx, dictOf es ep) ∈ n → x ≠ dx → FieldsAre es fs → es.length + names.length ≤ 99 →
    (names.all fun nm => setOk (KK w.params) 483 nm) = true →
    (∀ n' es' ep' (as : List Addr), (x, instObj 483 dx) ∈ n' → (dx, dictOf es' ep') ∈ n' → FieldsAre es' (fieldsBy names (as.map .ref) fs) → es'.length ≤ 100 → as.length = names.length → as.Nodup → (∀ a ∈ as, a ∉ keys n ∧ DictAt w n' a []) → (∀ p ∈ n, p.1 ≠ dx → p ∈ n') → Q .next l n') → wB w k (dictIr names) l n Q
  | [], n, es, ep, fs, h1, h2, hne, F, hz, hs, hq => b_nil (hq n es ep [] h1 h2 F (by simp at hz; omega) rfl List.nodup_nil nofun fun p hp _ => hp)
  | nm :: r, n, es, ep, fs, h1, h2, hne, F, hz, hs, hq => by
    simp only [List.all_cons, Bool.and_eq_true] at hs
    simp only [List.length_cons] at hz
    refine b_cons (s_asgA (e_dict fun a ha hlow => e_v l0 (ok_setattr (.tail _ h1) (.tail _ h2) F (by omega) hs.1 fun es' ep' F' hl' => ?_)))
    have hadx : a ≠ dx := fun e => ha (e ▸ mem_keys h2)
    refine facts_init l0 r (mem_upd_ne (.tail _ h1) hne) (mem_upd_self (.tail _ h2)) hne F' (by omega) hs.2 fun n' es2 ep2 as g1 g2 g3 g4 g5 g6 g7 g8 => ?_
    refine hq n' es2 ep2 (a :: as) g1 g2 g3 g4 (by simp [g5]) (List.nodup_cons.mpr ⟨fun hm => (g7 a hm).1 ?_, g6⟩) (fun b hb => ?_) fun p hp hne2 => g8 p (mem_upd_ne (.tail _ hp) hne2) hne2
    · rw [keys_upd]; exact .head _
    · rcases List.mem_cons.mp hb with rfl | hb
      · exact ⟨ha, ⟨_, g8 _ (mem_upd_ne (.head _) hadx) hadx, isDict_new w⟩, hlow⟩
      · obtain ⟨q1, q2⟩ := g7 b hb
        rw [keys_upd] at q1
        exact ⟨fun q => q1 (.tail _ q), q2⟩
theorem set_Facts (P : Params) : ([s_read_, s_set_, s_called_, s_bound_, s_caught_, s_parent_, s_lets_, s_inner_, s_read_globals_, s_set_globals_].all fun nm => setOk (KK P) 483 nm) = true := by kernel_rfl
theorem ir_facts_init : ir_Facts_U__initUU = dictIr [s_read_, s_set_, s_called_, s_bound_, s_caught_, s_parent_, s_lets_, s_inner_, s_read_globals_, s_set_globals_] := by rfl
theorem facts_new {T : Led} {E : List Ev} (nd : (keys T).Nodup) : OK w (k + 2) (call (.ref 483) []) T fun v n' => ∃ fa T', v = .ref fa ∧ Le T T' ∧ FA w T' n' fa E [] 0 := by
  refine OK.withNd (ok_make (mk_Facts w.params) fun x dx hx hdx hne => call_Facts_U__initUU ?_)
  rw [ir_facts_init]
  refine facts_init (es := []) (ep := 0) (fs := []) (x := x) (dx := dx) rfl _ (.head _) (.tail _ (.head _)) hne .nil (by simp) (set_Facts w.params) fun n' es ep as g1 g2 g3 g4 g5 g6 g7 g8 => ⟨rfl, fun nd' => ?_⟩
  obtain ⟨a1, as, rfl, q1⟩ := cons_of g5
  obtain ⟨a2, as, rfl, q2⟩ := cons_of q1
  obtain ⟨a3, as, rfl, q3⟩ := cons_of q2
  obtain ⟨a4, as, rfl, q4⟩ := cons_of q3
  obtain ⟨a5, as, rfl, q5⟩ := cons_of q4
  obtain ⟨a6, as, rfl, q6⟩ := cons_of q5
  obtain ⟨a7, as, rfl, q7⟩ := cons_of q6
  obtain ⟨a8, as, rfl, q8⟩ := cons_of q7
  obtain ⟨a9, as, rfl, q9⟩ := cons_of q8
  obtain ⟨a10, as, rfl, q10⟩ := cons_of q9
  cases List.length_eq_zero_iff.mp q10
  · let D : Sl → Addr := fun s => match s with
      | .read => a1 | .set => a2 | .called => a3 | .bound => a4 | .caught => a5 | .parent => a6 | .lets => a7 | .inner => a8 | .rg => a9 | .sg => a10 | .inn _ => a1
    have hT : Le T n' := fun p hp => g8 p (.tail _ (.tail _ hp)) fun e => hdx (e ▸ List.mem_map.mpr ⟨p, hp, rfl⟩)
    have hD : ∀ s : Sl, D s ∈ [a1, a2, a3, a4, a5, a6, a7, a8, a9, a10] := fun s => by cases s <;> simp [D]
    refine ⟨x, (x, instObj 483 dx) :: (dx, dictOf es ep) :: T, rfl, Le.cons.trans Le.cons, ⟨fun s => if s.base then some (D s) else none, ⟨D, fun s hs => if_pos hs, ⟨dx, es, ep, .head _, .tail _ (.head _), g3, g4⟩⟩, ⟨?_, nd', ?_, ?_, ?_⟩, fun l => ?_⟩⟩
    · intro p hp
      rcases List.mem_cons.mp hp with rfl | hp
      · exact g1
      rcases List.mem_cons.mp hp with rfl | hp
      · exact g2
      · exact hT p hp
    · intro s s' a h h'
      by_cases q : s.base = true <;> by_cases q' : s'.base = true
      · rw [if_pos q] at h; rw [if_pos q'] at h'
        cases h
        simp only [Option.some.injEq] at h'
        have hx : ∀ s : Sl, [a1, a2, a3, a4, a5, a6, a7, a8, a9, a10][s.ix]'s.ix_lt = D s := fun s => by cases s <;> rfl
        rw [← hx, ← hx] at h'
        exact Sl.ix_inj q q' ((List.getElem_inj g6).mp h').symm
      · rw [if_neg q'] at h'; cases h'
      · rw [if_neg q] at h; cases h
      · rw [if_neg q] at h; cases h
    · intro s a h
      by_cases q : s.base = true
      · rw [if_pos q] at h; cases h
        exact (g7 _ (hD s)).1
      · rw [if_neg q] at h; cases h
    · intro s a h
      by_cases q : s.base = true
      · rw [if_pos q] at h; cases h
        refine ⟨[], (g7 _ (hD s)).2, Nat.le_refl _, fun i => ?_⟩
        cases s <;> first | exact .inl ⟨rfl, rfl⟩ | exact .inl ⟨rfl, fun _ q => List.not_mem_nil q⟩ | exact .inl ⟨rfl, fun q => List.not_mem_nil q⟩ | rfl | (cases q; done) | exact .inl ⟨rfl, fun ⟨_, q, _⟩ => List.not_mem_nil q⟩
      · rw [if_neg q] at h; cases h
    · constructor
      · rintro ⟨a, h⟩; cases h
      · rintro ⟨_, q, _⟩; cases q
end
/-! Fct6 -/
/-- what waits: a node and the label around it -/
noncomputable def It (T n n1 : Led) (wl : Addr) (v : Value) (it : List Int × List Ev) : Prop := ∃ t node tk, v = .ref t ∧ (t, tupOf #[node, .int (hd it.1) tk]) ∈ n ∧ t ∉ keys n1 ∧ t ≠ wl ∧ Tr T 8 it.1 node it.2
noncomputable def evs (sts : List (List Int × List Ev)) : List Ev := (sts.map (·.2)).flatten
theorem evs_cons (p : List Int × List Ev) (sts : List (List Int × List Ev)) : evs (p :: sts) = p.2 ++ evs sts := rfl
theorem Tr.pos {T : Led} {h : Nat} {c : List Int} {v : Value} {E : List Ev} (t : Tr T h c v E) : 1 ≤ E.length := by
  cases h with
  | zero => exact t.elim
  | succ h => obtain ⟨_, _, _, _, _, _, _, rfl⟩ := t; simp
theorem It.len {T n n1 : Led} {wl : Addr} {ws : List Value} {sts : List (List Int × List Ev)} (h : All2 (It T n n1 wl) ws sts) : ws.length ≤ (evs sts).length := by
  induction h with
  | nil => exact Nat.zero_le _
  | cons a _ ih =>
    obtain ⟨_, _, _, _, _, _, _, t⟩ := a
    have := t.pos
    rw [evs_cons, List.length_append, List.length_cons]
    omega
theorem Tr.chain {T : Led} : ∀ {h : Nat} {c : List Int} {v : Value} {E : List Ev}, Tr T h c v E → ∀ e ∈ E, e.c.length + 1 ≤ c.length + h
  | 0, _, _, _, t => t.elim
  | h + 1, c, v, E, ⟨a, kd, vs, Es, _, _, A, q⟩ => by
    subst q
    intro e he
    rcases List.mem_cons.mp he with rfl | he
    · show c.length + 1 ≤ _; omega
    · obtain ⟨F, hF, he⟩ := List.mem_flatten.mp he
      have hc : (chainIn kd c).length ≤ c.length + 1 := by unfold chainIn; split <;> simp
      have : ∀ (us : List Value) (Fs : List (List Ev)), All2 (Tr T h (chainIn kd c)) us Fs → F ∈ Fs → e.c.length + 1 ≤ (chainIn kd c).length + h := fun us Fs A hm => by
        induction A with
        | nil => cases hm
        | cons t _ ih =>
          rcases List.mem_cons.mp hm with rfl | hm
          · exact t.chain e he
          · exact ih hm
      have := this _ _ A hF
      omega

section
variable {w : World} {k : Nat}
inductive WS (w : World) (T n : Led) (fa : Addr) (E : List Ev) (wl : Addr) (A : List Ev) (sts : List (List Int × List Ev)) (ws : List Value) : Prop
  | mk (n1 : Led) (ep : Nat) (h1 : Le n1 n) (h2 : FA w T n1 fa E A (50 * A.length)) (h3 : wl ∉ keys n1) (h4 : (wl, listOf ws.toArray ep) ∈ n) (h5 : All2 (It T n n1 wl) ws.reverse sts)

theorem All2.rev {α β : Type} {R : α → β → Prop} {as : List α} {bs : List β} (h : All2 R as bs) : All2 R as.reverse bs.reverse := by
  induction h with
  | nil => exact .nil
  | cons a _ ih => rw [List.reverse_cons, List.reverse_cons]; exact ih.append (.cons a .nil)

theorem flat_len_sub {a b : List (List Ev)} (h : a.Sublist b) : a.flatten.length ≤ b.flatten.length := by
  induction h with
  | slnil => exact Nat.le_refl _
  | cons x _ ih => rw [List.flatten_cons, List.length_append]; omega
  | cons_cons x _ ih => rw [List.flatten_cons, List.flatten_cons, List.length_append, List.length_append]; omega
theorem kp_parts (kd : Kd) : Callable w (.ref kd.partsAt) := by
  cases kd with
  | const => exact kp_Node_parts
  | loc _ => exact kp_Node_parts
  | glob _ => exact kp_Node_parts
  | setl _ => exact kp_SetLocal_parts
  | setg _ => exact kp_SetGlobal_parts
  | defi _ => exact kp_Define_parts
  | ite => exact kp_If_parts
  | lam _ _ _ => exact kp_Lambda_parts
  | call => exact kp_Call_parts
  | seq => exact kp_Seq_parts
  | prim => exact kp_Prim_parts
  | fix _ => exact kp_Fix_parts
theorem Tr.lens {T : Led} {h : Nat} {c : List Int} {us : List Value} {Fs : List (List Ev)} (A : All2 (Tr T h c) us Fs) : us.length ≤ Fs.flatten.length := by
  induction A with
  | nil => exact Nat.zero_le _
  | cons t _ ih =>
    have := t.pos
    rw [List.flatten_cons, List.length_append, List.length_cons]
    omega
theorem evs_map (c : List Int) (Fs : List (List Ev)) (sts : List (List Int × List Ev)) : evs (Fs.map (fun F => (c, F)) ++ sts) = Fs.flatten ++ evs sts := by
  unfold evs
  rw [List.map_append, List.flatten_append, List.map_map]
  have e : ((fun x : List Int × List Ev => x.2) ∘ fun F => (c, F)) = id := rfl
  rw [e, List.map_id]
/-- the parts are laid onto the waiting ones -/
theorem push_loop {T n : Led} {l : Lc} {fa wl : Addr} {E A : List Ev} {c : List Int} {vs : List Value} {Es : List (List Ev)} {sts : List (List Int × List Ev)} {ws : List Value} {it : Ex} {tk : Tok} {Q : Flow → Lc → Led → Prop} (l3 : l 3 = some (.ref wl)) (l1 : l 1 = some (.ref fa)) (l6 : l 6 = some (.int (hd c) tk))
    (A2 : All2 (Tr T 7 c) vs Es) (hE : (Es.flatten ++ evs sts).length ≤ 1000)
    (hit : wE w k it l n fun v n1 => ∃ d2 ep, v = .ref d2 ∧ (d2, listOf vs.reverse.toArray ep) ∈ n1 ∧ d2 ≠ wl ∧ WS w T n1 fa E wl A sts ws)
    (hq : ∀ l' n' ws', l' 1 = some (.ref fa) → l' 3 = some (.ref wl) → WS w T n' fa E wl A (Es.map (fun F => (c, F)) ++ sts) ws' → Q .next l' n') :
    wS w k (.each 7 it (.cons (.expr (.meth (.v 3) ⟨#[97, 112, 112, 101, 110, 100]⟩ (.cons (.tuple (.cons (.v 7) (.cons (.v 6) .nil))) .nil))) .nil)) l n Q := by
  refine s_each (e_join _ hit fun v n1 hh => ?_)
  obtain ⟨d2, ep, rfl, hd2, hne, W⟩ := hh
  have hl := A2.length
  have A2r := A2.rev
  refine ⟨.list d2 vs.reverse.toArray ep, rfl, hd2, trivial, fun i l' n' => i ≤ vs.length ∧ l' 1 = l 1 ∧ l' 3 = l 3 ∧ l' 6 = l 6 ∧ (d2, listOf vs.reverse.toArray ep) ∈ n' ∧ ∃ ws', WS w T n' fa E wl A ((Es.reverse.take i).reverse.map (fun F => (c, F)) ++ sts) ws',
    ⟨Nat.zero_le _, rfl, rfl, rfl, hd2, ws, by simpa using W⟩, ?_⟩
  rintro i l' n' ⟨hil, k1, k3, k6, hd2', ws', W'⟩
  refine ⟨hd2', fun hlt y hy => ?_, fun hie => ?_⟩
  · have hy : vs.reverse[i]? = some y := by simpa [Src.item] using hy
    obtain ⟨F, hF, tF⟩ := A2r.at hy
    obtain ⟨n2, ep2, s2, F2, hwl, hm, I2⟩ := W'
    have hlt2 : i < vs.length := by have := (List.getElem?_eq_some_iff.mp hy).1; simpa using this
    have hbound : (evs ((Es.reverse.take i).reverse.map (fun F => (c, F)) ++ sts)).length ≤ 1000 := by
      unfold evs at hE ⊢
      rw [List.map_append, List.flatten_append, List.length_append, List.map_map]
      rw [List.length_append] at hE
      have : ((Es.reverse.take i).reverse.map ((fun x : List Int × List Ev => x.2) ∘ fun F => (c, F))).flatten.length ≤ Es.flatten.length := by
        have e : ((fun x : List Int × List Ev => x.2) ∘ fun F => (c, F)) = id := rfl
        rw [e, List.map_id]
        have hs : (Es.reverse.take i).reverse.Sublist Es := by
          have := (List.take_sublist i Es.reverse).reverse
          rwa [List.reverse_reverse] at this
        exact flat_len_sub hs
      omega
    have hlen := It.len I2
    rw [List.length_reverse] at hlen
    refine b_cons (s_expr (e_meth (e_v (show lset 7 y l' 3 = some (.ref wl) from k3.trans l3) ⟨_, _, meth_list hm PySem.F.slot_list_append PySem.F.type_list_append, ?_⟩)))
    refine es_cons (e_tuple (es_cons (e_v (by with_unfolding_all rfl) (es_cons (e_v (show lset 7 y l' 6 = some (.int (hd c) tk) from k6.trans l6) (es_nil ⟨zl (by simp), fun t ht => es_nil ⟨callable_builtin _, ?_⟩⟩))))))
    have htw : t ≠ wl := fun e => ht (e ▸ mem_keys hm)
    refine ok_append (.tail _ hm) (zl (by simp; omega)) ⟨nofun, b_nil ⟨hlt2, k1, k3, k6, mem_upd_ne (.tail _ hd2') hne, ws' ++ [.ref t], ?_⟩⟩
    refine ⟨n2, ep2 + 1, fun p hp => mem_upd_ne (.tail _ (s2 p hp)) fun e => hwl (e ▸ List.mem_map.mpr ⟨p, hp, rfl⟩), F2, hwl, ?_, ?_⟩
    · have := mem_upd_self (o' := listOf (ws'.toArray.push (.ref t)) (ep2 + 1)) (List.mem_cons_of_mem (t, tupOf [y, .int (hd c) tk].toArray) hm)
      simpa using this
    · have e : Es.reverse.take (i + 1) = Es.reverse.take i ++ [F] := by rw [List.take_add_one, hF]; rfl
      rw [e, List.reverse_append, List.reverse_append]
      refine .cons ⟨t, y, tk, rfl, mem_upd_ne (.head _) htw, fun hk => ?_, htw, tF.mono (Le.refl _) (by omega)⟩ (I2.mono ?_)
      · obtain ⟨p, hp, e⟩ := List.mem_map.mp hk
        exact ht (e ▸ List.mem_map.mpr ⟨p, s2 p hp, rfl⟩)
      · rintro v it ⟨t', node, tk', e1, e2, e3, e4, e5⟩
        exact ⟨t', node, tk', e1, mem_upd_ne (.tail _ e2) e4, e3, e4, e5⟩
  · have hie : i = vs.length := by simpa [Src.cnt] using hie
    subst hie
    refine hq _ _ ws' (k1.trans l1) (k3.trans l3) ?_
    have : Es.reverse.take vs.length = Es.reverse := List.take_of_length_le (by simp [hl])
    rw [this, List.reverse_reverse] at W'
    exact W'

theorem WS.le {T n n' : Led} {fa wl : Addr} {E A : List Ev} {sts : List (List Int × List Ev)} {ws : List Value} (W : WS w T n fa E wl A sts ws) (h : Le n n') : WS w T n' fa E wl A sts ws := by
  obtain ⟨n1, ep, a, b, c, d, e⟩ := W
  exact ⟨n1, ep, a.trans h, b, c, h _ d, e.mono fun v it ⟨t, node, tk, h1, h2, h3⟩ => ⟨t, node, tk, h1, h _ h2, h3⟩⟩

inductive FofI (w : World) (T' : Led) (fa : Addr) (vs : List Value) (Es : List (List Ev)) (i : Nat) (l' : Lc) (n' : Led) : Prop
  | mk (h1 : i ≤ vs.length) (h2 : l' 1 = some (.ref fa)) (n1 : Led) (h3 : Le n1 n') (h4 : FA w T' n1 fa Es.flatten (Es.take i).flatten (50 * (Es.take i).flatten.length))
inductive FofJ (w : World) (T' : Led) (fa wl : Addr) (Es : List (List Ev)) (F0 : List Ev) (j : Nat) (l' : Lc) (n' : Led) : Prop
  | mk (h1 : l' 1 = some (.ref fa)) (h2 : l' 3 = some (.ref wl)) (A : List Ev) (sts : List (List Int × List Ev)) (ws : List Value) (h3 : WS w T' n' fa Es.flatten wl A sts ws) (h4 : A ++ evs sts = F0) (h5 : j = (evs sts).length)
inductive FofP (w : World) (T : Led) (Es : List (List Ev)) (v : Value) (n' : Led) : Prop
  | mk (fa : Addr) (T' n1 : Led) (h0 : v = .ref fa) (h1 : Le T T') (h2 : Le n1 n') (h3 : FA w T' n1 fa Es.flatten Es.flatten (50 * Es.flatten.length))
set_option maxHeartbeats 1000000 in
theorem facts_of_ok {T : Led} {nl : Addr} {vs : List Value} {Es : List (List Ev)} {N L : Int → Prop} (nd : (keys T).Nodup) (hnl : LsAt T nl vs) (A2 : All2 (Tr T 8 []) vs Es) (S : Sub [] [] N L Es.flatten) (hE : Es.flatten.length ≤ 1000) :
    OK w (k + 8) (call (.ref 508) [.ref nl]) T (FofP w T Es) := by
  refine OK.post fun Q hQ => (call_facts_of ?_).ok
  have hch : ∀ e ∈ Es.flatten, e.c.length ≤ 20 := by
    have : ∀ (vs : List Value) (Es : List (List Ev)), All2 (Tr T 8 []) vs Es → ∀ e ∈ Es.flatten, e.c.length ≤ 20 := fun vs Es A => by
      induction A with
      | nil => intro e he; exact absurd he List.not_mem_nil
      | cons t _ ih =>
        intro e he
        rw [List.flatten_cons] at he
        rcases List.mem_append.mp he with he | he
        · have := t.chain e he
          simp at this; omega
        · exact ih e he
    exact this _ _ A2
  obtain ⟨epn, hnl⟩ := hnl
  have hlv := A2.length
  unfold ir_facts_of
  repeat' walk_at "st"
  refine ⟨kpc_Facts, OK.less (j := 2) (facts_new (k := 0) (E := Es.flatten) nd) (by omega) |>.mono ?_⟩
  rintro _ n0 ⟨fa, T', rfl, hT, F0⟩
  have A2' := A2.mono (R' := Tr T' 8 []) fun _ _ t => t.mono hT (Nat.le_refl _)
  have s0 : Le T' n0 := by obtain ⟨ad, _, X, _⟩ := F0; exact X.sub
  repeat' walk_at "st"
  refine b_cons (s_each ?_)
  repeat' walk_at "st"
  refine ⟨.list nl vs.toArray epn, rfl, s0 _ (hT _ hnl), trivial, FofI w T' fa vs Es, ⟨Nat.zero_le _, rfl, n0, Le.refl _, F0⟩, ?_⟩
  rintro i l n ⟨hil, l1, n1, s1, F1⟩
  have sT : Le T' n1 := by obtain ⟨ad, _, X, _⟩ := F1; exact X.sub
  refine ⟨s1 _ (sT _ (hT _ hnl)), fun hlt y hy => ?_, fun hie => ?_⟩
  · have hy : vs[i]? = some y := by simpa [Src.item] using hy
    obtain ⟨F, hF, tF⟩ := A2'.at hy
    have hsplit : Es.flatten = (Es.take i).flatten ++ (F ++ (Es.drop (i + 1)).flatten) := by
      have h1 : Es.drop i = F :: Es.drop (i + 1) := by
        have := (List.getElem?_eq_some_iff.mp hF)
        obtain ⟨hi, e⟩ := this
        rw [← e]; exact List.drop_eq_getElem_cons hi
      rw [← List.flatten_cons, ← h1, ← List.flatten_append, List.take_append_drop]
    have hlt2 : i < vs.length := (List.getElem?_eq_some_iff.mp hy).1
    -- the first one waits
    refine b_cons (s_asg (e_list (es_cons (e_tuple (es_cons (e_v (by with_unfolding_all rfl) (es_cons (e_g (es_nil ⟨zl (by simp), fun t ht => es_nil ⟨zl (by simp), fun wl hwl => ?_⟩⟩)))))))))
    have W0 : WS w T' ((wl, listOf [.ref t].toArray 0) :: (t, tupOf [y, .int (-1) 754].toArray) :: n) fa Es.flatten wl (Es.take i).flatten [([], F)] [.ref t] := by
      refine ⟨n1, 0, s1.trans (Le.cons.trans Le.cons), F1, fun q => ?_, .head _, .cons ⟨t, y, 754, rfl, .tail _ (.head _), fun q => ?_, fun e => hwl (e ▸ .head _), tF⟩ .nil⟩
      · obtain ⟨p, hp, e⟩ := List.mem_map.mp q
        exact hwl (.tail _ (e ▸ List.mem_map.mpr ⟨p, s1 p hp, rfl⟩))
      · obtain ⟨p, hp, e⟩ := List.mem_map.mp q
        exact ht (e ▸ List.mem_map.mpr ⟨p, s1 p hp, rfl⟩)
    refine b_cons (s_loop (FofJ w T' fa wl Es ((Es.take i).flatten ++ F)) F.length ⟨l1, rfl, _, _, _, W0, by simp [evs], by simp [evs]⟩ ?_)
    clear W0
    rintro j l n ⟨l1, l3, A, sts, ws, W, hA, rfl⟩
    obtain ⟨n2, ep2, s2, F2, hwl2, hm, I2⟩ := W
    have hcnt : A.length + (evs sts).length ≤ 1000 := by
      have h1 := congrArg List.length hA
      have h2 := congrArg List.length hsplit
      simp only [List.length_append] at h1 h2
      omega
    have hlen := It.len I2
    rw [List.length_reverse] at hlen
    refine t_cmp (e_call (e_g (es_cons (e_v l3 (es_nil ⟨callable_builtin _, ok_len_list hm (zl (by omega)) fun tl => e_int fun _ => ok_gt_int ⟨_, rfl, ?_⟩⟩)))))
    generalize hrev : ws.reverse = rws at I2
    cases I2 with
    | nil =>
      have : ws = [] := by simpa using hrev
      subst this
      simp only [List.length_nil]
      refine b_nil ⟨hlt2, l1, n2, s2, ?_⟩
      have e : Es.take (i + 1) = Es.take i ++ [F] := by rw [List.take_add_one, hF]; rfl
      have hA' : A = (Es.take (i + 1)).flatten := by rw [e, List.flatten_append]; simpa [evs] using hA
      rw [← hA']; exact F2
    | @cons v it rws sts hv I2 =>
      have hws : ws = rws.reverse ++ [v] := by rw [← List.reverse_reverse ws, hrev]; simp
      subst hws
      obtain ⟨t1, node, tk, rfl, hm1, hk1, hw1, tr1⟩ := hv
      obtain ⟨c, F9⟩ := it
      have hpos : decide ((0 : Int) < ((rws.reverse ++ [Value.ref t1]).length : Nat)) = true := by simp
      rw [hpos]
      refine b_cons (s_asgT (e_meth (e_v l3 ⟨_, _, meth_list hm PySem.F.slot_list_pop PySem.F.type_list_pop, es_nil ⟨callable_builtin _, ok_pop hm (zl (by omega)) ⟨t1, _, rfl, mem_upd_ne hm1 hw1, rfl, ?_⟩⟩⟩)))
      obtain ⟨a, kd, us, Fs, rfl, NA, A3, hF0⟩ := tr1
      dsimp only at hF0 A3
      subst hF0
      have W2 : WS w T' (upd wl (listOf rws.reverse.toArray (ep2 + 1)) n) fa Es.flatten wl A sts rws.reverse := by
        refine ⟨n2, ep2 + 1, fun p hp => mem_upd_ne (s2 p hp) fun e => hwl2 (e ▸ List.mem_map.mpr ⟨p, hp, rfl⟩), F2, hwl2, mem_upd_self hm, ?_⟩
        rw [List.reverse_reverse]
        exact I2.mono fun v it ⟨t', node, tk', e1, e2, e3, e4, e5⟩ => ⟨t', node, tk', e1, mem_upd_ne e2 e4, e3, e4, e5⟩
      clear s2 hm I2 hwl2 F2 hm1
      obtain ⟨n2, ep2, s2, F2, hwl2, hm, I2⟩ := W2
      -- the node is noted
      let e : Ev := ⟨c, kd, opOf Fs, us.length⟩
      have hEe : Es.flatten = A ++ e :: (Fs.flatten ++ (evs sts ++ (Es.drop (i + 1)).flatten)) := by
        rw [hsplit, ← List.append_assoc, ← hA]
        simp [evs, e]
      have nd2 : (keys n2).Nodup := by obtain ⟨ad, _, X, _⟩ := F2; exact X.nd
      have hAl : A.length ≤ 1000 := by omega
      refine b_cons (s_expr (e_call (e_g (es_cons (e_v (show _ = some (Value.ref fa) from l1) (es_cons (e_v (by with_unfolding_all rfl) (es_cons (e_v (by with_unfolding_all rfl) (es_nil ⟨kp_note_node, ?_⟩))))))))))
      refine OK.use s2 nd2 (OK.less (note_ok (k := k + 1) (vs := us) (e := e) S hEe F2 NA rfl (Tr.op NA A3) (hch e (mem_split hEe)) (by omega)) (by omega)) ?_
      rintro v n3 n' ⟨rfl, F3⟩ nd' g1 g2 g3 g4 g5
      have hw3 : wl ∉ keys n3 := fun q => by
        obtain ⟨p, hp, e⟩ := List.mem_map.mp q
        rcases g5 p hp with h | h
        · exact hwl2 (e ▸ h)
        · exact h (by have e : p.1 = wl := e; rw [e]; exact mem_keys hm)
      have W3 : WS w T' n' fa Es.flatten wl (A ++ [e]) sts rws.reverse := by
        refine ⟨n3, ep2, g1, ?_, hw3, g2 _ hm hwl2, I2.mono fun v it ⟨t', node, tk', e1, e2, e3, e4, e5⟩ => ⟨t', node, tk', e1, g2 _ e2 e3, fun q => ?_, e4, e5⟩⟩
        · rw [List.length_append, List.length_singleton, Nat.mul_add]; exact F3
        · obtain ⟨p, hp, e⟩ := List.mem_map.mp q
          rcases g5 p hp with h | h
          · exact e3 (e ▸ h)
          · exact h (by have e : p.1 = t' := e; rw [e]; exact mem_keys e2)
      refine ⟨nofun, ?_⟩
      have hs3 : Le T' n' := by
        obtain ⟨ad, _, X, _⟩ := F3
        exact X.sub.trans g1
      -- the label within
      refine b_cons (s_asg (e_join (fun v n'' => n'' = n' ∧ ∃ tk, v = .int (hd (chainIn kd c)) tk) ?_ ?_))
      · refine e_ite (t_cmp (e_attr (e_v (by with_unfolding_all rfl) (ok_kind (NA.mono hs3) (e_g (ok_eq_int ⟨_, rfl, ?_⟩))))))
        by_cases hk : kd.num = 7
        · obtain ⟨lb, ps, r, rfl⟩ := lam_of hk
          simp only [Kd.num, Int.reduceBEq]
          exact e_attr (e_v (by with_unfolding_all rfl) (ok_label (NA.mono hs3) fun t => ⟨rfl, t, rfl⟩))
        · have : (kd.num == 7) = false := by simpa using hk
          rw [this]
          refine e_v (by with_unfolding_all rfl) ⟨rfl, tk, ?_⟩
          have : chainIn kd c = c := by cases kd <;> first | rfl | exact absurd rfl hk
          rw [this]
      rintro _ _ ⟨rfl, tk2, rfl⟩
      refine b_cons (push_loop (c := chainIn kd c) (tk := tk2) (fa := fa) (wl := wl) (E := Es.flatten) (A := A ++ [e]) (sts := sts) (ws := rws.reverse) (show _ = some (Value.ref wl) from l3) (show _ = some (Value.ref fa) from l1) (by with_unfolding_all rfl) A3 ?_ ?_ ?_)
      · rw [evs_cons, List.length_append, List.length_cons] at hcnt
        rw [List.length_append]
        omega
      · refine e_rev (e_meth (e_v (by with_unfolding_all rfl) ⟨_, _, fun pl => ok_partsM (NA.mono hs3), es_nil ⟨?_, (parts_ok (k := k + 6) (NA.mono hs3)).mono ?_⟩⟩))
        · exact kp_parts kd
        · rintro v n4 ⟨d, epd, rfl, hd4, rfl⟩
          intro tt ia hia
          have := Tr.lens A3
          rw [evs_cons, List.length_append, List.length_cons] at hcnt
          refine ok_rev_list (.head _) (zl (by omega)) fun d2 hd2 => ?_
          rw [krv_pick]
          refine ⟨d2, 0, rfl, .head _, fun e => ?_, W3.le (Le.cons.trans Le.cons)⟩
          obtain ⟨_, _, h1, _, _, h2, _⟩ := W3
          exact hd2 (.tail _ (e ▸ mem_keys h2))
      · intro l' n5 ws' k1 k3 W5
        refine b_nil ⟨_, ?_, ⟨k1, k3, _, _, ws', W5, ?_, rfl⟩⟩
        · rw [evs_map, evs_cons, List.length_append, List.length_append, List.length_cons]; omega
        · rw [evs_map, ← hA]
          simp [evs_cons, e]
  · have hie : i = vs.length := by simpa [Src.cnt] using hie
    subst hie
    have : Es.take vs.length = Es := List.take_of_length_le (by omega)
    rw [this] at F1
    exact b_ret ((e_v l1 (hQ _ _ ⟨fa, T', n1, rfl, hT, s1, F1⟩)))
end
/-! Law1 -/
noncomputable def tagStr : Tag → Str
  | .read => ⟨#[114, 101, 97, 100]⟩
  | .set => ⟨#[115, 101, 116]⟩
  | .glob => ⟨#[103, 108, 111, 98, 97, 108]⟩
  | .setGlob => ⟨#[115, 101, 116, 32, 103, 108, 111, 98, 97, 108]⟩
  | .called => ⟨#[99, 97, 108, 108, 101, 100]⟩
  | .lambda => ⟨#[108, 97, 109, 98, 100, 97]⟩
noncomputable abbrev LRow := Tag × Int × List Int
noncomputable def TupInts (T : Led) (ch : Addr) (c : List Int) : Prop := ∃ cvs, (ch, tupOf cvs.toArray) ∈ T ∧ IntsAre cvs c
theorem TupInts.mono {T T' : Led} {ch : Addr} {c : List Int} (h : TupInts T ch c) (s : Le T T') : TupInts T' ch c := let ⟨v, a, b⟩ := h; ⟨v, s _ a, b⟩
noncomputable def RowAt (T : Led) (v : Value) (r : LRow) : Prop := ∃ t tk tx ch, v = .ref t ∧ (t, tupOf #[.str (tagStr r.1) tk, .int r.2.1 tx, .ref ch]) ∈ T ∧ TupInts T ch r.2.2
theorem RowAt.mono {T T' : Led} {v : Value} {r : LRow} (h : RowAt T v r) (s : Le T T') : RowAt T' v r := let ⟨t, tk, tx, ch, a, b, c⟩ := h; ⟨t, tk, tx, ch, a, s _ b, c.mono s⟩
noncomputable def Ev.rows (e : Ev) : List LRow := (e.row.map fun r => (r.1, r.2, e.c)).toList
noncomputable def rowsE (E : List Ev) : List LRow := E.flatMap Ev.rows
theorem rowsE_cons (e : Ev) (E : List Ev) : rowsE (e :: E) = e.rows ++ rowsE E := List.flatMap_cons ..
theorem rowsE_append (A B : List Ev) : rowsE (A ++ B) = rowsE A ++ rowsE B := List.flatMap_append ..
theorem letsE_cons (e : Ev) (E : List Ev) : letsE (e :: E) = e.letOf.toList ++ letsE E := by
  unfold letsE
  rw [List.filterMap_cons]
  cases e.letOf <;> rfl
theorem rowsE_len (E : List Ev) : (rowsE E).length ≤ E.length := by
  induction E with
  | nil => exact Nat.le_refl _
  | cons e E ih =>
    rw [rowsE_cons, List.length_append, List.length_cons]
    have : e.rows.length ≤ 1 := by unfold Ev.rows; cases e.row <;> simp
    omega
theorem letsE_len (E : List Ev) : (letsE E).length ≤ E.length := List.length_filterMap_le ..

/-- while the law walks: the rows found, the homes, the lets -/
structure LX (w : World) (T n : Led) (fo ho le : Addr) (R : List LRow) (Bs : List (Int × Int)) (Ls : List Int) (m : Nat) : Prop where
  sub : Le T n
  nd : (keys n).Nodup
  fnd : ∃ vs ep, (fo, listOf vs.toArray ep) ∈ n ∧ All2 (RowAt T) vs R
  hom : ∃ kvs, DictAt w n ho kvs ∧ kvs.length ≤ m ∧ ∀ i, mapR Bs i (valueAt kvs i)
  lts : ∃ vs ep, (le, listOf vs.toArray ep) ∈ n ∧ IntsAre vs Ls
  off1 : fo ∉ keys T
  off2 : ho ∉ keys T
  off3 : le ∉ keys T
  ne12 : fo ≠ ho
  ne13 : fo ≠ le
  ne23 : ho ≠ le

section
variable {w : World} {k m : Nat} {n T : Led} {fo ho le : Addr} {R : List LRow} {Bs : List (Int × Int)} {Ls : List Int} {l : Lc} {Q : Flow → Lc → Led → Prop}
theorem LX.alloc' (X : LX w T n fo ho le R Bs Ls m) {a : Addr} {o : Obj} (h : a ∉ keys n) : LX w T ((a, o) :: n) fo ho le R Bs Ls m := by
  obtain ⟨vs, ep, a1, a2⟩ := X.fnd
  obtain ⟨kvs, D, b2, b3⟩ := X.hom
  obtain ⟨us, ep2, c1, c2⟩ := X.lts
  exact ⟨X.sub.trans Le.cons, List.nodup_cons.mpr ⟨h, X.nd⟩, ⟨vs, ep, .tail _ a1, a2⟩, ⟨kvs, D.mono Le.cons, b2, b3⟩, ⟨us, ep2, .tail _ c1, c2⟩, X.off1, X.off2, X.off3, X.ne12, X.ne13, X.ne23⟩
theorem LX.alloc (X : LX w T n fo ho le R Bs Ls m) {a : Addr} {o : Obj} (h : a ∉ keys n) : LX w ((a, o) :: T) ((a, o) :: n) fo ho le R Bs Ls m := by
  have Y := X.alloc' (o := o) h
  obtain ⟨vs, ep, a1, a2⟩ := X.fnd
  obtain ⟨kvs, D, _, _⟩ := X.hom
  obtain ⟨us, ep2, c1, c2⟩ := X.lts
  refine ⟨fun p hp => ?_, Y.nd, ⟨vs, ep, .tail _ a1, a2.mono fun _ _ r => r.mono Le.cons⟩, Y.hom, Y.lts, fun q => ?_, fun q => ?_, fun q => ?_, X.ne12, X.ne13, X.ne23⟩
  · rcases List.mem_cons.mp hp with rfl | hp
    · exact .head _
    · exact .tail _ (X.sub p hp)
  · rcases List.mem_cons.mp q with q | q
    · exact h (by have q : fo = a := q; rw [← q]; exact mem_keys a1)
    · exact X.off1 q
  · rcases List.mem_cons.mp q with q | q
    · exact h (by have q : ho = a := q; rw [← q]; exact D.key)
    · exact X.off2 q
  · rcases List.mem_cons.mp q with q | q
    · exact h (by have q : le = a := q; rw [← q]; exact mem_keys c1)
    · exact X.off3 q
theorem off_ne {T : Led} {a : Addr} (h : a ∉ keys T) {p : Addr × Obj} (hp : p ∈ T) : p.1 ≠ a := fun e => h (e ▸ List.mem_map.mpr ⟨p, hp, rfl⟩)
/-- a row is laid to the found ones -/
theorem app_row {e1 e2 : Ex} {ch : Addr} {tg : Tag} {x : Int} {c : List Int} (X : LX w T n fo ho le R Bs Ls m) (hR : R.length ≤ 100000) (l1 : l 1 = some (.ref fo)) (l2 : l 2 = some (.ref ch)) (hc : TupInts T ch c)
    (he1 : ∀ Q : Value → Led → Prop, (∀ t, Q (.str (tagStr tg) t) n) → wE w k e1 l n Q) (he2 : ∀ Q : Value → Led → Prop, (∀ t, Q (.int x t) n) → wE w k e2 l n Q)
    (hq : ∀ T' n', Le T T' → LX w T' n' fo ho le (R ++ [(tg, x, c)]) Bs Ls m → Q .next l n') : wS w k (.expr (.meth (.v 1) ⟨#[97, 112, 112, 101, 110, 100]⟩ (.cons (.tuple (.cons e1 (.cons e2 (.cons (.v 2) .nil)))) .nil))) l n Q := by
  obtain ⟨vs, ep, a1, a2⟩ := X.fnd
  have hl := a2.length
  refine s_expr (e_meth (e_v l1 ⟨_, _, meth_list a1 PySem.F.slot_list_append PySem.F.type_list_append, ?_⟩))
  refine es_cons (e_tuple (es_cons (he1 _ fun t1 => es_cons (he2 _ fun t2 => es_cons (e_v l2 (es_nil ⟨zl (by simp), fun t ht => es_nil ⟨callable_builtin _, ?_⟩⟩))))))
  have Y := X.alloc (o := tupOf [Value.str (tagStr tg) t1, .int x t2, .ref ch].toArray) ht
  have hs : sizeLine = 2 ^ 24 := rfl
  refine ok_append (.tail _ a1) (by simp; omega) ⟨nofun, hq ((t, tupOf [Value.str (tagStr tg) t1, .int x t2, .ref ch].toArray) :: T) _ Le.cons ?_⟩
  obtain ⟨kvs, D, b2, b3⟩ := Y.hom
  obtain ⟨us, ep2, c1, c2⟩ := Y.lts
  refine ⟨fun p hp => mem_upd_ne (Y.sub p hp) (off_ne Y.off1 hp), by rw [keys_upd]; exact Y.nd, ⟨vs ++ [.ref t], ep + 1, ?_, ?_⟩, ⟨kvs, D.upd (Ne.symm X.ne12), b2, b3⟩, ⟨us, ep2, mem_upd_ne c1 (Ne.symm X.ne13), c2⟩, Y.off1, Y.off2, Y.off3, X.ne12, X.ne13, X.ne23⟩
  · have := mem_upd_self (o' := listOf (vs.toArray.push (.ref t)) (ep + 1)) (List.mem_cons_of_mem (t, tupOf [Value.str (tagStr tg) t1, .int x t2, .ref ch].toArray) a1)
    simpa using this
  · exact (a2.mono fun _ _ r => r.mono Le.cons).append (.cons ⟨t, t1, t2, ch, rfl, .head _, hc.mono Le.cons⟩ .nil)
theorem LX.put (X : LX w T n fo ho le R Bs Ls m) (hm : m ≤ 1000000) {x j : Int} {t u : Tok} {Q : Unit → Led → Prop} (h : ∀ n', LX w T n' fo ho le R (Bs ++ [(x, j)]) Ls (m + 1) → (∀ p ∈ n, p.1 ≠ ho → p ∈ n') → Q () n') : OK w k (setItem (.ref ho) (.int x t) (.int j u)) n Q := by
  obtain ⟨vs, ep, a1, a2⟩ := X.fnd
  obtain ⟨kvs, D, hl, hR⟩ := X.hom
  obtain ⟨us, ep2, c1, c2⟩ := X.lts
  refine ok_setItem_dict D (by have : sizeLine = 2 ^ 24 := rfl; omega) fun o ho' D' => h _ ⟨fun p hp => mem_upd_ne (X.sub p hp) (off_ne X.off2 hp), by rw [keys_upd]; exact X.nd, ⟨vs, ep, mem_upd_ne a1 X.ne12, a2⟩, ⟨_, D', Nat.le_trans (stored_len ..) (by omega), fun i => ?_⟩, ⟨us, ep2, mem_upd_ne c1 (Ne.symm X.ne23), c2⟩, X.off1, X.off2, X.off3, X.ne12, X.ne13, X.ne23⟩ fun p hp he => mem_upd_ne hp he
  rw [valueAt_stored]
  by_cases q : i = x
  · rw [if_pos q]; subst q; exact .inr ⟨j, u, rfl, List.mem_append_right _ (.head _)⟩
  · rw [if_neg q]; exact mapR_snoc q (hR i)
theorem home_loop {val e : Ex} {j : Int} (l3 : l 3 = some (.ref ho))
    (hv : ∀ (l' : Lc) T' n' (Q : Value → Led → Prop), l' 0 = l 0 → l' 5 = l 5 → Le T T' → Le T' n' → (∀ t, Q (.int j t) n') → wE w k val l' n' Q)
    (he : wE w k e l n fun v n1 => ∃ d us ns ep T', v = .ref d ∧ Le T T' ∧ (d, listOf us.toArray ep) ∈ T' ∧ IntsAre us ns ∧ LX w T' n1 fo ho le R Bs Ls m ∧ ns.length ≤ 3 ∧ m ≤ 900000 ∧
      ∀ l' T' n', l' 0 = l 0 → l' 1 = l 1 → l' 2 = l 2 → l' 3 = l 3 → l' 4 = l 4 → Le T T' → LX w T' n' fo ho le R (Bs ++ ns.map fun x => (x, j)) Ls (m + 3) → Q .next l' n') : wS w k (.each 6 e (.cons (.asgI (.v 3) (.v 6) val) .nil)) l n Q := by
  refine s_each (e_join _ he fun v n1 hh => ?_)
  obtain ⟨d, us, ns, ep, T', rfl, hT, hd, hi, X, h3, hm, q⟩ := hh
  have hlen := hi.length
  refine ⟨.list d us.toArray ep, rfl, X.sub _ hd, trivial, fun i l' n' => i ≤ us.length ∧ (l' 0 = l 0 ∧ l' 1 = l 1 ∧ l' 2 = l 2 ∧ l' 3 = l 3 ∧ l' 4 = l 4 ∧ l' 5 = l 5) ∧ LX w T' n' fo ho le R (Bs ++ (ns.take i).map fun x => (x, j)) Ls (m + i),
    ⟨Nat.zero_le _, ⟨rfl, rfl, rfl, rfl, rfl, rfl⟩, by simpa using X⟩, ?_⟩
  rintro i l' n' ⟨hil, ⟨k0, k1, k2, k3, k4, k5⟩, X'⟩
  refine ⟨X'.sub _ hd, fun hlt y hy => ?_, fun hie => ?_⟩
  · have hy : us[i]? = some y := by simpa [Src.item] using hy
    obtain ⟨x, t, rfl, hx⟩ := hi.at i y hy
    have hlt2 : i < us.length := (List.getElem?_eq_some_iff.mp hy).1
    refine b_cons (s_asgI (hv _ T' _ _ k0 k5 hT X'.sub fun tv => ?_))
    refine e_v (show lset 6 _ l' 3 = some (.ref ho) from k3.trans l3) (e_v (by with_unfolding_all rfl) ?_)
    refine X'.put (by omega) fun n2 X2 _ => b_nil ⟨hlt2, ⟨k0, k1, k2, k3, k4, k5⟩, ?_⟩
    have e : (ns.take (i + 1)) = ns.take i ++ [x] := by rw [List.take_add_one, hx]; rfl
    rw [e, List.map_append, ← List.append_assoc]
    exact X2
  · have hie : i = us.length := hie
    subst hie
    have : ns.take us.length = ns := List.take_of_length_le (by omega)
    rw [this] at X'
    refine q _ T' _ k0 k1 k2 k3 k4 hT ?_
    obtain ⟨kvs, D, hl, hR⟩ := X'.hom
    exact ⟨X'.sub, X'.nd, X'.fnd, ⟨kvs, D, by omega, hR⟩, X'.lts, X'.off1, X'.off2, X'.off3, X'.ne12, X'.ne13, X'.ne23⟩
theorem ok_add_tup2 {Q : Value → Led → Prop} {a b : Addr} {x : Value} {us : List Value} (ha : (a, tupOf [x].toArray) ∈ n) (hb : (b, tupOf us.toArray) ∈ n) (hz : 1 + us.length ≤ sizeLine) (h1 : us = [] → Q (.ref a) n) (h2 : ∀ d, d ∉ keys n → Q (.ref d) ((d, tupOf (x :: us).toArray) :: n)) :
    OK w k (binaryOp .Add (.ref a) (.ref b)) n Q := fun A g L m R s C => by
  have lt : ∀ p ∈ R ++ n, p.1 < s.heap.objs.size := fun p hp => C.lt hp
  refine add_tuples (vs := [x]) (ws := us) C.fr C.nw (C.isTup ha) (C.isTup hb) (fun h => nomatch h) (fun _ e => ?_) (fun _ _ h' F N => ?_) (by simpa using hz)
  · exact ⟨n, s.heap, s.toks, rfl, C, h1 e⟩
  · exact ⟨_, h', s.toks, rfl, C.alloc F N lt, h2 _ (fresh_of C lt)⟩
end
/-! Law2 -/
section
variable {w : World} {k m : Nat} {n T : Led} {fo ho le : Addr} {R : List LRow} {Bs : List (Int × Int)} {Ls : List Int} {l : Lc} {Q : Flow → Lc → Led → Prop} {a : Addr} {vs : List Value} {kd : Kd}
theorem kind_t {j : Int} {t : Tok} {Q : Bool → Led → Prop} (NA : NodeAt n a vs kd) (l0 : l 0 = some (.ref a)) (h : Q (decide (kd.num = j)) n) : wT w k (.cmp .Eq (.attr (.v 0) q_kind) (.g (.int j t))) l n Q := by
  refine t_cmp (e_attr (e_v l0 (ok_kind NA (e_g (ok_eq_int ⟨_, rfl, ?_⟩)))))
  have : (kd.num == j) = decide (kd.num = j) := by by_cases q : kd.num = j <;> simp [q]
  rw [this]; exact h
theorem kin_t {i j : Int} {t u : Tok} {Q : Bool → Led → Prop} (NA : NodeAt n a vs kd) (l0 : l 0 = some (.ref a)) (h : ∀ x o, x ∉ keys n → Q (decide (kd.num = i ∨ kd.num = j)) ((x, o) :: n)) :
    wT w k (.cmp .In (.attr (.v 0) q_kind) (.tuple (.cons (.g (.int i t)) (.cons (.g (.int j u)) .nil)))) l n Q := by
  refine t_cmp (e_attr (e_v l0 (ok_kind NA (e_tuple (es_cons (e_g (es_cons (e_g (es_nil ⟨zl (by simp), fun x hx => ?_⟩)))))))))
  refine ok_in_ints (ns := [i, j]) (.head _) (.cons _ _ (.cons _ _ .nil)) ⟨_, rfl, ?_⟩
  have : decide (kd.num ∈ [i, j]) = decide (kd.num = i ∨ kd.num = j) := by simp
  rw [this]; exact h x _ hx

noncomputable def row2 (kd : Kd) (c : List Int) : List LRow := match kd with | .loc x => [(.read, x, c)] | .setl x => [(.set, x, c)] | _ => []
noncomputable def row3 (kd : Kd) (c : List Int) : List LRow := match kd with | .glob x => [(.glob, x, c)] | _ => []
noncomputable def row4 (kd : Kd) (c : List Int) : List LRow := match kd with | .setg x | .defi x => [(.setGlob, x, c)] | _ => []
noncomputable def row5 (kd op : Kd) (c : List Int) : List LRow := match kd with | .call => (match op with | .loc x => [(.called, x, c)] | _ => []) | _ => []
noncomputable def row8 (kd : Kd) (c : List Int) : List LRow := match kd with | .lam x _ _ => [(.lambda, x, c)] | _ => []
noncomputable def bind7 (kd : Kd) (c : List Int) : List (Int × Int) := match kd with | .fix nums => nums.map fun x => (x, hd c) | _ => []
noncomputable def bind8 (kd : Kd) : List (Int × Int) := match kd with | .lam l ps r => (bindsOf ps r).map fun x => (x, l) | _ => []
theorem rows_eq (e : Ev) : e.rows = row2 e.kd e.c ++ row3 e.kd e.c ++ row4 e.kd e.c ++ row5 e.kd e.op e.c ++ row8 e.kd e.c := by
  obtain ⟨c, kd, op, m⟩ := e
  cases kd <;> first | rfl | (cases op <;> rfl)
theorem binds_eq (e : Ev) : e.binds = bind7 e.kd e.c ++ bind8 e.kd := by
  obtain ⟨c, kd, op, m⟩ := e
  cases kd <;> first | rfl | (simp [Ev.binds, bind7, bind8]; done)

theorem LX.same (X : LX w T n fo ho le R Bs Ls m) {R' : List LRow} {Bs' : List (Int × Int)} {Ls' : List Int} {m' : Nat} (h1 : R = R') (h2 : Bs = Bs') (h3 : Ls = Ls') (h4 : m ≤ m') : LX w T n fo ho le R' Bs' Ls' m' := by
  subst h1 h2 h3
  obtain ⟨kvs, D, hl, hR⟩ := X.hom
  exact ⟨X.sub, X.nd, X.fnd, ⟨kvs, D, by omega, hR⟩, X.lts, X.off1, X.off2, X.off3, X.ne12, X.ne13, X.ne23⟩

noncomputable abbrev stApp (e1 e2 : Ex) : St := .expr (.meth (.v 1) ⟨#[97, 112, 112, 101, 110, 100]⟩ (.cons (.tuple (.cons e1 (.cons e2 (.cons (.v 2) .nil)))) .nil))
theorem step2 {ch : Addr} {c : List Int} (NA : NodeAt T a vs kd) (X : LX w T n fo ho le R Bs Ls m) (hR : R.length ≤ 100000) (l0 : l 0 = some (.ref a)) (l1 : l 1 = some (.ref fo)) (l2 : l 2 = some (.ref ch)) (hc : TupInts T ch c)
    (hq : ∀ T' n', Le T T' → LX w T' n' fo ho le (R ++ row2 kd c) Bs Ls m → Q .next l n') :
    wS w k (.ite (.cmp .In (.attr (.v 0) q_kind) (.tuple (.cons (.g (.int (1) 198)) (.cons (.g (.int (3) 202)) .nil)))) (.cons (stApp (.ite (.cmp .Eq (.attr (.v 0) q_kind) (.g (.int (1) 198))) (.str ⟨#[114, 101, 97, 100]⟩) (.str ⟨#[115, 101, 116]⟩)) (.attr (.v 0) s_number_)) .nil) .nil) l n Q := by
  refine s_ite (kin_t (NA.mono X.sub) l0 fun x o hx => ?_)
  have X := X.alloc' (o := o) hx
  by_cases h1 : kd.num = 1
  · obtain ⟨y, rfl⟩ : ∃ y, kd = .loc y := by cases kd <;> first | exact ⟨_, rfl⟩ | cases h1
    simp only [Kd.num, true_or, decide_true]
    exact b_cons (app_row (tg := .read) X hR l1 l2 hc (fun Q hQ => e_ite (kind_t (NA.mono X.sub) l0 (e_str hQ))) (fun Q hQ => e_attr (e_v l0 (ok_number (NA.mono X.sub) (.inl rfl) hQ))) fun T' n' hT X' => b_nil (hq T' n' hT X'))
  · by_cases h3 : kd.num = 3
    · obtain ⟨y, rfl⟩ : ∃ y, kd = .setl y := by cases kd <;> first | exact ⟨_, rfl⟩ | cases h3
      simp only [Kd.num, or_true, decide_true]
      exact b_cons (app_row (tg := .set) X hR l1 l2 hc (fun Q hQ => e_ite (kind_t (NA.mono X.sub) l0 (e_str hQ))) (fun Q hQ => e_attr (e_v l0 (ok_number (NA.mono X.sub) (.inr rfl) hQ))) fun T' n' hT X' => b_nil (hq T' n' hT X'))
    · simp only [h1, h3, or_self, decide_false]
      have e : row2 kd c = [] := by cases kd <;> first | rfl | exact absurd rfl h1 | exact absurd rfl h3
      exact b_nil (hq T _ (Le.refl _) (X.same (by rw [e, List.append_nil]) rfl rfl (Nat.le_refl _)))
theorem step3 {ch : Addr} {c : List Int} (NA : NodeAt T a vs kd) (X : LX w T n fo ho le R Bs Ls m) (hR : R.length ≤ 100000) (l0 : l 0 = some (.ref a)) (l1 : l 1 = some (.ref fo)) (l2 : l 2 = some (.ref ch)) (hc : TupInts T ch c)
    (hq : ∀ T' n', Le T T' → LX w T' n' fo ho le (R ++ row3 kd c) Bs Ls m → Q .next l n') :
    wS w k (.ite (.cmp .Eq (.attr (.v 0) q_kind) (.g (.int (2) 200))) (.cons (stApp (.str ⟨#[103, 108, 111, 98, 97, 108]⟩) (.attr (.v 0) s_symbol_)) .nil) .nil) l n Q := by
  refine s_ite (kind_t (NA.mono X.sub) l0 ?_)
  by_cases h1 : kd.num = 2
  · obtain ⟨y, rfl⟩ : ∃ y, kd = .glob y := by cases kd <;> first | exact ⟨_, rfl⟩ | cases h1
    simp only [Kd.num, decide_true]
    exact b_cons (app_row (tg := .glob) X hR l1 l2 hc (fun Q hQ => e_str hQ) (fun Q hQ => e_attr (e_v l0 (ok_symbol (NA.mono X.sub) (.inl rfl) hQ))) fun T' n' hT X' => b_nil (hq T' n' hT X'))
  · simp only [h1, decide_false]
    have e : row3 kd c = [] := by cases kd <;> first | rfl | exact absurd rfl h1
    exact b_nil (hq T _ (Le.refl _) (X.same (by rw [e, List.append_nil]) rfl rfl (Nat.le_refl _)))
theorem step4 {ch : Addr} {c : List Int} (NA : NodeAt T a vs kd) (X : LX w T n fo ho le R Bs Ls m) (hR : R.length ≤ 100000) (l0 : l 0 = some (.ref a)) (l1 : l 1 = some (.ref fo)) (l2 : l 2 = some (.ref ch)) (hc : TupInts T ch c)
    (hq : ∀ T' n', Le T T' → LX w T' n' fo ho le (R ++ row4 kd c) Bs Ls m → Q .next l n') :
    wS w k (.ite (.cmp .In (.attr (.v 0) q_kind) (.tuple (.cons (.g (.int (4) 204)) (.cons (.g (.int (5) 206)) .nil)))) (.cons (stApp (.str ⟨#[115, 101, 116, 32, 103, 108, 111, 98, 97, 108]⟩) (.attr (.v 0) s_symbol_)) .nil) .nil) l n Q := by
  refine s_ite (kin_t (NA.mono X.sub) l0 fun x o hx => ?_)
  have X := X.alloc' (o := o) hx
  by_cases h1 : kd.num = 4
  · obtain ⟨y, rfl⟩ : ∃ y, kd = .setg y := by cases kd <;> first | exact ⟨_, rfl⟩ | cases h1
    simp only [Kd.num, true_or, decide_true]
    exact b_cons (app_row (tg := .setGlob) X hR l1 l2 hc (fun Q hQ => e_str hQ) (fun Q hQ => e_attr (e_v l0 (ok_symbol (NA.mono X.sub) (.inr (.inl rfl)) hQ))) fun T' n' hT X' => b_nil (hq T' n' hT X'))
  · by_cases h3 : kd.num = 5
    · obtain ⟨y, rfl⟩ : ∃ y, kd = .defi y := by cases kd <;> first | exact ⟨_, rfl⟩ | cases h3
      simp only [Kd.num, or_true, decide_true]
      exact b_cons (app_row (tg := .setGlob) X hR l1 l2 hc (fun Q hQ => e_str hQ) (fun Q hQ => e_attr (e_v l0 (ok_symbol (NA.mono X.sub) (.inr (.inr rfl)) hQ))) fun T' n' hT X' => b_nil (hq T' n' hT X'))
    · simp only [h1, h3, or_self, decide_false]
      have e : row4 kd c = [] := by cases kd <;> first | rfl | exact absurd rfl h1 | exact absurd rfl h3
      exact b_nil (hq T _ (Le.refl _) (X.same (by rw [e, List.append_nil]) rfl rfl (Nat.le_refl _)))
theorem step5 {ch : Addr} {c : List Int} {op : Kd} (NA : NodeAt T a vs kd) (ho' : kd = .call → ∃ yo ovs vs0, vs = .ref yo :: ovs ∧ NodeAt T yo vs0 op) (X : LX w T n fo ho le R Bs Ls m) (hR : R.length ≤ 100000) (l0 : l 0 = some (.ref a)) (l1 : l 1 = some (.ref fo)) (l2 : l 2 = some (.ref ch)) (hc : TupInts T ch c)
    (hq : ∀ T' n', Le T T' → LX w T' n' fo ho le (R ++ row5 kd op c) Bs Ls m → Q .next l n') :
    wS w k (.ite (.and (.cmp .Eq (.attr (.v 0) q_kind) (.g (.int (8) 212))) (.cmp .Eq (.attr (.attr (.v 0) s_operator_) q_kind) (.g (.int (1) 198)))) (.cons (stApp (.str ⟨#[99, 97, 108, 108, 101, 100]⟩) (.attr (.attr (.v 0) s_operator_) s_number_)) .nil) .nil) l n Q := by
  refine s_ite (t_and (kind_t (NA.mono X.sub) l0 ?_))
  by_cases h1 : kd.num = 8
  · cases call_of h1
    obtain ⟨yo, ovs, vs0, rfl, NO⟩ := ho' rfl
    simp only [Kd.num, decide_true]
    refine t_cmp (e_attr (e_attr (e_v l0 (ok_operator (NA.mono X.sub) fun yo' ovs' e => ?_))))
    cases e
    refine ok_kind (NO.mono X.sub) (e_g (ok_eq_int ⟨_, rfl, ?_⟩))
    by_cases h2 : op.num = 1
    · obtain ⟨x, rfl⟩ : ∃ x, op = .loc x := by cases op <;> first | exact ⟨_, rfl⟩ | cases h2
      simp only [Kd.num, Int.reduceBEq]
      refine b_cons (app_row (tg := .called) X hR l1 l2 hc (fun Q hQ => e_str hQ) (fun Q hQ => e_attr (e_attr (e_v l0 (ok_operator (NA.mono X.sub) fun yo' ovs' e => ?_)))) fun T' n' hT X' => b_nil (hq T' n' hT X'))
      cases e
      exact ok_number (NO.mono X.sub) (.inl rfl) hQ
    · have : (op.num == 1) = false := by simpa using h2
      rw [this]
      have e : row5 .call op c = [] := by cases op <;> first | rfl | exact absurd rfl h2
      exact b_nil (hq T _ (Le.refl _) (X.same (by rw [e, List.append_nil]) rfl rfl (Nat.le_refl _)))
  · simp only [h1, decide_false]
    have e : row5 kd op c = [] := by cases kd <;> first | rfl | exact absurd rfl h1
    exact b_nil (hq T _ (Le.refl _) (X.same (by rw [e, List.append_nil]) rfl rfl (Nat.le_refl _)))
theorem step6 {op : Kd} (NA : NodeAt T a vs kd) (ho' : kd = .call → ∃ yo ovs vs0, vs = .ref yo :: ovs ∧ NodeAt T yo vs0 op) (X : LX w T n fo ho le R Bs Ls m) (hL : Ls.length ≤ 100000) (l0 : l 0 = some (.ref a)) (l4 : l 4 = some (.ref le))
    (hq : ∀ n', LX w T n' fo ho le R Bs (Ls ++ (letB kd op (vs.length - 1)).toList) m → Q .next l n') :
    wS w (k + 1) (.ite (.call (.g (.ref 551)) (.cons (.v 0) .nil)) (.cons (.expr (.meth (.v 4) ⟨#[97, 112, 112, 101, 110, 100]⟩ (.cons (.attr (.attr (.v 0) s_operator_) s_label_) .nil))) .nil) .nil) l n Q := by
  refine s_ite (t_call (e_g (es_cons (e_v l0 (es_nil ⟨kp_law_is_own_let, own_let_ok (NA.mono X.sub) (op := op) (fun h => ?_) ⟨_, rfl, ?_⟩⟩)))))
  · obtain ⟨yo, ovs, vs0, e, NO⟩ := ho' h
    exact ⟨yo, ovs, vs0, e, NO.mono X.sub⟩
  cases hlo : letB kd op (vs.length - 1) with
  | none =>
    simp only [Option.isSome_none]
    exact b_nil (hq _ (X.same rfl rfl (by simp [hlo]) (Nat.le_refl _)))
  | some lb =>
    simp only [Option.isSome_some]
    have hk : kd = .call := by cases kd <;> first | rfl | cases hlo
    subst hk
    obtain ⟨yo, ovs, vs0, rfl, NO⟩ := ho' rfl
    obtain ⟨ps, r, rfl⟩ := isLet_some (op := op) hlo
    obtain ⟨us, ep2, c1, c2⟩ := X.lts
    have hll := c2.length
    have hs : sizeLine = 2 ^ 24 := rfl
    refine b_cons (s_expr (e_meth (e_v l4 ⟨_, _, meth_list c1 PySem.F.slot_list_append PySem.F.type_list_append, ?_⟩)))
    refine es_cons (e_attr (e_attr (e_v l0 (ok_operator (NA.mono X.sub) fun yo' ovs' e => ?_))))
    cases e
    refine ok_label (NO.mono X.sub) fun tl => es_nil ⟨callable_builtin _, ok_append c1 (by simp; omega) ⟨nofun, b_nil (hq _ ?_)⟩⟩
    obtain ⟨gs, ep, a1, a2⟩ := X.fnd
    obtain ⟨kvs, D, b2, b3⟩ := X.hom
    refine ⟨fun p hp => mem_upd_ne (X.sub p hp) (off_ne X.off3 hp), by rw [keys_upd]; exact X.nd, ⟨gs, ep, mem_upd_ne a1 X.ne13, a2⟩, ⟨kvs, D.upd X.ne23, b2, b3⟩, ⟨us ++ [.int lb tl], ep2 + 1, ?_, ?_⟩, X.off1, X.off2, X.off3, X.ne12, X.ne13, X.ne23⟩
    · have := mem_upd_self (o' := listOf (us.toArray.push (.int lb tl)) (ep2 + 1)) c1
      simpa using this
    · rw [hlo]; exact c2.append (.cons lb tl .nil)
theorem step7 {c : List Int} {t5 : Tok} (NA : NodeAt T a vs kd) (X : LX w T n fo ho le R Bs Ls m) (h3 : (bind7 kd c).length ≤ 3) (hm : m ≤ 800000) (l0 : l 0 = some (.ref a)) (l3 : l 3 = some (.ref ho)) (l5 : l 5 = some (.int (hd c) t5))
    (hq : ∀ l' T' n', l' 0 = l 0 → l' 1 = l 1 → l' 2 = l 2 → l' 3 = l 3 → l' 4 = l 4 → Le T T' → LX w T' n' fo ho le R (Bs ++ bind7 kd c) Ls (m + 3) → Q .next l' n') :
    wS w k (.ite (.cmp .Eq (.attr (.v 0) q_kind) (.g (.int (11) 218))) (.cons (.each 6 (.attr (.v 0) s_numbers_) (.cons (.asgI (.v 3) (.v 6) (.v 5)) .nil)) .nil) .nil) l n Q := by
  refine s_ite (kind_t (NA.mono X.sub) l0 ?_)
  by_cases h1 : kd.num = 11
  · obtain ⟨nums, rfl⟩ : ∃ y, kd = .fix y := by cases kd <;> first | exact ⟨_, rfl⟩ | cases h1
    simp only [Kd.num, decide_true]
    obtain ⟨nl, nvs, ll, lvs, y, e, i, ⟨epl, hnl⟩, z, l2, z2, z3⟩ := id NA
    refine b_cons (home_loop (j := hd c) (T := T) (R := R) (Bs := Bs) (Ls := Ls) (m := m) (fo := fo) (le := le) l3 (fun l' T' n' Q k0 k5 _ _ hQ => e_v (k5.trans l5) (hQ _)) ?_)
    refine e_attr (e_v l0 (ok_attr (i.mono X.sub) (at_415_numbers _) rfl rfl ⟨nl, nvs, nums, epl, T, rfl, Le.refl _, hnl, z, X, by simpa [bind7] using h3, by omega, fun l' T' n' k0 k1 k2 k3 k4 hT X' => b_nil (hq l' T' n' k0 k1 k2 k3 k4 hT X')⟩))
  · simp only [h1, decide_false]
    have e : bind7 kd c = [] := by cases kd <;> first | rfl | exact absurd rfl h1
    exact b_nil (hq _ T _ rfl rfl rfl rfl rfl (Le.refl _) (X.same rfl (by rw [e, List.append_nil]) rfl (by omega)))
theorem step8 {ch : Addr} {c : List Int} (NA : NodeAt T a vs kd) (X : LX w T n fo ho le R Bs Ls m) (hR : R.length ≤ 100000) (h3 : (bind8 kd).length ≤ 3) (hc3 : c.length ≤ 900) (hm : m ≤ 800000) (l0 : l 0 = some (.ref a)) (l1 : l 1 = some (.ref fo)) (l2 : l 2 = some (.ref ch)) (l3 : l 3 = some (.ref ho)) (hc : TupInts T ch c)
    (hq : ∀ l' T' n' ch', l' 0 = l 0 → l' 1 = l 1 → l' 3 = l 3 → l' 4 = l 4 → l' 2 = some (.ref ch') → TupInts T' ch' (chainIn kd c) → Le T T' → LX w T' n' fo ho le (R ++ row8 kd c) (Bs ++ bind8 kd) Ls (m + 3) → Q .next l' n') :
    wS w k (.ite (.cmp .Eq (.attr (.v 0) q_kind) (.g (.int (7) 210))) (.cons (.each 6 (.bin .Add (.attr (.v 0) s_params_) (.ite (.cmp .GtE (.attr (.v 0) s_rest_) (.int (0))) (.list (.cons (.attr (.v 0) s_rest_) .nil)) (.list .nil))) (.cons (.asgI (.v 3) (.v 6) (.attr (.v 0) s_label_)) .nil))
      (.cons (stApp (.str ⟨#[108, 97, 109, 98, 100, 97]⟩) (.attr (.v 0) s_label_)) (.cons (.asg 2 (.bin .Add (.tuple (.cons (.attr (.v 0) s_label_) .nil)) (.v 2))) .nil))) .nil) l n Q := by
  refine s_ite (kind_t (NA.mono X.sub) l0 ?_)
  by_cases h1 : kd.num = 7
  · obtain ⟨lb, ps, r, rfl⟩ := lam_of h1
    simp only [Kd.num, decide_true]
    refine b_cons (home_loop (j := lb) (T := T) (R := R) (Bs := Bs) (Ls := Ls) (m := m) (fo := fo) (le := le) l3 (fun l' T' n' Q k0 k5 hT hs hQ => e_attr (e_v (k0.trans l0) (ok_label (NA.mono (hT.trans hs)) hQ))) ?_)
    · refine e_bin (e_attr (e_v l0 (ok_params (NA.mono X.sub) fun pl pvs hpl hpi hpz => ?_)))
      refine e_join (fun v n' => ∃ d us ep, v = .ref d ∧ Le n n' ∧ LX w T n' fo ho le R Bs Ls m ∧ (d, listOf us.toArray ep) ∈ n' ∧ IntsAre us (if 0 ≤ r then [r] else [])) ?_ ?_
      · refine e_ite (t_cmp (e_attr (e_v l0 (ok_rest (NA.mono X.sub) fun t => e_int fun _ => ok_ge_int ⟨_, rfl, ?_⟩))))
        by_cases h0 : 0 ≤ r
        · simp only [h0, decide_true]
          exact e_list (es_cons (e_attr (e_v l0 (ok_rest (NA.mono X.sub) fun t => es_nil ⟨zl (by simp), fun d hd => ⟨d, _, _, rfl, Le.cons, X.alloc' hd, .head _, .cons _ _ .nil⟩⟩))))
        · simp only [h0, decide_false]
          exact e_list (es_nil ⟨zl (by simp), fun d hd => ⟨d, _, _, rfl, Le.cons, X.alloc' hd, .head _, .nil⟩⟩)
      · rintro v n1 ⟨d, us, ep, rfl, hn, X1, hd, hus⟩
        obtain ⟨epl, hpl⟩ := hpl
        have e1 := hpi.length
        have e2 := hus.length
        have e3 : (if 0 ≤ r then [r] else [] : List Int).length ≤ 1 := by split <;> simp
        refine ok_add_list (hn _ hpl) hd (zl (by omega)) fun d2 hd2 => ?_
        refine ⟨d2, pvs ++ us, bindsOf ps r, 0, (d2, listOf (pvs ++ us).toArray 0) :: T, rfl, Le.cons, .head _, hpi.append hus, X1.alloc hd2, by simpa [bind8] using h3, by omega, ?_⟩
        intro l' T' n' k0 k1 k2 k3 k4 hT X'
        refine b_cons (app_row (tg := .lambda) X' hR (k1.trans l1) (k2.trans l2) (hc.mono hT) (fun Q hQ => e_str hQ) (fun Q hQ => e_attr (e_v (k0.trans l0) (ok_label (NA.mono (hT.trans X'.sub)) hQ))) fun T2 n2 hT2 X2 => ?_)
        obtain ⟨cvs, hcv, hci⟩ := hc
        have hcl := hci.length
        have hTT : Le T T2 := hT.trans hT2
        refine b_cons (s_asg (e_bin (e_tuple (es_cons (e_attr (e_v (k0.trans l0) (ok_label (NA.mono (hTT.trans X2.sub)) fun tl => es_nil ⟨zl (by simp), fun t ht => ?_⟩)))))))
        have X3 := X2.alloc (o := tupOf [Value.int lb tl].toArray) ht
        refine e_v (k2.trans l2) (ok_add_tup2 (us := cvs) (.head _) (.tail _ (X2.sub _ (hTT _ hcv))) (zl (by rw [hcl]; omega)) (fun e => ?_) fun d3 hd3 => ?_)
        · subst e
          have : c = [] := by cases hci; rfl
          subst this
          exact b_nil (hq _ ((t, tupOf [Value.int lb tl].toArray) :: T2) _ t k0 k1 k3 k4 rfl ⟨_, .head _, .cons _ _ .nil⟩ (hTT.trans Le.cons) X3)
        · exact b_nil (hq _ ((d3, tupOf (Value.int lb tl :: cvs).toArray) :: (t, tupOf [Value.int lb tl].toArray) :: T2) _ d3 k0 k1 k3 k4 rfl ⟨_, .head _, .cons _ _ hci⟩ ((hTT.trans Le.cons).trans Le.cons) (X3.alloc hd3))
  · simp only [h1, decide_false]
    have e : row8 kd c = [] := by cases kd <;> first | rfl | exact absurd rfl h1
    have e2 : bind8 kd = [] := by cases kd <;> first | rfl | exact absurd rfl h1
    have e3 : chainIn kd c = c := by cases kd <;> first | rfl | exact absurd rfl h1
    exact b_nil (hq _ T _ ch rfl rfl rfl rfl l2 (by rw [e3]; exact hc) (Le.refl _) (X.same (by rw [e, List.append_nil]) (by rw [e2, List.append_nil]) rfl (by omega)))
end

theorem letOf_eq (c : List Int) (kd op : Kd) (m : Nat) : Ev.letOf ⟨c, kd, op, m⟩ = letB kd op (m - 1) := rfl
theorem len3 {e : Ev} (h : e.binds.length ≤ 3) : (bind7 e.kd e.c).length ≤ 3 ∧ (bind8 e.kd).length ≤ 3 := by
  rw [binds_eq, List.length_append] at h
  omega
inductive WkP (w : World) (T : Led) (fo ho le : Addr) (R : List LRow) (Bs : List (Int × Int)) (Ls : List Int) (m : Nat) (E : List Ev) (r : Value) (n' : Led) : Prop
  | mk (h0 : r = .none) (T' : Led) (h1 : Le T T') (h2 : LX w T' n' fo ho le (R ++ rowsE E) (Bs ++ bindsE E) (Ls ++ letsE E) (m + 6 * E.length))
inductive WkI (w : World) (T8 : Led) (fo ho le : Addr) (R : List LRow) (Bs : List (Int × Int)) (Ls : List Int) (m : Nat) (e : Ev) (Es : List (List Ev)) (vs : List Value) (l8 : Lc) (i : Nat) (l' : Lc) (n' : Led) : Prop
  | mk (h0 : i ≤ vs.length) (h1 : l' 0 = l8 0 ∧ l' 1 = l8 1 ∧ l' 2 = l8 2 ∧ l' 3 = l8 3 ∧ l' 4 = l8 4) (T' : Led) (h2 : Le T8 T') (h3 : LX w T' n' fo ho le (R ++ rowsE (e :: (Es.take i).flatten)) (Bs ++ bindsE (e :: (Es.take i).flatten)) (Ls ++ letsE (e :: (Es.take i).flatten)) (m + 6 * (e :: (Es.take i).flatten).length))
set_option maxHeartbeats 1000000 in
theorem walk_ok {w : World} {fo ho le : Addr} : ∀ (h k : Nat) {T n : Led} {R : List LRow} {Bs : List (Int × Int)} {Ls : List Int} {m : Nat} {c : List Int} {v : Value} {E : List Ev} {ch : Addr}, Tr T h c v E → LX w T n fo ho le R Bs Ls m → TupInts T ch c → (∀ e ∈ E, e.binds.length ≤ 3) →
    R.length + E.length ≤ 10000 → Ls.length + E.length ≤ 10000 → m + 6 * E.length ≤ 100000 → c.length + h ≤ 100 →
    OK w (k + h + 10) (call (.ref 558) [v, .ref fo, .ref ch, .ref ho, .ref le]) n (WkP w T fo ho le R Bs Ls m E)
  | 0, _, _, _, _, _, _, _, _, _, _, _, t, _, _, _, _, _, _, _ => t.elim
  | h + 1, k, T, n, R, Bs, Ls, m, c, v, E, ch, ⟨a, kd, vs, Es, e, NA, A2, hE⟩, X, hc, h3, z1, z2, z3, z4 => by
    subst e hE
    have hop := Tr.op NA A2
    have hb3 := len3 (h3 _ (.head _))
    dsimp only at hb3
    simp only [List.length_cons] at z1 z2 z3
    refine OK.post fun Q hQ => (call_law_walk (k := k + h + 10) ?_).ok
    unfold ir_law_walk
    -- the label
    obtain ⟨cvs, hcv, hci⟩ := id hc
    refine b_cons (s_asg (e_join (fun v n' => ∃ t, v = .int (hd c) t ∧ LX w T n' fo ho le R Bs Ls m) ?_ ?_))
    · refine e_ite (t_cmp (e_v (by with_unfolding_all rfl) (e_tuple (es_nil ⟨zl (by simp), fun t ht => ?_⟩))))
      have X1 := X.alloc' (o := tupOf ([] : List Value).toArray) ht
      refine ok_ne_tups (vs := cvs) (us := []) (ms := []) (by omega) (.tail _ (X.sub _ hcv)) (.head _) hci .nil ⟨_, rfl, ?_⟩
      cases hci with
      | nil =>
        simp only [decide_true, Bool.not_true]
        refine e_neg (e_int fun _ => neg_one fun t => ⟨t, rfl, X1⟩)
      | cons x tx hci =>
        simp only [List.cons_ne_nil, decide_false, Bool.not_false]
        exact e_idx (e_v (by with_unfolding_all rfl) (e_int fun _ => ok_idx_tup (.tail _ (X.sub _ hcv)) (by decide) (by decide) rfl ⟨tx, rfl, X1⟩))
    rintro _ n1 ⟨t5, rfl, X⟩
    refine b_cons (step2 NA X (by omega) (by with_unfolding_all rfl) (by with_unfolding_all rfl) (by with_unfolding_all rfl) hc fun T2 n2 hT2 X2 => ?_)
    have r2 : (row2 kd c).length ≤ 1 := by cases kd <;> simp [row2]
    have r3 : (row3 kd c).length ≤ 1 := by cases kd <;> simp [row3]
    have r4 : (row4 kd c).length ≤ 1 := by cases kd <;> simp [row4]
    have r5 : (row5 kd (opOf Es) c).length ≤ 1 := by unfold row5; split <;> (try split) <;> simp
    refine b_cons (step3 (NA.mono hT2) X2 (by simp only [List.length_append]; omega) (by with_unfolding_all rfl) (by with_unfolding_all rfl) (by with_unfolding_all rfl) (hc.mono hT2) fun T3 n3 hT3 X3 => ?_)
    replace hT3 := hT2.trans hT3
    refine b_cons (step4 (NA.mono hT3) X3 (by simp only [List.length_append]; omega) (by with_unfolding_all rfl) (by with_unfolding_all rfl) (by with_unfolding_all rfl) (hc.mono hT3) fun T4 n4 hT4 X4 => ?_)
    replace hT4 := hT3.trans hT4
    refine b_cons (step5 (op := opOf Es) (NA.mono hT4) (fun e => ?_) X4 (by simp only [List.length_append]; omega) (by with_unfolding_all rfl) (by with_unfolding_all rfl) (by with_unfolding_all rfl) (hc.mono hT4) fun T5 n5 hT5 X5 => ?_)
    · obtain ⟨yo, ovs, vs0, e1, e2⟩ := hop e; exact ⟨yo, ovs, vs0, e1, e2.mono hT4⟩
    replace hT5 := hT4.trans hT5
    refine b_cons (step6 (k := k + h + 9) (op := opOf Es) (NA.mono hT5) (fun e => ?_) X5 (by omega) (by with_unfolding_all rfl) (by with_unfolding_all rfl) fun n6 X6 => ?_)
    · obtain ⟨yo, ovs, vs0, e1, e2⟩ := hop e; exact ⟨yo, ovs, vs0, e1, e2.mono hT5⟩
    refine b_cons (step7 (c := c) (t5 := t5) (NA.mono hT5) X6 hb3.1 (by omega) (by with_unfolding_all rfl) (by with_unfolding_all rfl) (by with_unfolding_all rfl) fun l7 T7 n7 k0 k1 k2 k3 k4 hT7 X7 => ?_)
    replace hT7 := hT5.trans hT7
    refine b_cons (step8 (c := c) (NA.mono hT7) X7 (by simp only [List.length_append]; omega) hb3.2 (by omega) (by omega) (k0.trans (by with_unfolding_all rfl)) (k1.trans (by with_unfolding_all rfl)) (k2.trans (by with_unfolding_all rfl)) (k3.trans (by with_unfolding_all rfl)) (hc.mono hT7) fun l8 T8 n8 ch8 j0 j1 j3 j4 j2 hc8 hT8 X8 => ?_)
    replace hT8 := hT7.trans hT8
    have m0 : l8 0 = some (.ref a) := j0.trans (k0.trans (by with_unfolding_all rfl))
    have m1 : l8 1 = some (.ref fo) := j1.trans (k1.trans (by with_unfolding_all rfl))
    have m3 : l8 3 = some (.ref ho) := j3.trans (k3.trans (by with_unfolding_all rfl))
    have m4 : l8 4 = some (.ref le) := j4.trans (k4.trans (by with_unfolding_all rfl))
    clear j0 j1 j3 j4 k0 k1 k2 k3 k4
    let e : Ev := ⟨c, kd, opOf Es, vs.length⟩
    have X9 : LX w T8 n8 fo ho le (R ++ e.rows) (Bs ++ e.binds) (Ls ++ e.letOf.toList) (m + 6) := X8.same (by rw [rows_eq]; simp only [List.append_assoc]; rfl) (by rw [binds_eq, List.append_assoc]) rfl (by omega)
    clear X2 X3 X4 X5 X6 X7 X8
    refine b_cons (s_each (e_meth (e_v m0 ⟨_, _, fun pl => ok_partsM (NA.mono (hT8.trans X9.sub)), es_nil ⟨kp_parts kd, (parts_ok (k := k + h + 9) (NA.mono (hT8.trans X9.sub))).mono ?_⟩⟩)))
    rintro _ n10 ⟨d, epd, rfl, hd10, rfl⟩
    have X10 := X9.alloc (o := listOf vs.toArray epd) hd10
    have hlv := A2.length
    refine ⟨.list d vs.toArray epd, rfl, .head _, trivial, WkI w ((d, listOf vs.toArray epd) :: T8) fo ho le R Bs Ls m e Es vs l8, ⟨Nat.zero_le _, ⟨rfl, rfl, rfl, rfl, rfl⟩, _, Le.refl _, ?_⟩, ?_⟩
    · rw [rowsE_cons, bindsE_cons, letsE_cons]
      exact X10.same (by simp [rowsE]) (by simp [bindsE]) (by simp [letsE]) (by simp)
    rintro i l' n' ⟨hil, ⟨k0, k1, k2, k3, k4⟩, T', hT', X'⟩
    refine ⟨X'.sub _ (hT' _ (.head _)), fun hlt y hy => ?_, fun hie => ?_⟩
    · have hy : vs[i]? = some y := by simpa [Src.item] using hy
      obtain ⟨F, hF, tF⟩ := A2.at hy
      have hlt2 : i < vs.length := (List.getElem?_eq_some_iff.mp hy).1
      have hTT : Le T T' := (hT8.trans Le.cons).trans hT'
      have e1 : Es.take (i + 1) = Es.take i ++ [F] := by rw [List.take_add_one, hF]; rfl
      have e2 : (Es.take i).flatten.length + F.length ≤ Es.flatten.length := by
        have := flat_len_sub (List.take_sublist (i + 1) Es)
        rw [e1, List.flatten_append, List.length_append] at this
        simpa using this
      have e3 : e :: (Es.take (i + 1)).flatten = (e :: (Es.take i).flatten) ++ F := by rw [e1, List.flatten_append]; simp
      have q1 := rowsE_len (e :: (Es.take i).flatten)
      have q2 := letsE_len (e :: (Es.take i).flatten)
      have q3 : (e :: (Es.take i).flatten).length = (Es.take i).flatten.length + 1 := rfl
      refine b_cons (s_expr (e_call (e_g (es_cons (e_v (by with_unfolding_all rfl) (es_cons (e_v (show lset 7 y l' 1 = some (.ref fo) from k1.trans m1) (es_cons (e_v (show lset 7 y l' 2 = some (.ref ch8) from k2.trans j2) (es_cons (e_v (show lset 7 y l' 3 = some (.ref ho) from k3.trans m3) (es_cons (e_v (show lset 7 y l' 4 = some (.ref le) from k4.trans m4) (es_nil ⟨kp_law_walk, ?_⟩))))))))))))))
      have hFm : ∀ f ∈ F, f ∈ Es.flatten := fun f hf => List.mem_flatten.mpr ⟨F, List.mem_of_getElem? hF, hf⟩
      refine (walk_ok h k (tF.mono hTT (Nat.le_refl _)) X' (hc8.mono (Le.cons.trans hT')) (fun f hf => h3 f (.tail _ (hFm f hf))) ?_ ?_ ?_ ?_).mono ?_
      · rw [List.length_append]; omega
      · rw [List.length_append]; omega
      · omega
      · have : (chainIn kd c).length ≤ c.length + 1 := by unfold chainIn; split <;> simp
        omega
      rintro _ n11 ⟨rfl, T11, hT11, X11⟩
      refine ⟨nofun, b_nil ⟨hlt2, ⟨k0, k1, k2, k3, k4⟩, T11, hT'.trans hT11, ?_⟩⟩
      rw [e3, rowsE_append, bindsE_append, letsE_append]
      exact X11.same (List.append_assoc ..) (List.append_assoc ..) (List.append_assoc ..) (by rw [List.length_append]; omega)
    · have hie : i = vs.length := by simpa [Src.cnt] using hie
      subst hie
      have e1 : Es.take vs.length = Es := List.take_of_length_le (by omega)
      rw [e1] at X'
      exact b_nil (hQ _ _ ⟨rfl, T', (hT8.trans Le.cons).trans hT', X'⟩)
/-! Law3 -/
/-- all that the law reads once it has walked -/
structure Fz (w : World) (n : Led) (fa fo ho le : Addr) (E : List Ev) : Prop where
  nd : True
  fx : ∃ ad, FI n fa ad ∧ (∀ s a, ad s = some a → ∃ kvs, DictAt w n a kvs ∧ ∀ i, RF (PFof E E) ad s i (valueAt kvs i)) ∧ ∀ l, (∃ a, ad (.inn l) = some a) ↔ ∃ e ∈ E, e.lamOf = some l
  fnd : ∃ vs ep, (fo, listOf vs.toArray ep) ∈ n ∧ All2 (RowAt n) vs (rowsE E)
  hom : ∃ kvs, DictAt w n ho kvs ∧ ∀ i, mapR (bindsE E) i (valueAt kvs i)
  lts : ∃ vs ep, (le, listOf vs.toArray ep) ∈ n ∧ IntsAre vs (letsE E)
theorem Fz.mono {w : World} {n n' : Led} {fa fo ho le : Addr} {E : List Ev} (Z : Fz w n fa fo ho le E) (h : Le n n') : Fz w n' fa fo ho le E := by
  obtain ⟨ad, F, r, dom⟩ := Z.fx
  obtain ⟨vs, ep, a, b⟩ := Z.fnd
  obtain ⟨kvs, D, hm⟩ := Z.hom
  obtain ⟨us, ep2, c, d⟩ := Z.lts
  exact ⟨trivial, ⟨ad, F.mono h (fun _ _ => rfl), fun s a ha => let ⟨k, D, x⟩ := r s a ha; ⟨k, D.mono h, x⟩, dom⟩, ⟨vs, ep, h _ a, b.mono fun _ _ r => r.mono h⟩, ⟨kvs, D.mono h, hm⟩, ⟨us, ep2, h _ c, d⟩⟩

theorem tagStr_eq (a b : Tag) : (tagStr a == tagStr b) = decide (a = b) := by cases a <;> cases b <;> rfl
theorem cnt_rows (E : List Ev) (tg : Tag) (x : Int) : (rowsE E).countP (fun r => decide (r.1 = tg ∧ r.2.1 = x)) = cntE E tg x := by
  induction E with
  | nil => rfl
  | cons e E ih =>
    rw [rowsE_cons, List.countP_append, ih]
    unfold cntE
    rw [List.countP_cons]
    unfold Ev.rows
    cases h : e.row with
    | none => simp
    | some r =>
      obtain ⟨r1, r2⟩ := r
      simp only [Option.map_some, Option.toList_some, List.countP_singleton, Option.some.injEq, Prod.mk.injEq]
      omega

section
variable {w : World} {k : Nat} {n : Led} {fa fo ho le : Addr} {E : List Ev}
theorem count_law (Z : Fz w n fa fo ho le E) (hz : E.length ≤ 1000) {tg : Tag} {x : Int} {t u : Tok} : OK w (k + 9) (call (.ref 563) [.ref fo, .str (tagStr tg) t, .int x u]) n fun v n' => (∃ t, v = .int (cntE E tg x : Nat) t) ∧ Le n n' := by
  refine (call_law_count (k := k + 8) ?_).ok
  obtain ⟨vs, ep, hf, A2⟩ := Z.fnd
  have hl := A2.length
  have hr := rowsE_len E
  unfold ir_law_count
  refine b_ret ((e_call (e_g (es_cons (e_compIf (e_v (by with_unfolding_all rfl) ?_)))))
  )
  refine ⟨.list fo vs.toArray ep, rfl, hf, trivial, zl (by show vs.toArray.size ≤ 1000; simp; omega), fun i ys n' => i ≤ vs.length ∧ Le n n' ∧ ys.length = ((rowsE E).take i).countP (fun r => decide (r.1 = tg ∧ r.2.1 = x)), ⟨Nat.zero_le _, Le.refl _, rfl⟩, ?_⟩
  rintro i ys n' ⟨hil, hn, hy⟩
  refine ⟨hn _ hf, fun hlt y hyi => ?_, fun hie d hd => ?_⟩
  · have hyi : vs[i]? = some y := by simpa [Src.item] using hyi
    obtain ⟨r, hri, t', tk, tx, ch, rfl, hm, hc⟩ := A2.at hyi
    obtain ⟨r1, r2, r3⟩ := r
    have hlt2 : i < vs.length := (List.getElem?_eq_some_iff.mp hyi).1
    have e1 : (rowsE E).take (i + 1) = (rowsE E).take i ++ [(r1, r2, r3)] := by rw [List.take_add_one, hri]; rfl
    refine t_and (t_cmp (e_idx (e_v (by with_unfolding_all rfl) (e_int fun _ => ok_idx_tup (vs := [.str (tagStr r1) tk, .int r2 tx, .ref ch]) (hn _ hm) (by decide) (by decide) rfl (e_v (by with_unfolding_all rfl) (ok_eq_str ⟨_, rfl, ?_⟩))))))
    rw [tagStr_eq]
    by_cases q1 : r1 = tg
    · simp only [q1, decide_true]
      refine t_cmp (e_idx (e_v (by with_unfolding_all rfl) (e_int fun _ => ok_idx_tup (vs := [.str (tagStr r1) tk, .int r2 tx, .ref ch]) (hn _ hm) (by decide) (by decide) rfl (e_v (by with_unfolding_all rfl) (ok_eq_int ⟨_, rfl, ?_⟩)))))
      by_cases q2 : r2 = x
      · have : (r2 == x) = true := by simpa using q2
        rw [this]
        refine e_int fun _ => ⟨hlt2, hn, ?_⟩
        rw [e1, List.countP_append, List.length_append, hy]
        simp [q1, q2]
      · have : (r2 == x) = false := by simpa using q2
        rw [this]
        refine ⟨hlt2, hn, ?_⟩
        rw [e1, List.countP_append, hy]
        simp [q2]
    · simp only [q1, decide_false]
      refine ⟨hlt2, hn, ?_⟩
      rw [e1, List.countP_append, hy]
      simp [q1]
  · have hie : i = vs.length := by simpa [Src.cnt] using hie
    subst hie
    have e1 : (rowsE E).take vs.length = rowsE E := List.take_of_length_le (by omega)
    rw [e1, cnt_rows] at hy
    have hc : ys.length ≤ 1000 := by
      rw [hy]
      exact Nat.le_trans (List.countP_le_length ..) hz
    refine es_nil ⟨callable_builtin _, ok_len_list (.head _) (zl hc) fun t => ⟨⟨t, ?_⟩, hn.trans Le.cons⟩⟩
    rw [hy]; rfl

theorem cnt_get {f : Int → Nat} {x : Int} {v : Option Value} (r : cntR f x v) (t : Tok) : ∃ u, v.getD (.int 0 t) = .int (f x : Nat) u := by
  rcases r with ⟨e, z⟩ | ⟨_, u, e⟩
  · rw [e, z]; exact ⟨t, rfl⟩
  · rw [e]; exact ⟨u, rfl⟩
/-- what a count tells -/
theorem fact_get (Z : Fz w n fa fo ho le E) {s : Sl} (hb : s.base = true) {f : Int → Nat} (hR : ∀ ad, RF (PFof E E) ad s = cntR f) {l : Lc} {e1 e2 : Ex} {x : Int} {tx : Tok} {Q : Value → Led → Prop} (h1 : ∀ Q : Value → Led → Prop, Q (.ref fa) n → wE w k e1 l n Q) (h2 : ∀ Q : Value → Led → Prop, Q (.int x tx) n → wE w k e2 l n Q)
    (h : ∀ t, Q (.int (f x : Nat) t) n) : wE w k (.meth (.attr e1 (nmOf s)) s_get_ (.cons e2 (.cons (.int 0) .nil))) l n Q := by
  obtain ⟨ad, F, r, dom⟩ := Z.fx
  refine e_meth (e_attr (h1 _ (ok_fact F (Le.refl _) s hb fun a ha => ?_)))
  obtain ⟨kvs, D, hr⟩ := r s a ha
  refine ⟨_, _, meth_get D, es_cons (h2 _ (es_cons (e_int fun t0 => es_nil ⟨callable_builtin _, ok_dictget D ?_⟩)))⟩
  have := hr x
  rw [hR ad] at this
  obtain ⟨u, e⟩ := cnt_get this t0
  rw [e]; exact h u
theorem fact_at (Z : Fz w n fa fo ho le E) {s : Sl} (hb : s.base = true) {B : List (Int × Int)} (hR : ∀ ad, RF (PFof E E) ad s = mapR B) {l : Lc} {e1 e2 : Ex} {x j : Int} {tx : Tok} {Q : Value → Led → Prop} (hx : (x, j) ∈ B) (hu : ∀ j', (x, j') ∈ B → j' = j) (h1 : ∀ Q : Value → Led → Prop, Q (.ref fa) n → wE w k e1 l n Q) (h2 : ∀ Q : Value → Led → Prop, Q (.int x tx) n → wE w k e2 l n Q)
    (h : ∀ t, Q (.int j t) n) : wE w k (.idx (.attr e1 (nmOf s)) e2) l n Q := by
  obtain ⟨ad, F, r, dom⟩ := Z.fx
  refine e_idx (e_attr (h1 _ (ok_fact F (Le.refl _) s hb fun a ha => ?_)))
  obtain ⟨kvs, D, hr⟩ := r s a ha
  have := hr x
  rw [hR ad] at this
  obtain ⟨t, e⟩ := mapR_get this hx hu
  exact h2 _ (ok_get_dict D e (h t))
theorem times_read_ok (Z : Fz w n fa fo ho le E) {x : Int} {tx : Tok} : OK w (k + 1) (call (.ref 459) [.ref fa, .int x tx]) n fun v n' => (∃ t, v = .int (cntE E .read x : Nat) t) ∧ n' = n := by
  refine (call_Facts_times_read ?_).ok
  exact b_ret ((fact_get (s := .read) Z rfl (fun _ => rfl) (fun Q h => e_v (by with_unfolding_all rfl) h) (fun Q h => e_v (by with_unfolding_all rfl) h) fun t => ⟨⟨t, rfl⟩, rfl⟩))
theorem times_called_ok (Z : Fz w n fa fo ho le E) {x : Int} {tx : Tok} : OK w (k + 1) (call (.ref 466) [.ref fa, .int x tx]) n fun v n' => (∃ t, v = .int (cntE E .called x : Nat) t) ∧ n' = n := by
  refine (call_Facts_times_called ?_).ok
  exact b_ret ((fact_get (s := .called) Z rfl (fun _ => rfl) (fun Q h => e_v (by with_unfolding_all rfl) h) (fun Q h => e_v (by with_unfolding_all rfl) h) fun t => ⟨⟨t, rfl⟩, rfl⟩))
theorem is_set_ok (Z : Fz w n fa fo ho le E) {x : Int} {tx : Tok} : OK w (k + 1) (call (.ref 445) [.ref fa, .int x tx]) n fun v n' => v = .bool (decide ((0 : Int) < (cntE E .set x : Nat))) ∧ n' = n := by
  refine (call_Facts_is_set ?_).ok
  exact b_ret ((e_cmp (fact_get (s := .set) Z rfl (fun _ => rfl) (fun Q h => e_v (by with_unfolding_all rfl) h) (fun Q h => e_v (by with_unfolding_all rfl) h) fun t => e_int fun _ => ok_gt_int ⟨rfl, rfl⟩)))
theorem is_set_global_ok (Z : Fz w n fa fo ho le E) {x : Int} {tx : Tok} : OK w (k + 1) (call (.ref 452) [.ref fa, .int x tx]) n fun v n' => v = .bool (decide ((0 : Int) < (cntE E .setGlob x : Nat))) ∧ n' = n := by
  refine (call_Facts_is_set_global ?_).ok
  exact b_ret ((e_cmp (fact_get (s := .sg) Z rfl (fun _ => rfl) (fun Q h => e_v (by with_unfolding_all rfl) h) (fun Q h => e_v (by with_unfolding_all rfl) h) fun t => e_int fun _ => ok_gt_int ⟨rfl, rfl⟩)))
/-- distinct numbers within bounds are few -/
theorem nodup_few : ∀ (b : Nat) {ns : List Int}, ns.Nodup → (∀ x ∈ ns, 0 < x ∧ x ≤ b) → ns.length ≤ b
  | 0, ns, nd, h => by
    cases ns with
    | nil => exact Nat.zero_le _
    | cons x ns => have := h x (.head _); omega
  | b + 1, ns, nd, h => by
    have h1 := nodup_few b (ns := ns.filter (· ≠ ((b + 1 : Nat) : Int))) (nd.filter _) fun x hx => by
      rw [List.mem_filter] at hx
      have := h x hx.1
      have h2 : x ≠ ((b + 1 : Nat) : Int) := by simpa using hx.2
      omega
    have h2 : ns.length ≤ (ns.filter (· ≠ ((b + 1 : Nat) : Int))).length + 1 := by
      clear h h1
      induction ns with
      | nil => simp
      | cons x ns ih =>
        obtain ⟨a, b'⟩ := List.nodup_cons.mp nd
        by_cases q : x = ((b + 1 : Nat) : Int)
        · have e : ns.filter (· ≠ ((b + 1 : Nat) : Int)) = ns := List.filter_eq_self.mpr fun y hy => by
            have : y ≠ ((b + 1 : Nat) : Int) := fun e => a (by rw [q, ← e]; exact hy)
            simpa using this
          rw [List.filter_cons, e]
          split <;> simp
        · have := ih b'
          rw [List.filter_cons, if_pos (by simpa using q)]
          simp only [List.length_cons]
          omega
    omega
theorem free_ok (Z : Fz w n fa fo ho le E) {lb : Int} {tx : Tok} {b : Nat} (hb : b < 64) (hl : ∃ e ∈ E, e.lamOf = some lb) (hin : ∀ x, (PFof E E).inn lb x → 0 < x ∧ x ≤ b) :
    OK w (k + 1) (call (.ref 473) [.ref fa, .int lb tx]) n fun v n' => ∃ d vs' ns' ep, v = .ref d ∧ (d, listOf vs'.toArray ep) ∈ n' ∧ IntsAre vs' ns' ∧ ns'.Nodup ∧ ns'.Pairwise (· ≤ ·) ∧ (∀ x, x ∈ ns' ↔ (PFof E E).inn lb x) ∧ Le n n' := by
  refine (call_Facts_free ?_).ok
  obtain ⟨ad, F, r, dom⟩ := Z.fx
  obtain ⟨a, ha⟩ := (dom lb).mpr hl
  unfold ir_Facts_free
  refine b_ret ((e_call (e_g (es_cons (e_meth (e_attr (e_v (by with_unfolding_all rfl) (ok_fact F (Le.refl _) .inner rfl fun ai hai => ?_))))))))
  obtain ⟨kvs, D, hr⟩ := r _ _ hai
  refine ⟨_, _, meth_get D, es_cons (e_v (by with_unfolding_all rfl) (es_cons (e_dict fun dd hdd hlow => es_nil ⟨callable_builtin _, ok_dictget (D.mono Le.cons) ?_⟩)))⟩
  have e1 : valueAt kvs lb = some (.ref a) := by have h := hr lb; rw [show valueAt kvs lb = (ad (.inn lb)).map .ref from h, ha]; rfl
  rw [e1]
  obtain ⟨kvl, Dl, hrl⟩ := r _ _ ha
  have hmem : ∀ x, x ∈ kvl.map (·.1) ↔ (PFof E E).inn lb x := fun x => by
    rw [mem_keysOf]; exact setR_isSome (hrl x)
  have hlen : (kvl.map (·.1)).length ≤ b := nodup_few b Dl.nodup fun x hx => hin x ((hmem x).mp hx)
  rw [List.length_map] at hlen
  refine es_nil ⟨callable_builtin _, ok_sorted_dict (Dl.mono Le.cons) (by omega) fun d vs' ns' c hd h1 h2 h3 => ⟨d, vs', ns', c, rfl, .head _, h1, h2.symm.nodup Dl.nodup, h3, fun x => ?_, Le.cons.trans Le.cons⟩⟩
  rw [← hmem x]; exact h2.mem_iff
end
/-! Law4 -/
theorem first_at {lb : Int} : ∀ {c : List Int}, lb ∈ c → ∃ c1 c2, c = c1 ++ lb :: c2 ∧ lb ∉ c1
  | x :: c, h => by
    by_cases q : x = lb
    · exact ⟨[], c, by rw [q]; rfl, nofun⟩
    · obtain ⟨c1, c2, e, hn⟩ := first_at (c := c) ((List.mem_cons.mp h).resolve_left (Ne.symm q))
      exact ⟨x :: c1, c2, by rw [e]; rfl, fun hm => by
        rcases List.mem_cons.mp hm with e | hm
        · exact q e.symm
        · exact hn hm⟩
theorem tw_iff {lb h : Int} {c2 : List Int} : ∀ {c1 : List Int}, lb ∉ c1 → (lb ∈ (c1 ++ lb :: c2).takeWhile (· != h) ↔ h ∉ c1 ++ [lb])
  | [], _ => by
    rw [List.nil_append, List.takeWhile_cons]
    by_cases q : lb = h
    · subst q; simp
    · have : (lb != h) = true := by simpa using q
      rw [if_pos this]; simp [Ne.symm q]
  | x :: c1, hn => by
    have hx : lb ≠ x := fun e => hn (e ▸ .head _)
    have ih := tw_iff (h := h) (c2 := c2) (c1 := c1) fun q => hn (.tail _ q)
    rw [List.cons_append, List.takeWhile_cons]
    by_cases q : x = h
    · subst q; simp
    · have : (x != h) = true := by simpa using q
      rw [if_pos this, List.mem_cons, ih]
      simp [hx, Ne.symm q]
theorem mem_rowsE {E : List Ev} {r : LRow} : r ∈ rowsE E ↔ ∃ e ∈ E, e.row = some (r.1, r.2.1) ∧ e.c = r.2.2 := by
  obtain ⟨tg, x, c⟩ := r
  unfold rowsE
  rw [List.mem_flatMap]
  refine exists_congr fun e => and_congr_right fun _ => ?_
  unfold Ev.rows
  cases h : e.row with
  | none => simp
  | some r =>
    obtain ⟨r1, r2⟩ := r
    simp only [Option.map_some, Option.toList_some, List.mem_singleton, Prod.mk.injEq, Option.some.injEq]
    constructor
    · rintro ⟨a, b, c⟩; exact ⟨⟨a.symm, b.symm⟩, c.symm⟩
    · rintro ⟨⟨a, b⟩, c⟩; exact ⟨a.symm, b.symm, c.symm⟩
theorem row_use (e : Ev) (x : Int) : (e.row = some (.read, x) ∨ e.row = some (.set, x)) ↔ e.useOf = some x := by
  obtain ⟨c, kd, op, m⟩ := e
  cases kd <;> simp [Ev.row, Ev.useOf]
  cases op <;> simp
noncomputable def isUse (tg : Tag) : Bool := decide (tg = .read ∨ tg = .set)
theorem use_rows (E : List Ev) (x : Int) (c : List Int) : (∃ tg, isUse tg = true ∧ (tg, x, c) ∈ rowsE E) ↔ ∃ e ∈ E, e.useOf = some x ∧ e.c = c := by
  simp only [mem_rowsE, ← row_use, isUse, decide_eq_true_eq]
  constructor
  · rintro ⟨tg, h | h, e, a, b, d⟩
    · exact ⟨e, a, .inl (h ▸ b), d⟩
    · exact ⟨e, a, .inr (h ▸ b), d⟩
  · rintro ⟨e, a, b | b, d⟩
    · exact ⟨.read, .inl rfl, e, a, b, d⟩
    · exact ⟨.set, .inr rfl, e, a, b, d⟩

section
variable {w : World} {k : Nat} {n : Led} {fa fo ho le : Addr} {E : List Ev}
theorem use_t {l : Lc} {i : Nat} {tg : Tag} {t : Tok} {Q : Bool → Led → Prop} (l4 : l i = some (.str (tagStr tg) t)) (h : ∀ n', Le n n' → Q (isUse tg) n') :
    wT w k (.cmp .In (.v i) (.tuple (.cons (.str ⟨#[114, 101, 97, 100]⟩) (.cons (.str ⟨#[115, 101, 116]⟩) .nil)))) l n Q := by
  refine t_cmp (e_v l4 (e_tuple (es_cons (e_str fun t1 => es_cons (e_str fun t2 => es_nil ⟨zl (by simp), fun a ha => ?_⟩)))))
  refine ok_in_tup (isStrOf (tagStr tg)) (.head _) (eq_isStrOf _ _ (.cons _ t1 (.cons _ t2 .nil))) ⟨_, rfl, ?_⟩
  have : [Value.str ⟨#[114, 101, 97, 100]⟩ t1, Value.str ⟨#[115, 101, 116]⟩ t2].any (isStrOf (tagStr tg)) = isUse tg := by cases tg <;> rfl
  rw [this]
  exact h _ Le.cons
theorem mapR_at {E : List Ev} {kvs : List (Int × Value)} (hm : ∀ i, mapR (bindsE E) i (valueAt kvs i)) {x h : Int} (hx : (x, h) ∈ bindsE E) (hu : ∀ j, (x, j) ∈ bindsE E → j = h) : ∃ t, valueAt kvs x = some (.int h t) := mapR_get (hm x) hx hu
/-- what the loop of law_taken keeps -/
inductive TakI (n : Led) (vs : List Value) (E : List Ev) (lb : Int) (t : Tok) (ho so : Addr) (i : Nat) (l' : Lc) (n' : Led) : Prop
  | mk (h1 : i ≤ vs.length) (h2 : l' 1 = some (.int lb t) ∧ l' 2 = some (.ref ho) ∧ l' 3 = some (.ref so)) (h3 : Le n n') (us : List Value) (ns : List Int) (ep : Nat) (h4 : (so, listOf us.toArray ep) ∈ n') (h5 : IntsAre us ns) (h6 : ns.Nodup)
    (h7 : ∀ x, x ∈ ns ↔ ∃ r ∈ (rowsE E).take i, isUse r.1 = true ∧ r.2.1 = x ∧ ∃ h, (x, h) ∈ bindsE E ∧ lb ∈ r.2.2.takeWhile (· != h))
set_option maxHeartbeats 1000000 in
theorem taken_ok {N L : Int → Prop} {b : Nat} (S : Sub [] [] N L E) (hb : b < 64) (hN : ∀ x, N x → 0 < x ∧ x ≤ b) (Z : Fz w n fa fo ho le E) (hz : E.length ≤ 1000) (hcl : ∀ e ∈ E, e.c.length ≤ 20) {lb : Int} {t : Tok} :
    OK w (k + 9) (call (.ref 570) [.ref fo, .int lb t, .ref ho]) n fun v n' => ∃ d vs' ns' ep, v = .ref d ∧ (d, listOf vs'.toArray ep) ∈ n' ∧ IntsAre vs' ns' ∧ ns'.Nodup ∧ ns'.Pairwise (· ≤ ·) ∧ (∀ x, x ∈ ns' ↔ ∃ e ∈ E, Esc E e x lb) ∧ Le n n' := by
  refine OK.post fun Q hQ => (call_law_taken (k := k + 8) ?_).ok
  obtain ⟨vs, ep, hf, A2⟩ := Z.fnd
  obtain ⟨kvs, D, hm⟩ := Z.hom
  have hl := A2.length
  have hr := rowsE_len E
  unfold ir_law_taken
  refine b_cons (s_asg (e_list (es_nil ⟨zl (by simp), fun so hso => ?_⟩)))
  have hne : ∀ p ∈ n, p.1 ≠ so := fun p hp e => hso (e ▸ List.mem_map.mpr ⟨p, hp, rfl⟩)
  refine b_cons (s_eachT (e_v (by with_unfolding_all rfl) ⟨fo, vs.toArray, ep, rfl, .tail _ hf, TakI n vs E lb t ho so, ⟨Nat.zero_le _, ⟨by with_unfolding_all rfl, by with_unfolding_all rfl, by with_unfolding_all rfl⟩, Le.cons, [], [], 0, .head _, .nil, List.nodup_nil, by simp⟩, ?_⟩))
  rintro i l' n' ⟨hil, ⟨l1, l2, l3⟩, hn, us, ns, ep', hso', hus, hnd, hiff⟩
  refine ⟨hn _ hf, fun hlt y hyi => ?_, fun hie => ?_⟩
  · have hyi : vs[i]? = some y := by simpa using hyi
    obtain ⟨r, hri, t', tk, tx, ch, rfl, hmt, hc⟩ := A2.at hyi
    obtain ⟨tg, x, c⟩ := r
    have hlt2 : i < vs.length := (List.getElem?_eq_some_iff.mp hyi).1
    have hrow : (tg, x, c) ∈ rowsE E := List.mem_of_getElem? hri
    obtain ⟨e0, he0, he1, he2⟩ := mem_rowsE.mp hrow
    have e1 : (rowsE E).take (i + 1) = (rowsE E).take i ++ [(tg, x, c)] := by rw [List.take_add_one, hri]; rfl
    refine ⟨t', _, rfl, hn _ hmt, rfl, ?_⟩
    -- what is left as it is
    have same : ∀ (n2 : Led) (l2' : Lc), Le n' n2 → l2' 1 = some (.int lb t) → l2' 2 = some (.ref ho) → l2' 3 = some (.ref so) → ¬ (isUse tg = true ∧ ∃ h, (x, h) ∈ bindsE E ∧ lb ∈ c.takeWhile (· != h) ∧ x ∉ ns) → TakI n vs E lb t ho so (i + 1) l2' n2 := fun n2 l2' h2 q1 q2 q3 hno => by
      refine ⟨hlt2, ⟨q1, q2, q3⟩, hn.trans h2, us, ns, ep', h2 _ hso', hus, hnd, fun z => ?_⟩
      rw [e1, hiff z]
      constructor
      · rintro ⟨r, a, b⟩; exact ⟨r, List.mem_append_left _ a, b⟩
      · rintro ⟨r, a, b⟩
        rcases List.mem_append.mp a with a | a
        · exact ⟨r, a, b⟩
        · rw [List.mem_singleton.mp a] at b
          obtain ⟨b1, b2, h, b3, b4⟩ := b
          have b2 : x = z := b2
          subst b2
          refine (hiff x).mp ?_
          exact Classical.byContradiction fun hx => hno ⟨b1, h, b3, b4, hx⟩
    have j1 : setAll [4, 5, 6] (#[Value.str (tagStr tg) tk, .int x tx, .ref ch] : Array Value).toList l' 1 = some (.int lb t) := l1
    have j2 : setAll [4, 5, 6] (#[Value.str (tagStr tg) tk, .int x tx, .ref ch] : Array Value).toList l' 2 = some (.ref ho) := l2
    have j3 : setAll [4, 5, 6] (#[Value.str (tagStr tg) tk, .int x tx, .ref ch] : Array Value).toList l' 3 = some (.ref so) := l3
    refine b_cons (s_ite (t_and (use_t (i := 4) (tg := tg) (t := tk) (by with_unfolding_all rfl) fun n2 h2 => ?_)))
    cases hu : isUse tg with
    | false =>
      refine b_nil (same _ _ h2 j1 j2 j3 ?_)
      rintro ⟨q, _⟩; rw [hu] at q; cases q
    | true =>
      dsimp only
      obtain ⟨cvs, hcm, hci⟩ := hc
      have hcml : (ch, tupOf cvs.toArray) ∈ n2 := h2 _ (hn _ hcm)
      refine t_and (t_cmp (e_v j1 (e_v (by with_unfolding_all rfl) (ok_in_ints hcml hci ⟨_, rfl, ?_⟩))))
      by_cases hlc : lb ∈ c
      · simp only [hlc, decide_true]
        refine t_cmp (e_v (by with_unfolding_all rfl) (e_v j3 (ok_notin_list (isInt x) (h2 _ hso') (eq_isInt x tx hus) ⟨_, rfl, ?_⟩)))
        rw [any_ints hus]
        by_cases hxn : x ∈ ns
        · simp only [hxn, decide_true, Bool.not_true]
          refine b_nil (same _ _ h2 j1 j2 j3 ?_)
          rintro ⟨_, _, _, _, q⟩; exact q hxn
        · simp only [hxn, decide_false, Bool.not_false]
          -- where it is bound
          have huse : e0.useOf = some x := by
            rw [← row_use]
            have : tg = .read ∨ tg = .set := by simpa [isUse] using hu
            rcases this with q | q
            · exact .inl (by rw [he1, q])
            · exact .inr (by rw [he1, q])
          obtain ⟨A, B, hEs⟩ := List.append_of_mem he0
          obtain ⟨h, hb1, hb2, hb3⟩ := use_pre S hEs huse
          have hbE := sub_prefix (A' := A) hEs _ hb1
          obtain ⟨th, eh⟩ := mapR_at hm hbE hb2
          obtain ⟨c1, c2, hcc, hcn⟩ := first_at hlc
          have hcl0 : cvs.length ≤ 20 := by rw [hci.length]; have := hcl e0 he0; rw [he2] at this; exact this
          refine b_cons (s_ite (t_cmp (e_idx (e_v j2 (e_v (by with_unfolding_all rfl) (ok_get_dict (D.mono (hn.trans h2)) eh (e_cutTo (e_v (by with_unfolding_all rfl) (e_bin (e_meth (e_v (by with_unfolding_all rfl) ⟨_, _, meth_index hcml, es_cons (e_v j1 (es_nil ⟨callable_builtin _, ?_⟩))⟩)))))))))))
          refine ok_index_tup (t := t) (isInt lb) c1.length hcml (eq_isInt lb t hci) ?_ ?_ fun tj => e_int fun _ => ok_add fun tj2 => ?_
          · obtain ⟨y, hy⟩ : ∃ y, cvs[c1.length]? = some y := ⟨cvs[c1.length]'(by rw [hci.length, hcc]; simp), List.getElem?_eq_getElem _⟩
            obtain ⟨z, tz, rfl, hz⟩ := hci.at _ _ hy
            refine ⟨_, hy, ?_⟩
            rw [hcc] at hz
            simp at hz
            subst hz
            show (lb == lb) = true
            simp
          · intro j hj y hy
            obtain ⟨z, tz, rfl, hz⟩ := hci.at _ _ hy
            rw [hcc, List.getElem?_append_left hj] at hz
            have : z ≠ lb := fun e => hcn (e ▸ List.mem_of_getElem? hz)
            show (z == lb) = false
            simpa using this
          have hcast : ((c1.length : Nat) : Int) + 1 = ((c1.length + 1 : Nat) : Int) := rfl
          rw [hcast]
          intro is his
          refine ok_cutTo_tup (b := c1.length + 1) hcml (by rw [hci.length, hcc]; simp) (zl (by omega)) fun dt n3 hn3 hdt => ?_
          have hn23 : Le n2 n3 := by
            rcases hn3 with rfl | ⟨o, _, rfl⟩
            · exact Le.refl _
            · exact Le.cons
          have htk : IntsAre (cvs.take (c1.length + 1)) (c1 ++ [lb]) := by
            have := hci.take (c1.length + 1)
            rw [hcc] at this
            rw [List.take_append, List.take_of_length_le (by omega : c1.length ≤ c1.length + 1)] at this
            simpa using this
          refine ok_notin_tup (isInt h) hdt (eq_isInt h th htk) ⟨_, rfl, ?_⟩
          rw [any_ints htk]
          have key : h ∉ c1 ++ [lb] ↔ lb ∈ c.takeWhile (· != h) := by rw [hcc]; exact (tw_iff hcn).symm
          by_cases hh : h ∈ c1 ++ [lb]
          · simp only [hh, decide_true, Bool.not_true]
            refine b_nil (b_nil (same _ _ (h2.trans hn23) j1 j2 j3 ?_))
            rintro ⟨_, h', q1, q2, _⟩
            rw [hb2 h' q1, ← key] at q2
            exact q2 hh
          · simp only [hh, decide_false, Bool.not_false]
            have hso3 := hn23 _ (h2 _ hso')
            have hlen : us.length ≤ 1000 := by
              rw [hus.length]
              refine Nat.le_trans (nodup_few b hnd fun z hz => ?_) (by omega)
              obtain ⟨r, _, _, _, h', q, _⟩ := (hiff z).mp hz
              exact hN z (S.num (z, h') q)
            refine b_cons (s_expr (e_meth (e_v j3 ⟨_, _, meth_list hso3 PySem.F.slot_list_append PySem.F.type_list_append, es_cons (e_v (by with_unfolding_all rfl) (es_nil ⟨callable_builtin _, ok_append hso3 (zl (by simpa using hlen)) ⟨nofun, ?_⟩⟩))⟩)))
            refine b_nil (b_nil (b_nil ⟨hlt2, ⟨j1, j2, j3⟩, fun p hp => mem_upd_ne (hn23 _ (h2 _ (hn p hp))) (hne p hp), us ++ [.int x tx], ns ++ [x], ep' + 1, ?_, hus.append (.cons _ _ .nil), ?_, fun z => ?_⟩))
            · have := mem_upd_self (o' := listOf (us.toArray.push (.int x tx)) (ep' + 1)) hso3
              simpa using this
            · rw [List.nodup_append]
              refine ⟨hnd, by simp, fun a ha b' hb' e => ?_⟩
              rw [List.mem_singleton.mp hb'] at e
              exact hxn (e ▸ ha)
            · rw [List.mem_append, hiff z, e1]
              constructor
              · rintro (⟨r, a, b'⟩ | hz)
                · exact ⟨r, List.mem_append_left _ a, b'⟩
                · rw [List.mem_singleton.mp hz]
                  exact ⟨(tg, x, c), by simp, hu, rfl, h, hbE, key.mp hh⟩
              · rintro ⟨r, a, b'⟩
                rcases List.mem_append.mp a with a | a
                · exact .inl ⟨r, a, b'⟩
                · rw [List.mem_singleton.mp a] at b'
                  exact .inr (by rw [List.mem_singleton]; exact b'.2.1.symm)
      · simp only [hlc, decide_false]
        refine b_nil (same _ _ h2 j1 j2 j3 ?_)
        rintro ⟨_, h, _, q, _⟩
        exact hlc ((List.takeWhile_sublist _).subset q)
  · have hie : i = vs.length := by simpa using hie
    subst hie
    have e1 : (rowsE E).take vs.length = rowsE E := List.take_of_length_le (by omega)
    rw [e1] at hiff
    have hlen : ns.length ≤ b := nodup_few b hnd fun z hz => by
      obtain ⟨r, _, _, _, h', q, _⟩ := (hiff z).mp hz
      exact hN z (S.num (z, h') q)
    refine b_ret ((e_call (e_g (es_cons (e_v l3 (es_nil ⟨callable_builtin _, ok_sorted_list hso' hus (by omega) fun d vs' ns' cc hd h1 h2 h3 => hQ _ _ ⟨d, vs', ns', cc, rfl, .head _, h1, h2.symm.nodup hnd, h3, fun x => ?_, hn.trans Le.cons⟩⟩))))))
    rw [h2.mem_iff, hiff x]
    constructor
    · rintro ⟨⟨tg, x', c⟩, a, b1, b2, h, b3, b4⟩
      have b2 : x' = x := b2
      subst b2
      obtain ⟨e, he, q1, q2⟩ := (use_rows E x' c).mp ⟨tg, b1, a⟩
      exact ⟨e, he, q1, h, b3, by rw [q2]; exact b4⟩
    · rintro ⟨e, he, q1, h, b3, b4⟩
      obtain ⟨tg, b1, a⟩ := (use_rows E x e.c).mpr ⟨e, he, q1, rfl⟩
      exact ⟨(tg, x, e.c), a, b1, rfl, h, b3, b4⟩
end
/-! Law5 -/
section
variable {w : World} {k : Nat} {n : Led} {fa fo ho le : Addr} {E : List Ev}
/-- what law_is_caught asks of a row -/
noncomputable def Cau (E : List Ev) (x h : Int) (r : LRow) : Prop := isUse r.1 = true ∧ r.2.1 = x ∧ ∃ l ∈ r.2.2.takeWhile (· != h), l ∉ letsE E
inductive CauI (n : Led) (vs : List Value) (E : List Ev) (x h : Int) (t u : Tok) (le : Addr) (i : Nat) (l' : Lc) (n' : Led) : Prop
  | mk (h1 : i ≤ vs.length) (h2 : l' 1 = some (.int x t) ∧ l' 2 = some (.int h u) ∧ l' 3 = some (.ref le)) (h3 : Le n n') (h4 : ¬ ∃ r ∈ (rowsE E).take i, Cau E x h r)
inductive CauJ (n3 : Led) (ivs : List Value) (E : List Ev) (ls : List Int) (i : Nat) (ys : List Value) (n' : Led) : Prop
  | mk (h1 : i ≤ ivs.length) (h2 : Le n3 n') (ns : List Int) (h3 : IntsAre ys ns) (h4 : ns ≠ [] ↔ ∃ l ∈ ls.take i, l ∉ letsE E)
set_option maxHeartbeats 1000000 in
theorem caught_ok (Z : Fz w n fa fo ho le E) (hz : E.length ≤ 1000) (hcl : ∀ e ∈ E, e.c.length ≤ 20) {x h : Int} {t u : Tok} :
    OK w (k + 9) (call (.ref 575) [.ref fo, .int x t, .int h u, .ref le]) n fun v n' => (∃ b, v = .bool b ∧ (b = true ↔ ∃ e ∈ E, e.useOf = some x ∧ ∃ l ∈ e.c.takeWhile (· != h), l ∉ letsE E)) ∧ Le n n' := by
  have conv : (∃ r ∈ rowsE E, Cau E x h r) ↔ ∃ e ∈ E, e.useOf = some x ∧ ∃ l ∈ e.c.takeWhile (· != h), l ∉ letsE E := by
    constructor
    · rintro ⟨⟨tg, x', c⟩, a, b1, b2, l, b3, b4⟩
      have b2 : x' = x := b2
      subst b2
      obtain ⟨e, he, q1, q2⟩ := (use_rows E x' c).mp ⟨tg, b1, a⟩
      exact ⟨e, he, q1, l, by rw [q2]; exact b3, b4⟩
    · rintro ⟨e, he, q1, l, b3, b4⟩
      obtain ⟨tg, b1, a⟩ := (use_rows E x e.c).mpr ⟨e, he, q1, rfl⟩
      exact ⟨(tg, x, e.c), a, b1, rfl, l, b3, b4⟩
  rw [← conv]
  refine OK.post fun Q hQ => (call_law_is_caught (k := k + 8) ?_).ok
  obtain ⟨vs, ep, hf, A2⟩ := Z.fnd
  obtain ⟨lvs, lep, hle, hli⟩ := Z.lts
  have hl := A2.length
  have hr := rowsE_len E
  unfold ir_law_is_caught
  refine b_cons (s_eachT (e_v (by with_unfolding_all rfl) ⟨fo, vs.toArray, ep, rfl, hf, CauI n vs E x h t u le,
    ⟨Nat.zero_le _, ⟨by with_unfolding_all rfl, by with_unfolding_all rfl, by with_unfolding_all rfl⟩, Le.refl _, by simp⟩, ?_⟩))
  rintro i l' n' ⟨hil, ⟨l1, l2, l3⟩, hn, hno⟩
  refine ⟨hn _ hf, fun hlt y hyi => ?_, fun hie => ?_⟩
  · have hyi : vs[i]? = some y := by simpa using hyi
    obtain ⟨r, hri, t', tk, tx, ch, rfl, hmt, hc⟩ := A2.at hyi
    obtain ⟨tg, x', c⟩ := r
    have hlt2 : i < vs.length := (List.getElem?_eq_some_iff.mp hyi).1
    have hrow : (tg, x', c) ∈ rowsE E := List.mem_of_getElem? hri
    obtain ⟨e0, he0, he1, he2⟩ := mem_rowsE.mp hrow
    have e1 : (rowsE E).take (i + 1) = (rowsE E).take i ++ [(tg, x', c)] := by rw [List.take_add_one, hri]; rfl
    refine ⟨t', _, rfl, hn _ hmt, rfl, ?_⟩
    have same : ∀ (n2 : Led) (l2' : Lc), Le n' n2 → l2' 1 = some (.int x t) → l2' 2 = some (.int h u) → l2' 3 = some (.ref le) → ¬ Cau E x h (tg, x', c) → CauI n vs E x h t u le (i + 1) l2' n2 := fun n2 l2' h2 q1 q2 q3 hno2 => by
      refine ⟨hlt2, ⟨q1, q2, q3⟩, hn.trans h2, ?_⟩
      rw [e1]
      rintro ⟨r, a, b⟩
      rcases List.mem_append.mp a with a | a
      · exact hno ⟨r, a, b⟩
      · rw [List.mem_singleton.mp a] at b; exact hno2 b
    have j1 : setAll [4, 5, 6] (#[Value.str (tagStr tg) tk, .int x' tx, .ref ch] : Array Value).toList l' 1 = some (.int x t) := l1
    have j2 : setAll [4, 5, 6] (#[Value.str (tagStr tg) tk, .int x' tx, .ref ch] : Array Value).toList l' 2 = some (.int h u) := l2
    have j3 : setAll [4, 5, 6] (#[Value.str (tagStr tg) tk, .int x' tx, .ref ch] : Array Value).toList l' 3 = some (.ref le) := l3
    refine b_cons (s_ite (t_and (use_t (i := 4) (tg := tg) (t := tk) (by with_unfolding_all rfl) fun n2 h2 => ?_)))
    cases hu : isUse tg with
    | false =>
      refine b_nil (same _ _ h2 j1 j2 j3 ?_)
      rintro ⟨q, _⟩; rw [show isUse tg = false from hu] at q; cases q
    | true =>
      dsimp only
      refine t_cmp (e_v (by with_unfolding_all rfl) (e_v j1 (ok_eq_int ⟨_, rfl, ?_⟩)))
      by_cases hx : x' = x
      · have : (x' == x) = true := by simpa using hx
        rw [this]
        obtain ⟨cvs, hcm, hci⟩ := hc
        have hcml : (ch, tupOf cvs.toArray) ∈ n2 := h2 _ (hn _ hcm)
        have hcl0 : cvs.length ≤ 20 := by rw [hci.length]; have := hcl e0 he0; rw [he2] at this; exact this
        -- the part of the chain within the home
        refine b_cons (s_asg (e_join (fun v n3 => ∃ ia ivs, v = .ref ia ∧ Le n2 n3 ∧ (ia, tupOf ivs.toArray) ∈ n3 ∧ IntsAre ivs (c.takeWhile (· != h))) ?_ ?_))
        · refine e_ite (t_cmp (e_v j2 (e_v (by with_unfolding_all rfl) (ok_in_ints hcml hci ⟨_, rfl, ?_⟩))))
          by_cases hh : h ∈ c
          · simp only [hh, decide_true]
            obtain ⟨c1, c2, hcc, hcn⟩ := first_at hh
            refine e_cutTo (e_v (by with_unfolding_all rfl) (e_meth (e_v (by with_unfolding_all rfl) ⟨_, _, meth_index hcml, es_cons (e_v j2 (es_nil ⟨callable_builtin _, ?_⟩))⟩)))
            refine ok_index_tup (t := t) (isInt h) c1.length hcml (eq_isInt h u hci) ?_ ?_ fun tj => ?_
            · obtain ⟨y, hy⟩ : ∃ y, cvs[c1.length]? = some y := ⟨cvs[c1.length]'(by rw [hci.length, hcc]; simp), List.getElem?_eq_getElem _⟩
              obtain ⟨z, tz, rfl, hz⟩ := hci.at _ _ hy
              refine ⟨_, hy, ?_⟩
              rw [hcc] at hz
              simp at hz
              subst hz
              show (h == h) = true
              simp
            · intro j hj y hy
              obtain ⟨z, tz, rfl, hz⟩ := hci.at _ _ hy
              rw [hcc, List.getElem?_append_left hj] at hz
              have : z ≠ h := fun e => hcn (e ▸ List.mem_of_getElem? hz)
              show (z == h) = false
              simpa using this
            intro is his
            refine ok_cutTo_tup (b := c1.length) hcml (by rw [hci.length, hcc]; simp) (zl (by omega)) fun dt n3 hn3 hdt => ?_
            have hn23 : Le n2 n3 := by
              rcases hn3 with rfl | ⟨o, _, rfl⟩
              · exact Le.refl _
              · exact Le.cons
            refine ⟨dt, _, rfl, hn23, hdt, ?_⟩
            have := hci.take c1.length
            rw [hcc] at this ⊢
            rw [takeWhile_stop (h := h) fun y hy e => hcn (by rw [← e]; exact hy)]
            simpa using this
          · simp only [hh, decide_false]
            refine e_v (by with_unfolding_all rfl) ⟨ch, cvs, rfl, Le.refl _, hcml, ?_⟩
            rw [takeWhile_all (h := h) fun y hy e => hh (by rw [← e]; exact hy)]
            exact hci
        rintro _ n3 ⟨ia, ivs, rfl, hn3, hia, hii⟩
        have hil2 : ivs.length ≤ 20 := by
          rw [hii.length]
          have := (List.takeWhile_sublist (l := c) (· != h)).length_le
          rw [← hci.length] at this
          omega
        have hle3 : (le, listOf lvs.toArray lep) ∈ n3 := hn3 _ (h2 _ (hn _ hle))
        refine b_cons (s_ite (t_cmp (e_compIf (e_v (by with_unfolding_all rfl) ?_))))
        refine ⟨.tup ia ivs.toArray, rfl, hia, trivial, zl (by show ivs.toArray.size ≤ 1000; simp; omega), CauJ n3 ivs E (c.takeWhile (· != h)), ⟨Nat.zero_le _, Le.refl _, [], .nil, by simp⟩, ?_⟩
        rintro i2 ys n4 ⟨hi2, hn4, ns, hys, hns⟩
        refine ⟨hn4 _ hia, fun hlt y hyi => ?_, fun hie d hd => ?_⟩
        · have hyi : ivs[i2]? = some y := by simpa [Src.item] using hyi
          obtain ⟨lb, tl, rfl, hlb⟩ := hii.at _ _ hyi
          have hlt3 : i2 < ivs.length := (List.getElem?_eq_some_iff.mp hyi).1
          have e2 : (c.takeWhile (· != h)).take (i2 + 1) = (c.takeWhile (· != h)).take i2 ++ [lb] := by rw [List.take_add_one, hlb]; rfl
          refine t_cmp (e_v (by with_unfolding_all rfl) (e_v (show lset 8 _ (lset 7 _ _) 3 = some (.ref le) from j3) (ok_notin_list (isInt lb) (hn4 _ hle3) (eq_isInt lb tl hli) ⟨_, rfl, ?_⟩)))
          rw [any_ints hli]
          by_cases hll : lb ∈ letsE E
          · simp only [hll, decide_true, Bool.not_true]
            refine ⟨hlt3, hn4, ns, hys, ?_⟩
            rw [hns, e2]
            constructor
            · rintro ⟨l, a, b⟩; exact ⟨l, List.mem_append_left _ a, b⟩
            · rintro ⟨l, a, b⟩
              rcases List.mem_append.mp a with a | a
              · exact ⟨l, a, b⟩
              · rw [List.mem_singleton.mp a] at b; exact absurd hll b
          · simp only [hll, decide_false, Bool.not_false]
            refine e_int fun t1 => ⟨hlt3, hn4, ns ++ [1], hys.append (.cons 1 t1 .nil), ?_⟩
            rw [e2]
            exact ⟨fun _ => ⟨lb, by simp, hll⟩, fun _ => by simp⟩
        · have hie : i2 = ivs.length := by simpa [Src.cnt] using hie
          subst hie
          have e2 : (c.takeWhile (· != h)).take ivs.length = c.takeWhile (· != h) := List.take_of_length_le (by rw [hii.length]; exact Nat.le_refl _)
          rw [e2] at hns
          refine e_list (es_nil ⟨zl (by simp), fun d2 hd2 => ?_⟩)
          refine ok_ne_ints (ms := []) (us := []) (by omega) (.tail _ (.head _)) (.head _) hys .nil ⟨_, rfl, ?_⟩
          have hall : Le n' ((d2, listOf ([] : List Value).toArray 0) :: (d, listOf ys.toArray ys.length) :: n4) := ((h2.trans hn3).trans hn4).trans (Le.cons.trans Le.cons)
          by_cases hnn : ns = []
          · simp only [hnn, decide_true, Bool.not_true]
            refine b_nil (b_nil (b_nil (same _ _ hall j1 j2 j3 ?_)))
            rintro ⟨_, _, q⟩
            exact hns.mpr q hnn
          · simp only [hnn, decide_false, Bool.not_false]
            refine b_ret ((e_bool (hQ _ _ ⟨⟨true, rfl, ?_⟩, hn.trans hall⟩)))
            exact ⟨fun _ => ⟨_, hrow, hu, hx, hns.mp hnn⟩, fun _ => rfl⟩
      · have : (x' == x) = false := by simpa using hx
        rw [this]
        refine b_nil (same _ _ h2 j1 j2 j3 ?_)
        rintro ⟨_, q, _⟩; exact hx q
  · have hie : i = vs.length := by simpa using hie
    subst hie
    have e1 : (rowsE E).take vs.length = rowsE E := List.take_of_length_le (by omega)
    rw [e1] at hno
    exact b_ret ((e_bool (hQ _ _ ⟨⟨false, rfl, ⟨nofun, fun q => absurd q hno⟩⟩, hn⟩)))
end
/-! Entry -/
theorem mem_lookup {β : Type} {a : Addr} {b : β} : ∀ {K : List (Addr × β)}, K.lookup a = some b → (a, b) ∈ K
  | (x, y) :: K, h => by
    rw [List.lookup_cons] at h
    by_cases q : a = x
    · subst q; simp at h; subst h; exact .head _
    · have : (a == x) = false := by simpa using q
      rw [this] at h
      exact .tail _ (mem_lookup h)
theorem no_lists (P : Params) : ((KK P).all fun p => !(p.2.cls == .type "list")) = true := by kernel_rfl
/-- the heap with a hole at l -/
noncomputable def holed (h : Heap) (l : Addr) : Heap := h.update l fun o => { o with data := .freed }
theorem holed_ne {h : Heap} {l b : Addr} (hb : b ≠ l) : (holed h l).get? b = h.get? b := Heap.get?_update_ne _ _ _ _ hb
theorem holed_size (h : Heap) (l : Addr) : (holed h l).objs.size = h.objs.size := by
  unfold holed Heap.update
  simp
theorem holed_self {h : Heap} {l : Addr} : (holed h l).get? l = none := by
  show (match (h.objs.modify l _)[l]? with | some ⟨_, _, .freed, _⟩ => none | o => o) = none
  rw [Array.getElem?_modify, if_pos rfl]
  cases h.objs[l]? with
  | none => rfl
  | some o => rfl
theorem ns_holed {h : Heap} {l a : Addr} {ol : Obj} {its : Array Value} {n0 : Nat} {m : Str → Option Value} (hl : h.get? l = some ol) (hd : ol.data = .seq its n0) (x : h.Ns a m) : (holed h l).Ns a m := by
  obtain ⟨o, es, ep, e, d, r⟩ := x
  refine ⟨o, es, ep, (holed_ne fun q => ?_).trans e, d, r⟩
  subst q
  rw [hl] at e; cases e
  rw [hd] at d; cases d
theorem good_holed {w : World} {h : Heap} {l : Addr} {ol : Obj} {its : Array Value} {n0 : Nat} (G : Good w h) (hl : h.get? l = some ol) (hc : ol.cls = .type "list") (hd : ol.data = .seq its n0) : Good w (holed h l) := by
  refine ⟨fun a o e => ?_, ?_, ?_, ?_⟩
  · have e1 := G.k a o e
    refine (holed_ne fun q => ?_).trans e1
    subst q
    rw [hl] at e1; cases e1
    have := List.all_eq_true.mp (no_lists w.params) (a, ol) (mem_lookup e)
    rw [hc] at this
    exact absurd this (by decide)
  · obtain ⟨mc, x, y⟩ := G.lim
    exact ⟨mc, ns_holed hl hd x, y⟩
  · obtain ⟨mg, x⟩ := G.gl
    exact ⟨mg, ns_holed hl hd x⟩
  · obtain ⟨mb, x, y⟩ := G.bl
    exact ⟨mb, ns_holed hl hd x, y⟩
section
variable {w : World} {k : Nat}
theorem entry_fn {f : Addr} {o : Obj} {fd : FuncData} {body : List Stmt} {ns : List Str} {F : Nat} {cb : Sts} {vals : List Value}
    (ho : (KK w.params).lookup f = some o) (hd : o.data = .func fd) (hb : fd.body = .stmts body) (hok : fnOk (KK w.params) fd ns vals.length = true)
    (hbind : bindArgs fd ⟨vals, []⟩ = pure ((ns.take vals.length).zip vals)) (hlen : vals.length ≤ ns.length)
    (hcomp : cB (KK w.params) F fd.scope ns body = some cb)
    {A : Around} {s : Shared} {l : Addr} {ol : Obj} {its : Array Value} {n0 : Nat} {v0 : Value} (G : Good w s.heap) (hl : s.heap.get? l = some ol) (hlc : ol.cls = .type "list") (hld : ol.data = .seq its n0)
    (hA1 : A.handled = none) (hA2 : A.depth + (k + 1) < recursionLimit) (hA3 : A.units + 8 * (k + 1) < cLine)
    (h : wB w k cb (initL vals) [(l, ol)] fun f _ n' => retOf f = v0 ∧ (l, ol) ∈ n') :
    wpAny (model PR w) A (call (.ref f) vals) (fun v s' => v = v0 ∧ (∀ b o, s.heap.get? b = some o → s'.heap.get? b = some o) ∧ s'.gens = s.gens ∧ s'.os = s.os) (fun _ _ => False) s := by
  have lsz := Heap.lt_size hl
  have Gg := good_holed G hl hlc hld
  refine wpAny_call ?_
  simp only [fnOk, Bool.and_eq_true, beq_iff_eq, Bool.not_eq_true', List.isEmpty_iff, decide_eq_true_eq] at hok
  obtain ⟨⟨⟨⟨⟨⟨⟨⟨⟨⟨⟨k1, k2⟩, k3⟩, k4⟩, k5⟩, k6⟩, k7⟩, k8⟩, k9⟩, k10⟩, k11⟩, k12⟩ := hok
  have X := G.k
  have binds_nd : (((ns.take vals.length).zip vals).map (·.1)).Nodup := by
    have : ((ns.take vals.length).zip vals).map (·.1) = ns.take vals.length := by
      rw [List.map_fst_zip]
      simp [hlen]
    rw [this]
    exact (List.take_sublist _ _).nodup k8
  have kinds : ∀ x ∈ (ns.take vals.length).zip vals, fd.scope.names.lookup x.1 = some .local ∨ fd.scope.names.lookup x.1 = some .cell := fun x hx => by
    obtain ⟨x, v⟩ := x
    have := List.all_eq_true.mp k11 x (List.of_mem_zip hx).1
    simpa using this
  refine codeAny_call_cells (by omega) (X _ _ ho) hd G.lim (codeRec_of X k7) hb hbind k4 (fun x hx => ?_) (fun s₁ Y => ?_) k2 k3 k1
  · refine (kinds x hx).imp id fun q => ⟨q, ?_⟩
    obtain ⟨c, e⟩ := cellsFrom_has fd.scope.names (s.heap.objs.size + 1) [] x.1 (.inl (mem_of_lookup_k q))
    rw [e]; rfl
  · obtain ⟨h₁, tk, rfl, hk⟩ := Y.done
    have hcs : ∀ (x : Str) (c : Addr), (callEnvC fd s.heap.objs.size f).cells.lookup x = some c → (x, c) ∈ (callEnvC fd s.heap.objs.size f).cells := fun x c e => mem_of_lookup e
    have hnd : ((callEnvC fd s.heap.objs.size f).cells.map (·.1)).Nodup := by
      show ((cellsFrom (s.heap.objs.size + 1) fd.scope.names []).map (·.1)).Nodup
      rw [cellsFrom_names fd.scope.names (s.heap.objs.size + 1) 0 [] [] rfl]; exact k10
    obtain ⟨cells, N, Z⟩ := Cl.news (h₀ := s.heap) (h := h₁) (L := (callEnvC fd s.heap.objs.size f).locals) (Nat.le_refl _) (cs := (callEnvC fd s.heap.objs.size f).cells)
      (cm := bindC (callEnvC fd s.heap.objs.size f).kindOf ((ns.take vals.length).zip vals) fun _ => none) fun x c hm => ⟨Y.cell x c (lookup_of_mem_nodup hnd hm), Y.above x c hm⟩
    obtain ⟨z1, z2⟩ := cells_led (h₀ := s.heap) (h := h₁) (L := 0) Z
    have E : EnvOk (callEnvC fd s.heap.objs.size f) fd.scope := ⟨k1, k5, k6, fun _ h => h, fun _ h => h, fun _ h => h, fun _ h => h, fun y hy => cellsFrom_has _ _ _ _ (.inl (mem_of_lookup_k hy))⟩
    have ap : Ap (callEnvC fd s.heap.objs.size f) := fun x y c h1 h2 => name_of_addr Y.apart (hcs x c h1) (hcs y c h2)
    have above : ∀ p ∈ cells, s.heap.objs.size < p.1 := fun p hp => by
      have : p.1 ∈ (callEnvC fd s.heap.objs.size f).cells.map (·.2) := z1 ▸ List.mem_map.mpr ⟨p, hp, rfl⟩
      obtain ⟨q, hq, e⟩ := List.mem_map.mp this
      have := Y.above q.1 q.2 hq
      rw [e] at this
      exact this
    have nd1 : (keys cells).Nodup := by
      rw [z1]
      have := Y.apart
      rw [List.Nodup, List.pairwise_map]
      exact this
    have gnone : ∀ a, s.heap.objs.size ≤ a → (holed s.heap l).get? a = none := fun a ha => Heap.get?_none_of_le (by rw [holed_size]; exact ha)
    have hfr := Y.toInCall.fresh
    have C2 : Cx w (k + 1) A (holed s.heap l) (callEnvC fd s.heap.objs.size f).locals (bindL (callEnvC fd s.heap.objs.size f).kindOf ((ns.take vals.length).zip vals) fun _ => none) ([] ++ (cells ++ [(l, ol)])) h₁ := by
      refine ⟨hA1, hA2, hA3, Gg, ⟨Y.toInCall.ns, fun b o e => ?_, by rw [holed_size]; exact hfr⟩, fun p hp => ?_, ?_⟩
      · by_cases q : b = l
        · subst q; rw [holed_self] at e; cases e
        · rw [holed_ne q] at e; exact hk _ _ e
      · rcases List.mem_append.mp hp with hp | hp
        · cases hp
        · rcases List.mem_append.mp hp with hp | hp
          · exact ⟨(N p hp).1, (N p hp).2.1, gnone _ (Nat.le_of_lt (above p hp))⟩
          · rw [List.mem_singleton.mp hp]
            exact ⟨hk _ _ hl, Nat.ne_of_lt (Nat.lt_of_lt_of_le lsz hfr), holed_self⟩
      · rw [List.nil_append, keys_append, List.nodup_append]
        refine ⟨nd1, by simp [keys], fun a ha b hb e => ?_⟩
        obtain ⟨p, hp, e1⟩ := List.mem_map.mp ha
        have h1 := above p hp
        have h2 : b = l := by simpa [keys] using hb
        rw [e1, e, h2] at h1
        exact Nat.lt_asymm h1 lsz
    have S0 : Sit (callEnvC fd s.heap.objs.size f) ns (initL vals) (bindL (callEnvC fd s.heap.objs.size f).kindOf ((ns.take vals.length).zip vals) fun _ => none) cells := fun i x v hx hv => by
      have hm : (x, v) ∈ (ns.take vals.length).zip vals := by
        have hi : i < vals.length := (List.getElem?_eq_some_iff.mp hv).1
        refine List.mem_of_getElem? (i := i) ?_
        rw [List.getElem?_zip_eq_some]
        exact ⟨by rw [List.getElem?_take, if_pos hi]; exact hx, hv⟩
      refine ⟨fun hl => bindL_get _ _ _ _ _ hl binds_nd (.inl hm), fun hc => ?_⟩
      have hc' : (callEnvC fd s.heap.objs.size f).kindOf x = some .cell := by
        rcases hc with hc | hc
        · exact hc
        · have := List.all_eq_true.mp k12 _ (mem_of_lookup_k hc)
          simp at this
      obtain ⟨c, e⟩ := E.hasCell x hc'
      obtain ⟨o, a, b⟩ := z2 x c (hcs x c e)
      refine ⟨c, o, e, a, b.trans ?_⟩
      rw [bindC_get _ _ _ x v (by rw [hc']; decide) binds_nd (.inl hm)]
    have I0 : CellsIn (callEnvC fd s.heap.objs.size f) cells := fun x hx => by
      obtain ⟨c, e⟩ := E.hasCell x hx
      obtain ⟨o, a, b⟩ := z2 x c (hcs x c e)
      exact ⟨c, o, _, e, a, b⟩
    have C3 : Cx w k (A.deeper (callEnvC fd s.heap.objs.size f)) (holed s.heap l) (callEnvC fd s.heap.objs.size f).locals (bindL (callEnvC fd s.heap.objs.size f).kindOf ((ns.take vals.length).zip vals) fun _ => none) ([] ++ (cells ++ [(l, ol)])) h₁ :=
      C2.inA C2.hd (by show A.depth + 1 + k < _; omega) (by show A.units + 3 + 8 * k < _; omega)
    refine SV.go (((sSB F fd.scope ns _ E ap k8).2 body cb hcomp).go _ _ _ h) (s := { s with heap := h₁, toks := tk }) C3 S0 I0 fun fl l1 m1 cs1 n1 h1 tk1 C4 _ _ q => ?_
    have fin : ∀ b o, s.heap.get? b = some o → h1.get? b = some o := fun b o e => by
      by_cases q2 : b = l
      · subst q2
        rw [hl] at e; cases e
        exact (C4.nw _ (List.mem_append_right _ (List.mem_append_right _ q.2))).1
      · exact C4.fr.keep b o (by rw [holed_ne q2]; exact e)
    have q1 := q.1
    cases fl <;> exact ⟨q1, fin, rfl, rfl⟩
end
theorem law_entry {w : World} {k : Nat} {A : Around} {s : Shared} {l : Addr} {ol : Obj} {its : Array Value} {n0 : Nat} (G : Good w s.heap) (hl : s.heap.get? l = some ol) (hlc : ol.cls = .type "list") (hld : ol.data = .seq its n0)
    (hA1 : A.handled = none) (hA2 : A.depth + (k + 1) < recursionLimit) (hA3 : A.units + 8 * (k + 1) < cLine) (h : wB w k ir_law (initL [.ref l]) [(l, ol)] fun f _ n' => retOf f = .bool true ∧ (l, ol) ∈ n') :
    wpAny (model PR w) A (call (.ref 582) [.ref l]) (fun v s' => v = .bool true ∧ (∀ b o, s.heap.get? b = some o → s'.heap.get? b = some o) ∧ s'.gens = s.gens ∧ s'.os = s.os) (fun _ _ => False) s := by
  obtain ⟨fd, h1, h2, h3, h4, h5⟩ := fo_law w.params
  exact entry_fn (k_law w.params) h1 h2 h4 (h5 _) (Nat.le_of_ble_eq_true rfl) (h3 ▸ c_law w.params) G hl hlc hld hA1 hA2 hA3 h
/-! Law6 -/
theorem sorted_eq : ∀ {a b : List Int}, a.Nodup → b.Nodup → a.Pairwise (· ≤ ·) → b.Pairwise (· ≤ ·) → (∀ x, x ∈ a ↔ x ∈ b) → a = b
  | [], [], _, _, _, _, _ => rfl
  | [], y :: b, _, _, _, _, h => absurd ((h y).mpr (.head _)) nofun
  | x :: a, [], _, _, _, _, h => absurd ((h x).mp (.head _)) nofun
  | x :: a, y :: b, na, nb, pa, pb, h => by
    obtain ⟨na1, na2⟩ := List.nodup_cons.mp na
    obtain ⟨nb1, nb2⟩ := List.nodup_cons.mp nb
    obtain ⟨pa1, pa2⟩ := List.pairwise_cons.mp pa
    obtain ⟨pb1, pb2⟩ := List.pairwise_cons.mp pb
    have hxy : x = y := by
      rcases List.mem_cons.mp ((h x).mp (.head _)) with e | h1
      · exact e
      · rcases List.mem_cons.mp ((h y).mpr (.head _)) with e | h2
        · exact e.symm
        · exact Int.le_antisymm (pa1 y h2) (pb1 x h1)
    subst hxy
    rw [sorted_eq na2 nb2 pa2 pb2 fun z => ?_]
    constructor
    · intro hz
      rcases List.mem_cons.mp ((h z).mp (.tail _ hz)) with e | q
      · exact absurd (e ▸ hz) na1
      · exact q
    · intro hz
      rcases List.mem_cons.mp ((h z).mpr (.tail _ hz)) with e | q
      · exact absurd (e ▸ hz) nb1
      · exact q
theorem tw_split {α : Type} {p : α → Bool} : ∀ {L : List α}, (∃ m ∈ L, p m = false) → ∃ m D, L = L.takeWhile p ++ m :: D ∧ p m = false
  | [], ⟨_, h, _⟩ => nomatch h
  | x :: L, ⟨m, h, q⟩ => by
    rw [List.takeWhile_cons]
    by_cases hx : p x = true
    · rw [if_pos hx]
      have : ∃ m ∈ L, p m = false := by
        rcases List.mem_cons.mp h with rfl | h
        · rw [hx] at q; cases q
        · exact ⟨m, h, q⟩
      obtain ⟨m', D, e, q'⟩ := tw_split this
      exact ⟨m', D, by rw [List.cons_append, ← e], q'⟩
    · rw [if_neg hx]
      exact ⟨x, L, rfl, by simpa using hx⟩
theorem sn_all {N L : Int → Prop} {E : List Ev} (S : Sub [] [] N L E) {l : Int} (hl : ∃ m ∈ E, m.lamOf = some l) {e : Ev} (he : e ∈ E) (hc : l ∈ e.c) : e ∈ sn l E := by
  obtain ⟨m, hm, q⟩ := hl
  obtain ⟨m', D, h1, h2⟩ := tw_split (p := fun e : Ev => decide (e.lamOf ≠ some l)) (L := E.reverse) ⟨m, by simpa using hm, by simpa using q⟩
  have h2' : m'.lamOf = some l := by simpa using h2
  have hE : E = D.reverse ++ m' :: (sn l E).reverse := by
    have e1 : E = (sn l E ++ m' :: D).reverse := by
      have : sn l E ++ m' :: D = E.reverse := h1.symm
      rw [this, List.reverse_reverse]
    exact e1.trans (by rw [List.reverse_append, List.reverse_cons, List.append_assoc]; rfl)
  have := S.p3 _ _ _ hE l h2' e he hc
  simpa using this
theorem inn_iff {N L : Int → Prop} {E : List Ev} (S : Sub [] [] N L E) {l : Int} (hl : ∃ m ∈ E, m.lamOf = some l) (x : Int) : (PFof E E).inn l x ↔ ∃ e ∈ E, Esc E e x l := by
  constructor
  · rintro ⟨e, he, h⟩
    refine ⟨e, ?_, h⟩
    have := (List.takeWhile_sublist _).subset he
    simpa using this
  · rintro ⟨e, he, h⟩
    obtain ⟨_, h', _, q⟩ := id h
    exact ⟨e, sn_all S hl he ((List.takeWhile_sublist _).subset q), h⟩
theorem lam_row (e : Ev) (l : Int) : e.row = some (.lambda, l) ↔ e.lamOf = some l := by
  obtain ⟨c, kd, op, m⟩ := e
  cases kd <;> simp [Ev.row, Ev.lamOf]
  cases op <;> simp

section
variable {w : World} {k : Nat} {n : Led} {fa fo ho le : Addr} {E : List Ev} {N L : Int → Prop} {l : Lc} {Q : Flow → Lc → Led → Prop}
theorem caught_get (S : Sub [] [] N L E) (Z : Fz w n fa fo ho le E) {x h : Int} (hb : (x, h) ∈ bindsE E) {e1 e2 : Ex} {tx : Tok} {Q : Value → Led → Prop} (h1 : ∀ Q : Value → Led → Prop, Q (.ref fa) n → wE w k e1 l n Q) (h2 : ∀ Q : Value → Led → Prop, Q (.int x tx) n → wE w k e2 l n Q)
    (hq : ∀ b, (b = true ↔ ∃ e ∈ E, e.useOf = some x ∧ ∃ l ∈ e.c.takeWhile (· != h), l ∉ letsE E) → Q (.bool b) n) : wE w k (.meth (.attr e1 s_caught_) s_get_ (.cons e2 (.cons (.bool false) .nil))) l n Q := by
  obtain ⟨ad, F, r, dom⟩ := Z.fx
  refine e_meth (e_attr (h1 _ (ok_fact F (Le.refl _) .caught rfl fun a ha => ?_)))
  obtain ⟨kvs, D, hr⟩ := r _ a ha
  refine ⟨_, _, meth_get D, es_cons (h2 _ (es_cons (e_bool (es_nil ⟨callable_builtin _, ok_dictget D ?_⟩))))⟩
  have conv : (PFof E E).caught x ↔ ∃ e ∈ E, e.useOf = some x ∧ ∃ l ∈ e.c.takeWhile (· != h), l ∉ letsE E := by
    constructor
    · rintro ⟨e, he, l, q1, q2⟩
      have := q1.1
      exact ⟨e, he, this, l, ((Esc_iff S this hb x l).mp q1).2, q2⟩
    · rintro ⟨e, he, q1, l, q2, q3⟩
      exact ⟨e, he, l, (Esc_iff S q1 hb x l).mpr ⟨rfl, q2⟩, q3⟩
  have : setR (PFof E E).caught x (valueAt kvs x) := hr x
  rcases this with ⟨a, b⟩ | ⟨a, b⟩
  · rw [a]; exact hq false ⟨nofun, fun q => absurd (conv.mpr q) b⟩
  · rw [a]; exact hq true ⟨fun _ => conv.mp b, fun _ => rfl⟩

/-- the check of one number -/
theorem number_ok (S : Sub [] [] N L E) (Z : Fz w n fa fo ho le E) (hz : E.length ≤ 1000) (hcl : ∀ e ∈ E, e.c.length ≤ 20) {x : Int} {t : Tok} (hx : ∃ h, (x, h) ∈ bindsE E) (l5 : l 5 = some (.ref fo)) (l6 : l 6 = some (.ref ho)) (l7 : l 7 = some (.ref le)) (l8 : l 8 = some (.ref fa)) (l10 : l 10 = some (.int x t))
    (hq : ∀ l' n', Le n n' → l' 4 = l 4 → l' 5 = l 5 → l' 6 = l 6 → l' 7 = l 7 → l' 8 = l 8 → Q .next l' n') :
    wB w (k + 20) (.cons (.asgR [11, 12] (.tuple (.cons (.call (.g (.ref 563)) (.cons (.v 5) (.cons (.str ⟨#[114, 101, 97, 100]⟩) (.cons (.v 10) .nil)))) (.cons (.idx (.v 6) (.v 10)) .nil))))
    (.cons (.asg 13 (.list (.cons (.meth (.v 8) q_times_read (.cons (.v 10) .nil)) (.cons (.meth (.attr (.v 8) ⟨#[115, 101, 116]⟩) ⟨#[103, 101, 116]⟩ (.cons (.v 10) (.cons (.int (0)) .nil))) (.cons (.meth (.v 8) q_times_called (.cons (.v 10) .nil)) (.cons (.idx (.attr (.v 8) ⟨#[98, 111, 117, 110, 100]⟩) (.v 10)) .nil))))))
    (.cons (.ite (.cmp .NotEq (.v 13) (.list (.cons (.v 11) (.cons (.call (.g (.ref 563)) (.cons (.v 5) (.cons (.str ⟨#[115, 101, 116]⟩) (.cons (.v 10) .nil)))) (.cons (.call (.g (.ref 563)) (.cons (.v 5) (.cons (.str ⟨#[99, 97, 108, 108, 101, 100]⟩) (.cons (.v 10) .nil)))) (.cons (.v 12) .nil)))))) (.cons (.ret (.bool false))
    .nil) .nil)
    (.cons (.ite (.or (.cmp .NotEq (.meth (.v 8) q_is_set (.cons (.v 10) .nil)) (.cmp .Gt (.idx (.v 13) (.int (1))) (.int (0)))) (.cmp .NotEq (.meth (.attr (.v 8) ⟨#[99, 97, 117, 103, 104, 116]⟩) ⟨#[103, 101, 116]⟩ (.cons (.v 10) (.cons (.bool false) .nil))) (.call (.g (.ref 575)) (.cons (.v 5) (.cons (.v 10) (.cons (.v 12) (.cons (.v 7) .nil))))))) (.cons (.ret (.bool false))
    .nil) .nil)
    .nil)))) l n Q := by
  obtain ⟨h, hb⟩ := hx
  have hu : ∀ j, (x, j) ∈ bindsE E → j = h := fun j hj => S.p2 _ hj _ hb rfl
  -- what the law counted
  refine b_cons (s_asgR (e_tuple (es_cons (e_call (e_g (es_cons (e_v l5 (es_cons (e_str fun ts => es_cons (e_v l10 (es_nil ⟨kp_law_count, (count_law (k := k + 11) (tg := .read) Z hz).mono ?_⟩)))))))))))
  rintro _ n1 ⟨⟨t1, rfl⟩, hn1⟩
  obtain ⟨kvs, D, hm⟩ := Z.hom
  obtain ⟨th, eh⟩ := mapR_at hm hb hu
  refine es_cons (e_idx (e_v l6 (e_v l10 (ok_get_dict (D.mono hn1) eh (es_nil ⟨zl (by simp), fun ta hta => ⟨ta, _, rfl, .head _, rfl, ?_⟩⟩)))))
  have Z1 := Z.mono (hn1.trans (Le.cons (p := (ta, tupOf [Value.int (cntE E .read x : Nat) t1, .int h th].toArray))))
  have hn1 := hn1.trans (Le.cons (p := (ta, tupOf [Value.int (cntE E .read x : Nat) t1, .int h th].toArray)))
  clear hta
  obtain ⟨ad, FI1, _⟩ := id Z1.fx
  -- what the facts tell
  refine b_cons (s_asg (e_list (es_cons (e_meth (e_v (show _ = some (Value.ref fa) from l8) ⟨_, _, fun pl => ok_factM FI1 (Le.refl _) (tr_mOk _) (fun D => rfl), es_cons (e_v (show _ = some (Value.int x t) from l10) (es_nil ⟨kp_Facts_times_read, (times_read_ok (k := k + 19) Z1).mono ?_⟩))⟩)))))
  rintro _ _ ⟨⟨t2, rfl⟩, rfl⟩
  refine es_cons (fact_get (s := .set) (f := cntE E .set) Z1 rfl (fun _ => rfl) (fun Q h => e_v (show _ = some (Value.ref fa) from l8) h) (fun Q h => e_v (show _ = some (Value.int x t) from l10) h) fun t3 => ?_)
  refine es_cons (e_meth (e_v (show _ = some (Value.ref fa) from l8) ⟨_, _, fun pl => ok_factM FI1 (Le.refl _) (tc_mOk _) (fun D => rfl), es_cons (e_v (show _ = some (Value.int x t) from l10) (es_nil ⟨kp_Facts_times_called, (times_called_ok (k := k + 19) Z1).mono ?_⟩))⟩))
  rintro _ _ ⟨⟨t4, rfl⟩, rfl⟩
  refine es_cons (fact_at (s := .bound) Z1 rfl (fun _ => rfl) hb hu (fun Q h => e_v (show _ = some (Value.ref fa) from l8) h) (fun Q h => e_v (show _ = some (Value.int x t) from l10) h) fun t5 => es_nil ⟨zl (by simp), fun tl htl => ?_⟩)
  generalize hvl : [Value.int (cntE E .read x : Nat) t2, .int (cntE E .set x : Nat) t3, .int (cntE E .called x : Nat) t4, .int h t5] = tvs
  have hti : IntsAre tvs [((cntE E .read x : Nat) : Int), ((cntE E .set x : Nat) : Int), ((cntE E .called x : Nat) : Int), h] := by
    subst hvl
    exact .cons _ _ (.cons _ _ (.cons _ _ (.cons _ _ .nil)))
  have Z2 := Z1.mono (Le.cons (p := (tl, listOf tvs.toArray 0)))
  have hn2 := hn1.trans (Le.cons (p := (tl, listOf tvs.toArray 0)))
  clear Z1 FI1
  -- they agree
  refine b_cons (s_ite (t_cmp (e_v (by with_unfolding_all rfl) (e_list (es_cons (e_v (by with_unfolding_all rfl) (es_cons (e_call (e_g (es_cons (e_v (show _ = some (Value.ref fo) from l5) (es_cons (e_str fun ts => es_cons (e_v (show _ = some (Value.int x t) from l10) (es_nil ⟨kp_law_count, (count_law (k := k + 11) (tg := .set) Z2 hz).mono ?_⟩)))))))))))))))
  rintro _ n3 ⟨⟨t6, rfl⟩, hn3⟩
  have Z3 := Z2.mono hn3
  refine es_cons (e_call (e_g (es_cons (e_v (show _ = some (Value.ref fo) from l5) (es_cons (e_str fun ts => es_cons (e_v (show _ = some (Value.int x t) from l10) (es_nil ⟨kp_law_count, (count_law (k := k + 11) (tg := .called) Z3 hz).mono ?_⟩))))))))
  rintro _ n4 ⟨⟨t7, rfl⟩, hn4⟩
  refine es_cons (e_v (by with_unfolding_all rfl) (es_nil ⟨zl (by simp), fun ra hra => ?_⟩))
  have hn34 := hn3.trans hn4
  refine ok_ne_ints (by omega) (.tail _ (hn34 _ (.head _))) (.head _) hti (.cons _ t1 (.cons _ t6 (.cons _ t7 (.cons _ th .nil)))) ⟨_, rfl, ?_⟩
  simp only [decide_true, Bool.not_true]
  refine b_nil ?_
  have Z5 := (Z3.mono hn4).mono (Le.cons (p := (ra, listOf [Value.int (cntE E .read x : Nat) t1, .int (cntE E .set x : Nat) t6, .int (cntE E .called x : Nat) t7, .int h th].toArray 0)))
  have hn5 : Le n ((ra, listOf [Value.int (cntE E .read x : Nat) t1, .int (cntE E .set x : Nat) t6, .int (cntE E .called x : Nat) t7, .int h th].toArray 0) :: n4) := (hn2.trans hn34).trans Le.cons
  have hm5 : (tl, listOf tvs.toArray 0) ∈ (ra, listOf [Value.int (cntE E .read x : Nat) t1, .int (cntE E .set x : Nat) t6, .int (cntE E .called x : Nat) t7, .int h th].toArray 0) :: n4 := .tail _ (hn34 _ (.head _))
  generalize ((ra, listOf [Value.int (cntE E .read x : Nat) t1, .int (cntE E .set x : Nat) t6, .int (cntE E .called x : Nat) t7, .int h th].toArray 0) :: n4) = n5 at Z5 hn5 hm5 ⊢
  clear hn34 hn3 hn4 Z2 Z3 hn2
  obtain ⟨ad, FI5, _⟩ := id Z5.fx
  refine b_cons (s_ite (t_or (t_cmp (e_meth (e_v (show _ = some (Value.ref fa) from l8) ⟨_, _, fun pl => ok_factM FI5 (Le.refl _) (is_mOk _) (fun D => rfl), es_cons (e_v (show _ = some (Value.int x t) from l10) (es_nil ⟨kp_Facts_is_set, (is_set_ok (k := k + 19) Z5).mono ?_⟩))⟩)))))
  rintro _ _ ⟨rfl, rfl⟩
  refine e_cmp (e_idx (e_v (by with_unfolding_all rfl) (e_int fun _ => ok_idx_list (x := .int (cntE E .set x : Nat) t3) hm5 (by decide) (by decide) (by rw [← hvl]; rfl) (e_int fun _ => ok_gt_int ?_))))
  refine ok_ne_bool ⟨_, rfl, ?_⟩
  simp only [bne_self_eq_false]
  refine t_cmp (caught_get S Z5 hb (fun Q h => e_v (show _ = some (Value.ref fa) from l8) h) (fun Q h => e_v (show _ = some (Value.int x t) from l10) h) fun b1 hb1 => ?_)
  refine e_call (e_g (es_cons (e_v (show _ = some (Value.ref fo) from l5) (es_cons (e_v (show _ = some (Value.int x t) from l10) (es_cons (e_v (by with_unfolding_all rfl) (es_cons (e_v (show _ = some (Value.ref le) from l7) (es_nil ⟨kp_law_is_caught, (caught_ok (k := k + 11) Z5 hz hcl).mono ?_⟩))))))))))
  rintro _ n6 ⟨⟨b2, rfl, hb2⟩, hn6⟩
  have : b1 = b2 := by
    cases b1 <;> cases b2 <;> first | rfl | exact absurd (hb2.mpr (hb1.mp rfl)) nofun | exact absurd (hb1.mpr (hb2.mp rfl)) nofun
  subst this
  refine ok_ne_bool ⟨_, rfl, ?_⟩
  simp only [bne_self_eq_false]
  exact b_nil (b_nil (hq _ _ (hn5.trans hn6) rfl rfl rfl rfl rfl))
end
/-! Law7 -/
section
variable {w : World} {k : Nat} {n : Led} {fa fo ho le : Addr} {E : List Ev} {N L : Int → Prop} {l : Lc} {Q : Flow → Lc → Led → Prop}
theorem row_ok {b : Nat} (S : Sub [] [] N L E) (hb : b < 64) (hN : ∀ x, N x → 0 < x ∧ x ≤ b) (Z : Fz w n fa fo ho le E) (hz : E.length ≤ 1000) (hcl : ∀ e ∈ E, e.c.length ≤ 20) {tg : Tag} {x : Int} {c : List Int} {t14 t15 : Tok} {ch : Addr} (hr : (tg, x, c) ∈ rowsE E) (hc : TupInts n ch c)
    (l5 : l 5 = some (.ref fo)) (l6 : l 6 = some (.ref ho)) (l8 : l 8 = some (.ref fa)) (l14 : l 14 = some (.str (tagStr tg) t14)) (l15 : l 15 = some (.int x t15)) (l16 : l 16 = some (.ref ch))
    (hq : ∀ n', Le n n' → Q .next l n') :
    wB w (k + 20) (.cons (.ite (.and (.cmp .Eq (.v 14) (.str ⟨#[108, 97, 109, 98, 100, 97]⟩)) (.cmp .NotEq (.meth (.v 8) q_free (.cons (.v 15) .nil)) (.call (.g (.ref 570)) (.cons (.v 5) (.cons (.v 15) (.cons (.v 6) .nil)))))) (.cons (.ret (.bool false))
    .nil) .nil)
    (.cons (.ite (.and (.cmp .Eq (.v 14) (.str ⟨#[108, 97, 109, 98, 100, 97]⟩)) (.cmp .NotEq (.idx (.attr (.v 8) ⟨#[112, 97, 114, 101, 110, 116]⟩) (.v 15)) (.ite (.cmp .NotEq (.v 16) (.tuple .nil)) (.idx (.v 16) (.int (0))) (.neg (.int (1)))))) (.cons (.ret (.bool false))
    .nil) .nil)
    .nil)) l n Q := by
  have heq : (tagStr tg == (⟨#[108, 97, 109, 98, 100, 97]⟩ : Str)) = decide (tg = .lambda) := tagStr_eq tg .lambda
  refine b_cons (s_ite (t_and (t_cmp (e_v l14 (e_str fun _ => ok_eq_str ⟨_, rfl, ?_⟩)))))
  rw [heq]
  by_cases ht : tg = .lambda
  · subst ht
    obtain ⟨e0, he0, he1, he2⟩ := mem_rowsE.mp hr
    have hl0 : e0.lamOf = some x := (lam_row e0 x).mp he1
    have hl : ∃ e ∈ E, e.lamOf = some x := ⟨e0, he0, hl0⟩
    have hin : ∀ y, (PFof E E).inn x y → 0 < y ∧ y ≤ b := fun y hy => by
      obtain ⟨e, _, _, h, q, _⟩ := hy
      exact hN y (S.num (y, h) q)
    obtain ⟨ad, FI1, _⟩ := id Z.fx
    simp only [decide_true]
    refine t_cmp (e_meth (e_v l8 ⟨_, _, fun pl => ok_factM FI1 (Le.refl _) (free_mOk _) (fun D => rfl), es_cons (e_v l15 (es_nil ⟨kp_Facts_free, (free_ok (k := k + 19) Z hb hl hin).mono ?_⟩))⟩))
    rintro _ n1 ⟨d1, vs1, ns1, ep1, rfl, hd1, hi1, hnd1, hp1, hm1, hn1⟩
    have Z1 := Z.mono hn1
    refine e_call (e_g (es_cons (e_v l5 (es_cons (e_v l15 (es_cons (e_v l6 (es_nil ⟨kp_law_taken, (taken_ok (k := k + 11) S hb hN Z1 hz hcl).mono ?_⟩))))))))
    rintro _ n2 ⟨d2, vs2, ns2, ep2, rfl, hd2, hi2, hnd2, hp2, hm2, hn2⟩
    have hs : ns1 = ns2 := sorted_eq hnd1 hnd2 hp1 hp2 fun y => by rw [hm1, hm2, inn_iff S hl]
    subst hs
    refine ok_ne_ints (by omega) (hn2 _ hd1) hd2 hi1 hi2 ⟨_, rfl, ?_⟩
    simp only [decide_true, Bool.not_true]
    have Z2 := Z1.mono hn2
    have hn02 := hn1.trans hn2
    -- the lambda around
    refine b_nil (b_cons (s_ite (t_and (t_cmp (e_v l14 (e_str fun _ => ok_eq_str ⟨_, rfl, ?_⟩))))))
    rw [heq]
    simp only [decide_true]
    have hp : (x, hd c) ∈ parE E := mem_parE.mpr ⟨e0, he0, hl0, by rw [he2]⟩
    have hpu : ∀ j, (x, j) ∈ parE E → j = hd c := fun j hj => by
      obtain ⟨e, q1, q2, q3⟩ := mem_parE.mp hj
      have q3 : hd e.c = j := q3
      have he2 : e0.c = c := he2
      rw [← q3, S.p1 e q1 e0 he0 x q2 hl0, he2]
    refine t_cmp (fact_at (s := .parent) Z2 rfl (fun _ => rfl) hp hpu (fun Q h => e_v l8 h) (fun Q h => e_v l15 h) fun tp => ?_)
    obtain ⟨cvs, hcv, hci⟩ := hc
    refine e_join (fun v n' => ∃ t, v = .int (hd c) t ∧ Le n2 n') ?_ ?_
    · refine e_ite (t_cmp (e_v l16 (e_tuple (es_nil ⟨zl (by simp), fun ta hta => ?_⟩))))
      refine ok_ne_tups (vs := cvs) (us := []) (ms := []) (by omega) (.tail _ (hn02 _ hcv)) (.head _) hci .nil ⟨_, rfl, ?_⟩
      cases hci with
      | nil =>
        simp only [decide_true, Bool.not_true]
        exact e_neg (e_int fun _ => neg_one fun t => ⟨t, rfl, Le.cons⟩)
      | cons y ty hci =>
        simp only [List.cons_ne_nil, decide_false, Bool.not_false]
        exact e_idx (e_v l16 (e_int fun _ => ok_idx_tup (.tail _ (hn02 _ hcv)) (by decide) (by decide) rfl ⟨ty, rfl, Le.cons⟩))
    rintro _ n3 ⟨t3, rfl, hn3⟩
    refine ok_ne_int ⟨_, rfl, ?_⟩
    simp only [bne_self_eq_false]
    exact b_nil (b_nil (hq _ (hn02.trans hn3)))
  · simp only [ht, decide_false]
    refine b_nil (b_cons (s_ite (t_and (t_cmp (e_v l14 (e_str fun _ => ok_eq_str ⟨_, rfl, ?_⟩))))))
    rw [heq]
    simp only [ht, decide_false]
    exact b_nil (b_nil (hq _ (Le.refl _)))

theorem symbol_ok (Z : Fz w n fa fo ho le E) (hz : E.length ≤ 1000) {x : Int} {t : Tok} (l5 : l 5 = some (.ref fo)) (l8 : l 8 = some (.ref fa)) (l17 : l 17 = some (.int x t)) (hq : ∀ l' n', Le n n' → l' 5 = l 5 → l' 6 = l 6 → l' 8 = l 8 → Q .next l' n') :
    wB w (k + 20) (.cons (.asg 18 (.call (.g (.ref 563)) (.cons (.v 5) (.cons (.str ⟨#[115, 101, 116, 32, 103, 108, 111, 98, 97, 108]⟩) (.cons (.v 17) .nil)))))
    (.cons (.ite (.or (.cmp .NotEq (.meth (.attr (.v 8) ⟨#[114, 101, 97, 100, 95, 103, 108, 111, 98, 97, 108, 115]⟩) ⟨#[103, 101, 116]⟩ (.cons (.v 17) (.cons (.int (0)) .nil))) (.call (.g (.ref 563)) (.cons (.v 5) (.cons (.str ⟨#[103, 108, 111, 98, 97, 108]⟩) (.cons (.v 17) .nil))))) (.cmp .NotEq (.meth (.attr (.v 8) ⟨#[115, 101, 116, 95, 103, 108, 111, 98, 97, 108, 115]⟩) ⟨#[103, 101, 116]⟩ (.cons (.v 17) (.cons (.int (0)) .nil))) (.v 18))) (.cons (.ret (.bool false))
    .nil) .nil)
    (.cons (.ite (.cmp .NotEq (.meth (.v 8) q_is_set_global (.cons (.v 17) .nil)) (.cmp .Gt (.v 18) (.int (0)))) (.cons (.ret (.bool false))
    .nil) .nil)
    .nil))) l n Q := by
  refine b_cons (s_asg (e_call (e_g (es_cons (e_v l5 (es_cons (e_str fun _ => es_cons (e_v l17 (es_nil ⟨kp_law_count, (count_law (k := k + 11) (tg := .setGlob) Z hz).mono ?_⟩)))))))))
  rintro _ n1 ⟨⟨t1, rfl⟩, hn1⟩
  have Z1 := Z.mono hn1
  refine b_cons (s_ite (t_or (t_cmp (fact_get (s := .rg) (f := cntE E .glob) Z1 rfl (fun _ => rfl) (fun Q h => e_v (show _ = some (Value.ref fa) from l8) h) (fun Q h => e_v (show _ = some (Value.int x t) from l17) h) fun t2 => ?_))))
  refine e_call (e_g (es_cons (e_v (show _ = some (Value.ref fo) from l5) (es_cons (e_str fun _ => es_cons (e_v (show _ = some (Value.int x t) from l17) (es_nil ⟨kp_law_count, (count_law (k := k + 11) (tg := .glob) Z1 hz).mono ?_⟩)))))))
  rintro _ n2 ⟨⟨t3, rfl⟩, hn2⟩
  have Z2 := Z1.mono hn2
  refine ok_ne_int ⟨_, rfl, ?_⟩
  simp only [bne_self_eq_false]
  refine t_cmp (fact_get (s := .sg) (f := cntE E .setGlob) Z2 rfl (fun _ => rfl) (fun Q h => e_v (show _ = some (Value.ref fa) from l8) h) (fun Q h => e_v (show _ = some (Value.int x t) from l17) h) fun t4 => ?_)
  refine e_v (by with_unfolding_all rfl) (ok_ne_int ⟨_, rfl, ?_⟩)
  simp only [bne_self_eq_false]
  obtain ⟨ad, FI1, _⟩ := id Z2.fx
  refine b_nil (b_cons (s_ite (t_cmp (e_meth (e_v (show _ = some (Value.ref fa) from l8) ⟨_, _, fun pl => ok_factM FI1 (Le.refl _) (isg_mOk _) (fun D => rfl), es_cons (e_v (show _ = some (Value.int x t) from l17) (es_nil ⟨kp_Facts_is_set_global, (is_set_global_ok (k := k + 19) Z2).mono ?_⟩))⟩)))))
  rintro _ _ ⟨rfl, rfl⟩
  refine e_cmp (e_v (by with_unfolding_all rfl) (e_int fun _ => ok_gt_int ?_))
  refine ok_ne_bool ⟨_, rfl, ?_⟩
  simp only [bne_self_eq_false]
  exact b_nil (b_nil (hq _ _ (hn1.trans hn2) rfl rfl rfl))

theorem bound_key {w : World} {n : Led} {d : Addr} {kvs : List (Int × Value)} (D : DictAt w n d kvs) (h : ∀ i, mapR (bindsE E) i (valueAt kvs i)) (x : Int) : x ∈ kvs.map (·.1) ↔ ∃ j, (x, j) ∈ bindsE E := by
  rw [mem_keysOf]
  rcases h x with ⟨a, b⟩ | ⟨j, t, a, b⟩
  · rw [a]
    exact ⟨nofun, fun ⟨j, q⟩ => absurd q (b j)⟩
  · rw [a]
    exact ⟨fun _ => ⟨j, b⟩, fun _ => rfl⟩
/-- all checks -/
theorem checks_ok {b : Nat} (S : Sub [] [] N L E) (hb : b < 64) (hN : ∀ x, N x → 0 < x ∧ x ≤ b) (Z : Fz w n fa fo ho le E) (hz : E.length ≤ 1000) (hcl : ∀ e ∈ E, e.c.length ≤ 20)
    (l5 : l 5 = some (.ref fo)) (l6 : l 6 = some (.ref ho)) (l7 : l 7 = some (.ref le)) (l8 : l 8 = some (.ref fa)) {s1 : Sts} (hq : ∀ n' l', Le n n' → Q (.ret (.bool true)) l' n')
    (hs : s1 = (.cons (.each 10 (.call (.g (.builtin "sorted")) (.cons (.v 6) .nil)) (.cons (.asgR [11, 12] (.tuple (.cons (.call (.g (.ref 563)) (.cons (.v 5) (.cons (.str ⟨#[114, 101, 97, 100]⟩) (.cons (.v 10) .nil)))) (.cons (.idx (.v 6) (.v 10)) .nil))))
    (.cons (.asg 13 (.list (.cons (.meth (.v 8) q_times_read (.cons (.v 10) .nil)) (.cons (.meth (.attr (.v 8) ⟨#[115, 101, 116]⟩) ⟨#[103, 101, 116]⟩ (.cons (.v 10) (.cons (.int (0)) .nil))) (.cons (.meth (.v 8) q_times_called (.cons (.v 10) .nil)) (.cons (.idx (.attr (.v 8) ⟨#[98, 111, 117, 110, 100]⟩) (.v 10)) .nil))))))
    (.cons (.ite (.cmp .NotEq (.v 13) (.list (.cons (.v 11) (.cons (.call (.g (.ref 563)) (.cons (.v 5) (.cons (.str ⟨#[115, 101, 116]⟩) (.cons (.v 10) .nil)))) (.cons (.call (.g (.ref 563)) (.cons (.v 5) (.cons (.str ⟨#[99, 97, 108, 108, 101, 100]⟩) (.cons (.v 10) .nil)))) (.cons (.v 12) .nil)))))) (.cons (.ret (.bool false))
    .nil) .nil)
    (.cons (.ite (.or (.cmp .NotEq (.meth (.v 8) q_is_set (.cons (.v 10) .nil)) (.cmp .Gt (.idx (.v 13) (.int (1))) (.int (0)))) (.cmp .NotEq (.meth (.attr (.v 8) ⟨#[99, 97, 117, 103, 104, 116]⟩) ⟨#[103, 101, 116]⟩ (.cons (.v 10) (.cons (.bool false) .nil))) (.call (.g (.ref 575)) (.cons (.v 5) (.cons (.v 10) (.cons (.v 12) (.cons (.v 7) .nil))))))) (.cons (.ret (.bool false))
    .nil) .nil)
    .nil)))))
    (.cons (.eachT [14, 15, 16] (.v 5) (.cons (.ite (.and (.cmp .Eq (.v 14) (.str ⟨#[108, 97, 109, 98, 100, 97]⟩)) (.cmp .NotEq (.meth (.v 8) q_free (.cons (.v 15) .nil)) (.call (.g (.ref 570)) (.cons (.v 5) (.cons (.v 15) (.cons (.v 6) .nil)))))) (.cons (.ret (.bool false))
    .nil) .nil)
    (.cons (.ite (.and (.cmp .Eq (.v 14) (.str ⟨#[108, 97, 109, 98, 100, 97]⟩)) (.cmp .NotEq (.idx (.attr (.v 8) ⟨#[112, 97, 114, 101, 110, 116]⟩) (.v 15)) (.ite (.cmp .NotEq (.v 16) (.tuple .nil)) (.idx (.v 16) (.int (0))) (.neg (.int (1)))))) (.cons (.ret (.bool false))
    .nil) .nil)
    .nil)))
    (.cons (.each 17 (.call (.g (.type "range")) (.cons (.int (4)) .nil)) (.cons (.asg 18 (.call (.g (.ref 563)) (.cons (.v 5) (.cons (.str ⟨#[115, 101, 116, 32, 103, 108, 111, 98, 97, 108]⟩) (.cons (.v 17) .nil)))))
    (.cons (.ite (.or (.cmp .NotEq (.meth (.attr (.v 8) ⟨#[114, 101, 97, 100, 95, 103, 108, 111, 98, 97, 108, 115]⟩) ⟨#[103, 101, 116]⟩ (.cons (.v 17) (.cons (.int (0)) .nil))) (.call (.g (.ref 563)) (.cons (.v 5) (.cons (.str ⟨#[103, 108, 111, 98, 97, 108]⟩) (.cons (.v 17) .nil))))) (.cmp .NotEq (.meth (.attr (.v 8) ⟨#[115, 101, 116, 95, 103, 108, 111, 98, 97, 108, 115]⟩) ⟨#[103, 101, 116]⟩ (.cons (.v 17) (.cons (.int (0)) .nil))) (.v 18))) (.cons (.ret (.bool false))
    .nil) .nil)
    (.cons (.ite (.cmp .NotEq (.meth (.v 8) q_is_set_global (.cons (.v 17) .nil)) (.cmp .Gt (.v 18) (.int (0)))) (.cons (.ret (.bool false))
    .nil) .nil)
    .nil))))
    (.cons (.ret (.cmp .Eq (.call (.g (.builtin "sorted")) (.cons (.attr (.v 8) ⟨#[98, 111, 117, 110, 100]⟩) .nil)) (.call (.g (.builtin "sorted")) (.cons (.v 6) .nil))))
    .nil))))) : wB w (k + 20) s1 l n Q := by
  subst hs
  have hfew : ∀ {kvs : List (Int × Value)}, (kvs.map (·.1)).Nodup → (∀ x, x ∈ kvs.map (·.1) ↔ ∃ j, (x, j) ∈ bindsE E) → kvs.length < 64 := fun {kvs} nd h => by
    have := nodup_few b nd fun x hx => by
      obtain ⟨j, q⟩ := (h x).mp hx
      exact hN x (S.num (x, j) q)
    rw [List.length_map] at this
    omega
  -- the numbers
  obtain ⟨kvs, D, hm⟩ := Z.hom
  have hkey := bound_key D hm
  refine b_cons (s_each (e_call (e_g (es_cons (e_v l6 (es_nil ⟨callable_builtin _, ok_sorted_dict D (hfew D.nodup hkey) fun d vs' ns' cc hd h1 h2 h3 => ?_⟩))))))
  have hl1 := h1.length
  refine ⟨.list d vs'.toArray cc, rfl, .head _, trivial, fun i l' n' => i ≤ vs'.length ∧ (l' 5 = some (.ref fo) ∧ l' 6 = some (.ref ho) ∧ l' 7 = some (.ref le) ∧ l' 8 = some (.ref fa)) ∧ Le ((d, listOf vs'.toArray cc) :: n) n', ⟨Nat.zero_le _, ⟨l5, l6, l7, l8⟩, Le.refl _⟩, ?_⟩
  rintro i l' n' ⟨hil, ⟨m5, m6, m7, m8⟩, hn⟩
  refine ⟨hn _ (.head _), fun hlt y hy => ?_, fun hie => ?_⟩
  · have hy : vs'[i]? = some y := by simpa [Src.item] using hy
    obtain ⟨x, t, rfl, hx⟩ := h1.at i y hy
    have hlt2 : i < vs'.length := (List.getElem?_eq_some_iff.mp hy).1
    have hxm : x ∈ kvs.map (·.1) := h2.mem_iff.mp (List.mem_of_getElem? hx)
    refine number_ok S (Z.mono (Le.cons.trans hn)) hz hcl ((hkey x).mp hxm) (show lset 10 _ l' 5 = _ from m5) (show lset 10 _ l' 6 = _ from m6) (show lset 10 _ l' 7 = _ from m7) (show lset 10 _ l' 8 = _ from m8) (by with_unfolding_all rfl) fun l2 n2 hn2 _ q5 q6 q7 q8 => ⟨hlt2, ⟨q5.trans m5, q6.trans m6, q7.trans m7, q8.trans m8⟩, hn.trans hn2⟩
  have hn0 : Le n n' := Le.cons.trans hn
  clear hn hie hil l5 l6 l7 l8 hl1 h1 h2 h3
  -- the lambdas
  have Z1 := Z.mono hn0
  obtain ⟨vs, ep, hf, A2⟩ := id Z1.fnd
  refine b_cons (s_eachT (e_v m5 ⟨fo, vs.toArray, ep, rfl, hf, fun i l2 n2 => (l2 5 = some (.ref fo) ∧ l2 6 = some (.ref ho) ∧ l2 8 = some (.ref fa)) ∧ Le n' n2, ⟨⟨m5, m6, m8⟩, Le.refl _⟩, ?_⟩))
  rintro i l2 n2 ⟨⟨j5, j6, j8⟩, hn2⟩
  refine ⟨hn2 _ hf, fun hlt y hyi => ?_, fun hie => ?_⟩
  · have hyi : vs[i]? = some y := by simpa using hyi
    obtain ⟨r, hri, t', tk, tx, ch, rfl, hmt, hc⟩ := A2.at hyi
    obtain ⟨tg, x, c⟩ := r
    exact ⟨t', _, rfl, hn2 _ hmt, rfl, row_ok S hb hN (Z1.mono hn2) hz hcl (List.mem_of_getElem? hri) (hc.mono hn2) (show setAll _ _ l2 5 = _ from j5) (show setAll _ _ l2 6 = _ from j6) (show setAll _ _ l2 8 = _ from j8) (by with_unfolding_all rfl) (by with_unfolding_all rfl) (by with_unfolding_all rfl) fun n3 hn3 => ⟨⟨j5, j6, j8⟩, hn2.trans hn3⟩⟩
  have Z2 := Z1.mono hn2
  have hn02 := hn0.trans hn2
  clear m5 m6 m7 m8 hie hn2 A2 hf
  -- the globals
  refine b_cons (s_each (e_call (e_g (es_cons (e_int fun _ => es_nil ⟨callable_type _, ok_range (j := 4) rfl (by decide) fun r ta tb tc hr hsm => ?_⟩)))))
  refine ⟨.range r 4 ta tb tc, rfl, .head _, hsm, fun i l3 n3 => (l3 5 = some (.ref fo) ∧ l3 6 = some (.ref ho) ∧ l3 8 = some (.ref fa)) ∧ Le ((r, rangeOf 4 ta tb tc) :: n2) n3, ⟨⟨j5, j6, j8⟩, Le.refl _⟩, ?_⟩
  rintro i l3 n3 ⟨⟨m5, m6, m8⟩, hn3⟩
  refine ⟨hn3 _ (.head _), fun hlt y hy => ?_, fun hie => ?_⟩
  · obtain ⟨t, rfl⟩ : ∃ t, y = .int i t := hy
    exact symbol_ok (Z2.mono (Le.cons.trans hn3)) hz (show lset 17 _ l3 5 = _ from m5) (show lset 17 _ l3 8 = _ from m8) (by with_unfolding_all rfl) fun l4 n4 hn4 q5 q6 q8 => ⟨⟨q5.trans m5, q6.trans m6, q8.trans m8⟩, hn3.trans hn4⟩
  have Z3 := Z2.mono (Le.cons.trans hn3)
  have hn03 := hn02.trans (Le.cons.trans hn3)
  -- all that is bound
  obtain ⟨ad, F, r, dom⟩ := Z3.fx
  refine b_ret ((e_cmp (e_call (e_g (es_cons (e_attr (e_v m8 (ok_fact F (Le.refl _) .bound rfl fun ab hab => ?_))))))))
  obtain ⟨kb, Db, hbd⟩ := r _ ab hab
  have hkb := bound_key Db hbd
  refine es_nil ⟨callable_builtin _, ok_sorted_dict Db (hfew Db.nodup hkb) fun d1 vs1 ns1 c1 hd1 h1 h2 h3 => ?_⟩
  obtain ⟨kh, Dh, hhd⟩ := (Z3.mono (Le.cons (p := (d1, listOf vs1.toArray c1)))).hom
  have hkh := bound_key Dh hhd
  refine e_call (e_g (es_cons (e_v m6 (es_nil ⟨callable_builtin _, ok_sorted_dict Dh (hfew Dh.nodup hkh) fun d2 vs2 ns2 c2 hd2 h4 h5 h6 => ?_⟩))))
  have hs : ns1 = ns2 := sorted_eq (h2.symm.nodup Db.nodup) (h5.symm.nodup Dh.nodup) h3 h6 fun x => by rw [h2.mem_iff, h5.mem_iff, hkb, hkh]
  subst hs
  refine ok_eq_ints (by omega) (.tail _ (.head _)) (.head _) h1 h4 ?_
  simp only [decide_true]
  exact hq _ _ ((hn03.trans Le.cons).trans Le.cons)
end
/-! Law8 -/
section
variable {w : World} {k : Nat} {n : Led}
theorem ok_cutTo_listO {Q : Value → Led → Prop} {a i : Addr} {o : Obj} {vs : List Value} {n0 : Nat} {b : Int} {t : Tok} (ha : (a, o) ∈ n) (hc : o.cls = .type "list") (hd : o.data = .seq vs.toArray n0) (hz : vs.length ≤ sizeLine)
    (h : ∀ d, d ∉ keys n → Q (.ref d) ((d, listOf (slicePick vs.toArray none (some b) none) 0) :: n)) : OK w k (cutTree (.ref a) (.ref i)) ((i, sliceOf .none (.int b t) .none) :: n) Q := fun A g L m R s C => by
  have hL : s.heap.IsList a vs.toArray := ⟨o, C.get (.tail _ ha), hc, n0, hd⟩
  refine cut_of_type hL.typeIs list_getitem_lookup ?_
  have him : (i, sliceOf .none (.int b t) .none) ∈ (i, sliceOf .none (.int b t) .none) :: n := .head _
  have C' : Cx w k A g L m (R ++ n) s.heap := C.sub ((List.sublist_cons_self _ _).append_left _)
  refine wpAny_getItem_list_slice hL ⟨_, C.get him, rfl, rfl⟩ .none (.int _ _) .none (by simp) ?_ (by simpa using hz)
  obtain ⟨C1, q⟩ := C'.push (listOf (slicePick vs.toArray none (some b) none) 0) rfl
  exact ⟨_, _, s.toks, rfl, C1, h _ q⟩
theorem deck_ok {l : Addr} {ol : Obj} {vs : List Value} {ns : List Int} {n0 : Nat} (ha : (l, ol) ∈ n) (hc : ol.cls = .type "list") (hd : ol.data = .seq vs.toArray n0) (hi : IntsAre vs ns) (hz : ns.length ≤ 63) :
    OK w (k + 9) (call (.ref 520) [.ref l]) n fun v n' => ∃ d us ms ep, v = .ref d ∧ d ∉ keys n ∧ (d, listOf us.toArray ep) ∈ n' ∧ IntsAre us ms ∧ DeckOk ms ∧ Le n n' := by
  refine (call_law_deck_of (k := k + 8) ?_).ok
  have hl := hi.length
  unfold ir_law_deck_of
  refine b_ret ((e_bin (e_comp (e_cutTo (e_v (by with_unfolding_all rfl) (e_int fun _ => ?_))))))
  intro i hi'
  refine ok_cutTo_listO ha hc hd (zl (by omega)) fun d0 hd0 => ?_
  have hcut := kmk_upto (y := 24) hi (by decide)
  generalize hcv : slicePick vs.toArray none (some 24) none = cv at hcut
  have hcl : cv.toList.length ≤ 24 := by
    rw [hcut.length, List.length_take]
    have : (24 : Int).toNat = 24 := rfl
    omega
  have hcs : cv = cv.toList.toArray := by simp
  refine ⟨.list d0 cv 0, rfl, .head _, trivial, zl (by show cv.size ≤ 1000; rw [← Array.length_toList]; omega), fun j ys n' => j ≤ cv.toList.length ∧ Le ((d0, listOf cv 0) :: n) n' ∧ ∃ ms, IntsAre ys ms ∧ ms.length = j ∧ ∀ x ∈ ms, 0 ≤ x ∧ x < 10 ^ 60, ⟨Nat.zero_le _, Le.refl _, [], .nil, rfl, nofun⟩, ?_⟩
  rintro j ys n' ⟨hj, hn, ms, hys, hml, hms⟩
  refine ⟨hn _ (.head _), fun hlt y hy => ?_, fun hje d1 hd1 => ?_⟩
  · have hy : cv.toList[j]? = some y := by simpa [Src.item] using hy
    obtain ⟨x, t, rfl, hx⟩ := hcut.at j y hy
    have hlt2 : j < cv.toList.length := (List.getElem?_eq_some_iff.mp hy).1
    refine e_bin (e_call (e_g (es_cons (e_v (by with_unfolding_all rfl) (es_nil ⟨callable_builtin _, ok_abs fun t1 => e_bin (e_int fun t2 => e_int fun t3 => ok_pow (by decide) (by decide) fun t4 => ok_mod (by decide) fun t5 => ⟨hlt2, hn, ms ++ [_], hys.append (.cons _ t5 .nil), by simp [hml], fun z hz => ?_⟩)⟩)))))
    rcases List.mem_append.mp hz with hz | hz
    · exact hms z hz
    · rw [List.mem_singleton.mp hz]
      have h60 : ((10 : Int) ^ (60 : Int).toNat) = 10 ^ 60 := rfl
      rw [h60]
      exact ⟨Int.fmod_nonneg_of_pos _ (by decide), Int.fmod_lt_of_pos _ (by decide)⟩
  · have hje : j = cv.size := hje
    have hjl : j ≤ 24 := by rw [hje, ← Array.length_toList]; exact hcl
    refine e_list (es_cons (e_int fun t1 => es_nil ⟨zl (by simp), fun d2 hd2 => ?_⟩))
    have hyl := hys.length
    refine ok_add_list (.tail _ (.head _)) (.head _) (zl (by simp; omega)) fun d3 hd3 => ?_
    have hall : Le n ((d3, listOf (ys ++ [Value.int 1234567890123456789012345 t1]).toArray 0) :: (d2, listOf [Value.int 1234567890123456789012345 t1].toArray 0) :: (d1, listOf ys.toArray ys.length) :: n') := (((Le.cons.trans hn).trans Le.cons).trans Le.cons).trans Le.cons
    refine ⟨d3, ys ++ [.int 1234567890123456789012345 t1], ms ++ [1234567890123456789012345], 0, rfl, fun q => ?_, .head _, hys.append (.cons _ _ .nil), ⟨fun x hx => ?_, by simp; omega⟩, hall⟩
    · obtain ⟨p, hp, e⟩ := List.mem_map.mp q
      exact hd3 (.tail _ (.tail _ (e ▸ List.mem_map.mpr ⟨p, hn _ (.tail _ hp), rfl⟩)))
    · rcases List.mem_append.mp hx with hx | hx
      · exact hms x hx
      · rw [List.mem_singleton.mp hx]; decide
end
/-! Law9 -/
noncomputable def eInner : List Ev := [⟨[2], .lam 1 [] (-1), .setl 1, 1⟩, ⟨[1, 2], .setl 1, .const, 1⟩, ⟨[1, 2], .const, .const, 0⟩]
theorem sub_inner : Sub [2] [1, 2] (fun _ => False) (fun l => l = 1) eInner := by
  have S0 : Sub [1, 2] ([1, 2] ++ bindsOf [] (-1)) (fun _ => False) (fun _ => False) [⟨[1, 2], .const, .const, 0⟩] := Sub.nil.cons rfl rfl rfl nofun nofun fun _ _ h => h
  have S1 : Sub [1, 2] ([1, 2] ++ bindsOf [] (-1)) (fun _ => False) (fun _ => False) [⟨[1, 2], .setl 1, .const, 1⟩, ⟨[1, 2], .const, .const, 0⟩] := S0.cons rfl rfl rfl nofun (fun x e => by cases e; simp) fun _ _ h => h
  exact S1.lam rfl rfl (fun h => h) (by decide) (fun _ _ h => h) (fun _ h => by simp [bindsOf] at h) (by simp [bindsOf]) (fun _ h => h) (fun x h => by simp [bindsOf] at h) (fun _ h => h.elim) rfl

section
variable {w : World} {k : Nat} {n T : Led} {d st : Addr} {l : Lc} {Q : Value → Led → Prop}
theorem inner_ok (B : Bw d st T n 2 0) (l2 : l 2 = some (.ref st)) (hq : ∀ x n' T', Le T T' → Bw d st T' n' 2 1 → Tr T' 3 [2] (.ref x) eInner → Q (.ref x) n') :
    wE w (k + 60) (.call (.g (.ref 283)) (.cons (.call (.g (.ref 534)) (.cons (.v 2) (.cons (.int (1)) .nil))) (.cons (.list .nil) (.cons (.neg (.int (1))) (.cons (.call (.g (.ref 137)) (.cons (.int (1)) (.cons (.call (.g (.ref 66)) (.cons (.int (4)) .nil)) .nil))) .nil))))) l n Q := by
  refine e_call (e_g (es_cons (e_call (e_g (es_cons (e_v l2 (es_cons (e_int fun _ => es_nil ⟨kp_law_new, (new1_ok (k := k + 59) B).mono ?_⟩))))))))
  rintro _ n1 ⟨t1, rfl, B1⟩
  refine es_cons (e_list (es_nil ⟨zl (by simp), fun pl hpl => es_cons (e_neg (e_int fun _ => neg_one fun tn => ?_))⟩))
  have B2 := B1.alloc (o := listOf ([] : List Value).toArray 0) hpl
  refine es_cons (e_call (e_g (es_cons (e_int fun t2 => es_cons (e_call (e_g (es_cons (e_int fun t3 => es_nil ⟨kpc_Const, new_Const (k := k + 58) fun x dx es ep hx hdx hne F hle => ?_⟩))))))))
  obtain ⟨T3, l3, B3, I3⟩ := B2.inst (C := 66) (ep := ep) hx hdx hne F hle
  refine es_nil ⟨kpc_SetLocal, new_SetLocal (k := k + 58) fun x4 dx4 es4 ep4 hx4 hdx4 hne4 F4 hle4 => ?_⟩
  obtain ⟨T4, l4, B4, I4⟩ := B3.inst (C := 137) (ep := ep4) hx4 hdx4 hne4 F4 hle4
  refine es_nil ⟨kpc_Lambda, new_Lambda (k := k + 58) fun x5 dx5 es5 ep5 hx5 hdx5 hne5 F5 hle5 => ?_⟩
  obtain ⟨T5, l5, B5, I5⟩ := B4.inst (C := 283) (ep := ep5) hx5 hdx5 hne5 F5 hle5
  have tc : Tr T3 1 [1, 2] (.ref x) [⟨[1, 2], .const, .const, 0⟩] := ⟨x, .const, [], [], rfl, ⟨rfl, _, I3⟩, .nil, rfl⟩
  have ts : Tr T4 2 [1, 2] (.ref x4) [⟨[1, 2], .setl 1, .const, 1⟩, ⟨[1, 2], .const, .const, 0⟩] := ⟨x4, .setl 1, [.ref x], [[⟨[1, 2], .const, .const, 0⟩]], rfl, ⟨_, x, rfl, I4⟩, .cons (tc.mono l4 (Nat.le_refl _)) .nil, rfl⟩
  refine hq x5 _ T5 ((Le.cons.trans l3).trans (l4.trans l5)) B5 ⟨x5, .lam 1 [] (-1), [.ref x4], [_], rfl, ⟨_, _, pl, [], x4, rfl, I5, ⟨0, l5 _ (l4 _ (l3 _ (.head _)))⟩, .nil, by simp⟩, .cons (ts.mono l5 (Nat.le_refl _)) .nil, rfl⟩

theorem outer_ok (B : Bw d st T n 2 1) {xi : Addr} (ti : Tr T 3 [2] (.ref xi) eInner) (l1 : l 1 = some (.ref d)) (l2 : l 2 = some (.ref st)) (l3 : l 3 = some (.ref xi))
    (hq : ∀ x n' T' N' L' E, Le T T' → Bw d st T' n' N' L' → Tr T' 8 [] (.ref x) E → Sub [] [] (fun x => 0 < x ∧ x ≤ N') (fun l => 0 < l ∧ l ≤ L') E → 2 ≤ N' → N' ≤ 29 → 2 ≤ L' → E.length ≤ 100 → Q (.ref x) n') :
    wE w (k + 60) (.call (.g (.ref 283)) (.cons (.call (.g (.ref 534)) (.cons (.v 2) (.cons (.int (1)) .nil))) (.cons (.list (.cons (.int (1)) .nil)) (.cons (.int (2)) (.cons (.call (.g (.ref 349)) (.cons (.list (.cons (.v 3) (.cons (.call (.g (.ref 544)) (.cons (.v 1) (.cons (.v 2) (.cons (.list (.cons (.int (1)) (.cons (.int (2)) .nil))) (.cons (.int (2)) .nil))))) .nil))) .nil)) .nil))))) l n Q := by
  refine e_call (e_g (es_cons (e_call (e_g (es_cons (e_v l2 (es_cons (e_int fun _ => es_nil ⟨kp_law_new, (new1_ok (k := k + 59) B).mono ?_⟩))))))))
  rintro _ n1 ⟨t1, rfl, B1⟩
  refine es_cons (e_list (es_cons (e_int fun tp => es_nil ⟨zl (by simp), fun pl hpl => es_cons (e_int fun tr => ?_)⟩)))
  have B2 := B1.alloc (o := listOf [Value.int 1 tp].toArray 0) hpl
  refine es_cons (e_call (e_g (es_cons (e_list (es_cons (e_v l3 (es_cons (e_call (e_g (es_cons (e_v l1 (es_cons (e_v l2 (es_cons (e_list (es_cons (e_int fun ta => es_cons (e_int fun tb => es_nil ⟨zl (by simp), fun kn hkn => es_cons (e_int fun td => ?_)⟩))))))))))))))))))
  have B3 := B2.alloc (o := listOf [Value.int 1 ta, Value.int 2 tb].toArray 0) hkn
  refine es_nil ⟨kp_law_node_of, OK.less (node2 w d st _ _ 2 2 [2] [1, 2] kn [.int 1 ta, .int 2 tb] 2 td B3 ⟨0, .head _⟩ (.cons _ _ (.cons _ _ .nil)) (by decide) (by decide) (by decide) (fun x hx => ?_) (fun x hx => ?_) (by decide)) (by omega) |>.mono ?_⟩
  · rcases List.mem_cons.mp hx with rfl | hx
    · decide
    · rw [List.mem_singleton.mp hx]; decide
  · rw [List.mem_singleton.mp hx]; decide
  rintro v n4 M
  obtain ⟨T4, N4, L4, E, l4, B4, m1, m2, m3, t4, s4, z4⟩ := M
  obtain ⟨ay, rfl⟩ := t4.isRef
  refine es_nil ⟨zl (by simp), fun sl hsl => es_nil ⟨kpc_Seq, new_Seq (k := k + 58) fun x dx es ep hx hdx hne F hle => ?_⟩⟩
  have B5 := B4.alloc (o := listOf [Value.ref xi, .ref ay].toArray 0) hsl
  obtain ⟨T6, l6, B6, I6⟩ := B5.inst (C := 349) (ep := ep) hx hdx hne F hle
  refine es_nil ⟨kpc_Lambda, new_Lambda (k := k + 58) fun x7 dx7 es7 ep7 hx7 hdx7 hne7 F7 hle7 => ?_⟩
  obtain ⟨T7, l7, B7, I7⟩ := B6.inst (C := 283) (ep := ep7) hx7 hdx7 hne7 F7 hle7
  have l46 : Le T4 T6 := Le.cons.trans l6
  have l04 : Le T T4 := (Le.cons.trans Le.cons).trans l4
  have hpl7 : (pl, listOf [Value.int 1 tp].toArray 0) ∈ T7 := l7 _ (l46 _ (l4 _ (.tail _ (.head _))))
  have tsq : Tr T6 6 [2] (.ref x) (⟨[2], .seq, opOf [eInner, E], 2⟩ :: (eInner ++ E)) :=
    ⟨x, .seq, [.ref xi, .ref ay], [eInner, E], rfl, ⟨sl, I6, ⟨0, l6 _ (.head _)⟩, by simp⟩, .cons (ti.mono (l04.trans l46) (by decide)) (.cons (t4.mono l46 (by decide)) .nil), by simp⟩
  refine hq x7 _ T7 N4 L4 (⟨[], .lam 2 [1] 2, .seq, 1⟩ :: ⟨[2], .seq, opOf [eInner, E], 2⟩ :: (eInner ++ E)) (l04.trans (l46.trans l7)) B7 (Tr.mono (h := 7) (Le.refl _) (by decide) ⟨x7, .lam 2 [1] 2, [.ref x], [_], rfl, ⟨_, _, pl, [.int 1 tp], x, rfl, I7, ⟨0, hpl7⟩, .cons _ _ .nil, by simp⟩, .cons (tsq.mono l7 (Nat.le_refl _)) .nil, by simp; rfl⟩) ?_ (by omega) (by omega) (by omega) ?_
  · have S1 : Sub [2] [1, 2] (Iv 2 N4) (fun l => l = 1 ∨ Iv 2 L4 l) (eInner ++ E) := by
      refine sub_inner.append s4 nofun ?_ ?_ ?_ nofun (fun _ h => h) (fun _ h => .inl h) fun _ h => .inr h
      · rintro x rfl; unfold Iv; omega
      · intro x hx; rw [List.mem_singleton.mp hx]; decide
      · intro x hx; rw [List.mem_singleton.mp hx]; unfold Iv; omega
    have S2 : Sub [2] ([] ++ bindsOf [1] 2) (Iv 2 N4) (fun l => l = 1 ∨ Iv 2 L4 l) (⟨[2], .seq, opOf [eInner, E], 2⟩ :: (eInner ++ E)) := by
      refine S1.cons rfl rfl rfl nofun nofun ?_
      intro x hx; rw [List.mem_singleton.mp hx]; unfold Iv; omega
    have hb : ∀ x ∈ bindsOf [1] 2, x = 1 ∨ x = 2 := by
      intro x hx; simpa [bindsOf] using hx
    refine S2.lam rfl rfl ?_ nofun nofun ?_ (by simp [bindsOf]) ?_ ?_ ?_ ?_
    · unfold Iv; omega
    · intro x hx; have := hb x hx; unfold Iv; omega
    · intro x; unfold Iv; omega
    · intro x hx; have := hb x hx; omega
    · intro x; unfold Iv; omega
    · omega
  · simp only [List.length_cons, List.length_append, eInner, List.length_nil]; omega
end
/-! LawA -/
section
variable {w : World} {k : Nat} {n : Led} {d st nl l0 : Addr} {ol : Obj} {l : Lc} {Q : Flow → Lc → Led → Prop}
/-- the nodes, made -/
structure Nodes (n : Led) (nl l0 : Addr) (ol : Obj) (vs : List Value) (Es : List (List Ev)) : Prop where
  ex : ∃ n1 ep, Le ((nl, listOf vs.toArray ep) :: n1) n ∧ (keys ((nl, listOf vs.toArray ep) :: n1)).Nodup ∧ All2 (Tr n1 8 []) vs Es ∧ (l0, ol) ∈ n1
  sub : Sub [] [] (fun x => 0 < x ∧ x ≤ 56) (fun l => 0 < l) Es.flatten
  len : Es.flatten.length ≤ 300
theorem define_ok {T n1 : Led} {N L : Int} {x : Addr} {E : List Ev} {ep : Nat} (B : Bw d st T n1 N L) (hn : Le n1 n) (nd : (keys n).Nodup) (hnl : (nl, listOf [Value.ref x].toArray ep) ∈ n) (hnl2 : nl ∉ keys n1) (t : Tr T 8 [] (.ref x) E) (S : Sub [] [] (fun x => 0 < x ∧ x ≤ N) (fun l => 0 < l ∧ l ≤ L) E) (hN : 2 ≤ N) (hN2 : N ≤ 29) (hL : 2 ≤ L) (hz : E.length ≤ 100) (hl0 : (l0, ol) ∈ T)
    (l1 : l 1 = some (.ref d)) (l2 : l 2 = some (.ref st)) (l4 : l 4 = some (.ref nl)) (hq : ∀ n' vs Es, Nodes n' nl l0 ol vs Es → Q .next l n') :
    wS w (k + 60) (.ite (.cmp .Eq (.call (.g (.ref 515)) (.cons (.v 1) (.cons (.int (2)) .nil))) (.int (1))) (.cons (.expr (.meth (.v 4) ⟨#[97, 112, 112, 101, 110, 100]⟩ (.cons (.call (.g (.ref 203)) (.cons (.int (1)) (.cons (.call (.g (.ref 544)) (.cons (.v 1) (.cons (.v 2) (.cons (.list .nil) (.cons (.int (2)) .nil))))) .nil))) .nil)))
    .nil) .nil) l n Q := by
  refine s_ite (t_cmp (e_call (e_g (es_cons (e_v l1 (es_cons (e_int fun _ => es_nil ⟨kp_law_draw, OK.use hn B.nd (draw_ok (k := k + 51) B (by decide) (by decide)) ?_⟩)))))))
  rintro _ n1' n' ⟨r, tr, rfl, r0, r1, B1⟩ nd1 g1 g2 _ _ g5
  have hnl1 := g2 _ hnl hnl2
  have hnl3 : nl ∉ keys n1' := fun q => by
    obtain ⟨p, hp, e⟩ := List.mem_map.mp q
    rcases g5 p hp with h | h
    · exact hnl2 (e ▸ h)
    · exact h (by rw [e]; exact mem_keys hnl)
  refine e_int fun _ => ok_eq_int ⟨_, rfl, ?_⟩
  clear g2 g5 hnl hnl2 hn B nd
  cases r == 1 with
  | false =>
    refine b_nil (hq _ [.ref x] [E] ⟨⟨n1', ep, fun p hp => ?_, List.nodup_cons.mpr ⟨hnl3, B1.nd⟩, .cons (t.mono B1.sub (Nat.le_refl _)) .nil, B1.sub _ hl0⟩, ?_, ?_⟩)
    · rcases List.mem_cons.mp hp with rfl | hp
      · exact hnl1
      · exact g1 p hp
    · simpa using S.mono (fun _ h => h) (fun x h => ⟨h.1, by omega⟩) fun l h => h.1
    · simp; omega
  | true =>
    refine b_cons (s_expr (e_meth (e_v l4 ⟨_, _, meth_list hnl1 PySem.F.slot_list_append PySem.F.type_list_append, es_cons (e_call (e_g (es_cons (e_int fun t1 => es_cons (e_call (e_g (es_cons (e_v l1 (es_cons (e_v l2 (es_cons (e_list (es_nil ⟨zl (by simp), fun kn hkn => es_cons (e_int fun t2 => es_nil ⟨kp_law_node_of, ?_⟩)⟩)))))))))))))⟩)))
    have hkn1 : kn ∉ keys n1' := fun q => by
      obtain ⟨p, hp, e⟩ := List.mem_map.mp q
      exact hkn (e ▸ List.mem_map.mpr ⟨p, g1 p hp, rfl⟩)
    have B2 := B1.alloc (o := listOf ([] : List Value).toArray 0) hkn1
    refine OK.use (n1 := (kn, listOf ([] : List Value).toArray 0) :: n1') (fun p hp => ?_) B2.nd (OK.less (node2 w d st _ _ N L [] [] kn [] 2 t2 B2 ⟨0, .head _⟩ .nil (by decide) (by decide) (by decide) nofun nofun (by decide)) (by omega)) ?_
    · rcases List.mem_cons.mp hp with rfl | hp
      · exact .head _
      · exact .tail _ (g1 p hp)
    rintro v n3 n' M nd3 g3 g4 _ _ g6
    obtain ⟨T4, N4, L4, E4, l4', B4, m1, m2, m3, t4, s4, z4⟩ := M
    obtain ⟨ay, rfl⟩ := t4.isRef
    have hnk : nl ≠ kn := fun e => hkn (e ▸ mem_keys hnl1)
    have hnl4 : (nl, listOf [Value.ref x].toArray ep) ∈ n' := g4 _ (.tail _ hnl1) fun q => by
      rcases List.mem_cons.mp q with q | q
      · exact hnk q
      · exact hnl3 q
    have hnl5 : nl ∉ keys n3 := fun q => by
      obtain ⟨p, hp, e⟩ := List.mem_map.mp q
      rcases g6 p hp with h | h
      · rw [e] at h
        rcases List.mem_cons.mp h with q | q
        · exact hnk q
        · exact hnl3 q
      · exact h (by rw [e]; exact .tail _ (mem_keys hnl1))
    refine es_nil ⟨kpc_Define, new_Define (k := k + 58) fun x5 dx5 es5 ep5 hx5 hdx5 hne5 F5 hle5 => ?_⟩
    have hx5' : x5 ∉ keys n3 := fun q => by
      obtain ⟨p, hp, e⟩ := List.mem_map.mp q
      exact hx5 (e ▸ List.mem_map.mpr ⟨p, g3 p hp, rfl⟩)
    have hdx5' : dx5 ∉ keys n3 := fun q => by
      obtain ⟨p, hp, e⟩ := List.mem_map.mp q
      exact hdx5 (e ▸ List.mem_map.mpr ⟨p, g3 p hp, rfl⟩)
    obtain ⟨T5, l5, B5, I5⟩ := B4.inst (C := 203) (ep := ep5) hx5' hdx5' hne5 F5 hle5
    have hnx : nl ≠ x5 := fun e => hx5 (e ▸ mem_keys hnl4)
    have hndx : nl ≠ dx5 := fun e => hdx5 (e ▸ mem_keys hnl4)
    refine es_nil ⟨callable_builtin _, ok_append (.tail _ (.tail _ hnl4)) (zl (by simp)) ⟨nofun, b_nil (hq _ [.ref x, .ref x5] [E, ⟨[], .defi 1, opOf [E4], 1⟩ :: E4] ⟨⟨(x5, instObj 203 dx5) :: (dx5, dictOf es5 ep5) :: n3, ep + 1, fun p hp => ?_, List.nodup_cons.mpr ⟨?_, B5.nd⟩, ?_, ?_⟩, ?_, ?_⟩)⟩⟩
    · rcases List.mem_cons.mp hp with rfl | hp
      · exact mem_upd_self (o := listOf [Value.ref x].toArray ep) (o' := listOf ([Value.ref x].toArray.push (.ref x5)) (ep + 1)) (.tail _ (.tail _ hnl4))
      · rcases List.mem_cons.mp hp with rfl | hp
        · exact mem_upd_ne (.head _) (Ne.symm hnx)
        rcases List.mem_cons.mp hp with rfl | hp
        · exact mem_upd_ne (.tail _ (.head _)) (Ne.symm hndx)
        · exact mem_upd_ne (.tail _ (.tail _ (g3 p hp))) fun e => hnl5 (e ▸ List.mem_map.mpr ⟨p, hp, rfl⟩)
    · intro q
      rcases List.mem_cons.mp q with q | q
      · exact hnx q
      rcases List.mem_cons.mp q with q | q
      · exact hndx q
      · exact hnl5 q
    · have l45 : Le T T5 := (Le.cons.trans l4').trans l5
      refine .cons (t.mono (l45.trans B5.sub) (Nat.le_refl _)) (.cons ?_ .nil)
      exact Tr.mono (h := 6) B5.sub (by decide) ⟨x5, .defi 1, [.ref ay], [E4], rfl, ⟨_, ay, rfl, I5⟩, .cons (t4.mono l5 (Nat.le_refl _)) .nil, by simp⟩
    · exact B5.sub _ (l5 _ (l4' _ (.tail _ hl0)))
    · have S5 : Sub [] [] (Iv N N4) (Iv L L4) (⟨[], .defi 1, opOf [E4], 1⟩ :: E4) := Sub.top s4 rfl rfl rfl nofun nofun nofun
      have : Sub [] [] (fun x => 0 < x ∧ x ≤ 56) (fun l => 0 < l) (E ++ (⟨[], .defi 1, opOf [E4], 1⟩ :: E4)) := by
        refine S.append S5 ?_ ?_ nofun nofun ?_ ?_ ?_ ?_
        · intro x h1 h2; unfold Iv at h2; omega
        · intro x h1 h2; unfold Iv at h2; omega
        · intro x h; omega
        · intro x h; unfold Iv at h; omega
        · intro x h; exact h.1
        · intro x h; unfold Iv at h; omega
      simpa using this
    · simp only [List.flatten_cons, List.flatten_nil, List.append_nil, List.length_append, List.length_cons]; omega
end
/-! LawB -/
set_option maxHeartbeats 1000000 in
theorem law_main {w : World} {l0 : Addr} {ol : Obj} {vs0 : List Value} {ns0 : List Int} {n0 : Nat} (hc : ol.cls = .type "list") (hd : ol.data = .seq vs0.toArray n0) (hi : IntsAre vs0 ns0) (hz : ns0.length ≤ 63) :
    wB w 60 ir_law (initL [.ref l0]) [(l0, ol)] fun f _ n' => retOf f = .bool true ∧ (l0, ol) ∈ n' := by
  unfold ir_law
  -- the deck and the counters
  refine b_cons (s_asgR (e_tuple (es_cons (e_call (e_g (es_cons (e_v (by with_unfolding_all rfl) (es_nil ⟨kp_law_deck_of, OK.withNd ((deck_ok (k := 51) (.head _) hc hd hi hz).mono ?_)⟩))))))))
  rintro _ n1 ⟨d, us, ms, ep, rfl, hdk, hd1, hi1, hok, hn1⟩ nd1
  refine es_cons (e_list (es_cons (e_int fun t1 => es_cons (e_int fun t2 => es_nil ⟨zl (by simp), fun st hst => es_nil ⟨zl (by simp), fun tt htt => ⟨tt, _, rfl, .head _, rfl, ?_⟩⟩⟩))))
  have hl1 : (l0, ol) ∈ n1 := hn1 _ (.head _)
  have B : Bw d st [(l0, ol)] ((tt, tupOf [Value.ref d, .ref st].toArray) :: (st, listOf [Value.int 2 t1, .int 0 t2].toArray 0) :: n1) 2 0 := by
    refine ⟨fun p hp => ?_, List.nodup_cons.mpr ⟨htt, List.nodup_cons.mpr ⟨hst, nd1⟩⟩, ⟨us, ms, ep, .tail _ (.tail _ hd1), hi1, hok⟩, ⟨t1, t2, 0, .tail _ (.head _)⟩, hdk, fun q => ?_, fun e => hst (e ▸ mem_keys hd1), by decide, by decide⟩
    · rw [List.mem_singleton.mp hp]; exact .tail _ (.tail _ hl1)
    · have : st = l0 := by simpa [keys] using q
      exact hst (this ▸ mem_keys hl1)
  clear hdk hd1 hi1 hok hn1 nd1 hst htt hl1
  -- the nodes
  refine b_cons (s_asg (inner_ok (k := 0) B (by with_unfolding_all rfl) fun xi n2 T2 hT2 B2 ti => ?_))
  clear B
  refine b_cons (s_asg (e_list (es_cons (outer_ok (k := 0) B2 ti (by with_unfolding_all rfl) (by with_unfolding_all rfl) (by with_unfolding_all rfl) fun x n3 T3 N L E hT3 B3 tE S hN1 hN2 hL hzE => es_nil ⟨zl (by simp), fun nl hnl => ?_⟩))))
  clear B2 ti
  refine b_cons (define_ok (k := 0) (ep := 0) B3 Le.cons (List.nodup_cons.mpr ⟨hnl, B3.nd⟩) (.head _) hnl tE S hN1 hN2 hL hzE (hT3 _ (hT2 _ (.head _))) (by with_unfolding_all rfl) (by with_unfolding_all rfl) (by with_unfolding_all rfl) fun n4 vs Es ND => ?_)
  clear B3 tE S hN1 hN2 hL hzE hnl
  obtain ⟨nT, epn, hle, hnd, hA2, hl4⟩ := ND.ex
  have S := ND.sub
  have hlen := ND.len
  clear ND
  -- the facts
  refine b_cons (s_asgT (e_tuple (es_cons (e_list (es_nil ⟨zl (by simp), fun fo hfo => es_cons (e_dict fun ho hho hlow => es_cons (e_list (es_nil ⟨zl (by simp), fun le hle' => es_cons (e_call (e_g (es_cons (e_v (by with_unfolding_all rfl) (es_nil ⟨kp_facts_of, ?_⟩)))))⟩)))⟩)))))
  have l4 : Le n4 ((le, listOf ([] : List Value).toArray 0) :: (ho, dictOf [] 0) :: (fo, listOf ([] : List Value).toArray 0) :: n4) := (Le.cons.trans Le.cons).trans Le.cons
  have keyT : ∀ {a}, a ∈ keys ((nl, listOf vs.toArray epn) :: nT) → a ∈ keys n4 := fun {a} q => by
    obtain ⟨p, hp, e⟩ := List.mem_map.mp q
    exact e ▸ List.mem_map.mpr ⟨p, hle p hp, rfl⟩
  refine OK.use (n1 := (nl, listOf vs.toArray epn) :: nT) (hle.trans l4) hnd (facts_of_ok (k := 52) hnd ⟨epn, .head _⟩ (hA2.mono fun _ _ t => t.mono Le.cons (Nat.le_refl _)) S (by omega)) ?_
  rintro _ n5 n6 ⟨fa, T', nF, rfl, hT', hnF, FAx⟩ nd6 g1 g2 g3 g4 g5
  have hsubF : Le T' nF := by obtain ⟨ad, _, X, _⟩ := FAx; exact X.sub
  have f1 : fo ∉ keys ((nl, listOf vs.toArray epn) :: nT) := fun q => hfo (keyT q)
  have f2 : ho ∉ keys ((nl, listOf vs.toArray epn) :: nT) := fun q => hho (.tail _ (keyT q))
  have f3 : le ∉ keys ((nl, listOf vs.toArray epn) :: nT) := fun q => hle' (.tail _ (.tail _ (keyT q)))
  have off : ∀ {a}, a ∉ keys ((nl, listOf vs.toArray epn) :: nT) → a ∈ keys ((le, listOf ([] : List Value).toArray 0) :: (ho, dictOf [] 0) :: (fo, listOf ([] : List Value).toArray 0) :: n4) → a ∉ keys n5 := fun {a} h1 h2 q => by
    obtain ⟨p, hp, e⟩ := List.mem_map.mp q
    rcases g5 p hp with h | h
    · exact h1 (e ▸ h)
    · exact h (by have e : p.1 = a := e; rw [e]; exact h2)
  have m1 := g2 _ (.tail _ (.tail _ (.head _))) f1
  have m2 := g2 _ (.tail _ (.head _)) f2
  have m3 := g2 _ (.head _) f3
  have LX0 : LX w n5 n6 fo ho le [] [] [] 0 := by
    refine ⟨g1, nd6, ⟨[], 0, m1, .nil⟩, ⟨[], ⟨⟨_, m2, isDict_new w⟩, hlow⟩, Nat.le_refl _, fun i => .inl ⟨rfl, fun _ q => nomatch q⟩⟩, ⟨[], 0, m3, .nil⟩, off f1 (.tail _ (.tail _ (.head _))), off f2 (.tail _ (.head _)), off f3 (.head _), fun e => hho (e ▸ .head _), fun e => hle' (e ▸ .tail _ (.head _)), fun e => hle' (e ▸ .head _)⟩
  have s5 : Le ((nl, listOf vs.toArray epn) :: nT) n5 := (hT'.trans hsubF).trans hnF
  have hFI : ∃ ad, FI n5 fa ad ∧ (∀ s a, ad s = some a → ∃ kvs, DictAt w n5 a kvs ∧ ∀ i, RF (PFof Es.flatten Es.flatten) ad s i (valueAt kvs i)) ∧ ∀ l, (∃ a, ad (.inn l) = some a) ↔ ∃ e ∈ Es.flatten, e.lamOf = some l := by
    obtain ⟨ad, F, X, dom⟩ := FAx
    refine ⟨ad, F.mono (hsubF.trans hnF) (fun _ _ => rfl), fun s a ha => ?_, dom⟩
    obtain ⟨kvs, D, _, r⟩ := X.at' s a ha
    exact ⟨kvs, D.mono hnF, r⟩
  clear FAx g1 g2 g3 g4 g5 m1 m2 m3 off f1 f2 f3 nd6 hsubF hnF hT' l4 keyT hfo hho hle' hlow hle hnd T' nF
  refine es_nil ⟨zl (by simp), fun tt5 htt5 => ⟨tt5, _, rfl, .head _, rfl, ?_⟩⟩
  have LX1 := LX0.alloc' (o := tupOf [Value.ref fo, .ref ho, .ref le, .ref fa].toArray) htt5
  clear LX0
  have hA5 := hA2.mono (R' := Tr n5 8 []) fun _ _ t => t.mono (Le.cons.trans s5) (Nat.le_refl _)
  have hlv := hA2.length
  -- the law walks
  refine b_cons (s_each (e_v (by with_unfolding_all rfl) ?_))
  refine ⟨.list nl vs.toArray epn, rfl, LX1.sub _ (s5 _ (.head _)), trivial, fun i l' n' => i ≤ vs.length ∧ (l' 5 = some (.ref fo) ∧ l' 6 = some (.ref ho) ∧ l' 7 = some (.ref le) ∧ l' 8 = some (.ref fa)) ∧ ∃ T, Le n5 T ∧ LX w T n' fo ho le (rowsE (Es.take i).flatten) (bindsE (Es.take i).flatten) (letsE (Es.take i).flatten) (6 * (Es.take i).flatten.length),
    ⟨Nat.zero_le _, ⟨by with_unfolding_all rfl, by with_unfolding_all rfl, by with_unfolding_all rfl, by with_unfolding_all rfl⟩, n5, Le.refl _, LX1⟩, ?_⟩
  rintro i l' n' ⟨hil, ⟨k5, k6, k7, k8⟩, T, hT, X⟩
  refine ⟨X.sub _ (hT _ (s5 _ (.head _))), fun hlt y hy => ?_, fun hie => ?_⟩
  · have hy : vs[i]? = some y := by simpa [Src.item] using hy
    obtain ⟨F, hF, tF⟩ := hA5.at hy
    have hlt2 : i < vs.length := (List.getElem?_eq_some_iff.mp hy).1
    have e1 : Es.take (i + 1) = Es.take i ++ [F] := by rw [List.take_add_one, hF]; rfl
    have e2 : (Es.take i).flatten.length + F.length ≤ Es.flatten.length := by
      have := flat_len_sub (List.take_sublist (i + 1) Es)
      rw [e1, List.flatten_append, List.length_append] at this
      simpa using this
    have q1 := rowsE_len (Es.take i).flatten
    have q2 := letsE_len (Es.take i).flatten
    refine b_cons (s_expr (e_call (e_g (es_cons (e_v (by with_unfolding_all rfl) (es_cons (e_v (show lset 9 y l' 5 = some (.ref fo) from k5) (es_cons (e_tuple (es_nil ⟨zl (by simp), fun ch hch => es_cons (e_v (show lset 9 y l' 6 = some (.ref ho) from k6) (es_cons (e_v (show lset 9 y l' 7 = some (.ref le) from k7) (es_nil ⟨kp_law_walk, ?_⟩))))⟩))))))))))
    have X2 := X.alloc (o := tupOf ([] : List Value).toArray) hch
    have hTT : Le n5 ((ch, tupOf ([] : List Value).toArray) :: T) := hT.trans Le.cons
    have hFm : ∀ f ∈ F, f ∈ Es.flatten := fun f hf => List.mem_flatten.mpr ⟨F, List.mem_of_getElem? hF, hf⟩
    refine (walk_ok 8 42 (tF.mono hTT (Nat.le_refl _)) X2 ⟨[], .head _, .nil⟩ (fun f hf => S.few f (hFm f hf)) (by omega) (by omega) (by omega) (by decide)).mono ?_
    rintro _ n7 ⟨rfl, T7, hT7, X7⟩
    refine ⟨nofun, b_nil ⟨hlt2, ⟨k5, k6, k7, k8⟩, T7, hTT.trans hT7, ?_⟩⟩
    rw [e1, List.flatten_append, rowsE_append, bindsE_append, letsE_append]
    have e3 : [F].flatten = F := by simp
    rw [e3]
    exact X7.same rfl rfl rfl (by rw [List.length_append]; omega)
  have hie : i = vs.length := by simpa [Src.cnt] using hie
  subst hie
  have e1 : Es.take vs.length = Es := List.take_of_length_le (by omega)
  rw [e1] at X
  -- what the law reads from now on
  have Z : Fz w n' fa fo ho le Es.flatten := by
    obtain ⟨gs, ep, a1, a2⟩ := X.fnd
    obtain ⟨kvs, D, _, b3⟩ := X.hom
    refine Fz.mk trivial ?_ ⟨gs, ep, a1, a2.mono fun _ _ r => r.mono X.sub⟩ ⟨kvs, D, b3⟩ X.lts
    obtain ⟨ad, F, r, dom⟩ := hFI
    exact ⟨ad, F.mono (hT.trans X.sub) (fun _ _ => rfl), fun s a ha => let ⟨kvs, D, q⟩ := r s a ha; ⟨kvs, D.mono (hT.trans X.sub), q⟩, dom⟩
  have hcl : ∀ e ∈ Es.flatten, e.c.length ≤ 20 := by
    have : ∀ (vs : List Value) (Es : List (List Ev)), All2 (Tr n5 8 []) vs Es → ∀ e ∈ Es.flatten, e.c.length ≤ 20 := fun vs Es A => by
      induction A with
      | nil => intro e he; exact absurd he List.not_mem_nil
      | cons t _ ih =>
        intro e he
        rw [List.flatten_cons] at he
        rcases List.mem_append.mp he with he | he
        · have := t.chain e he
          simp at this; omega
        · exact ih e he
    exact this _ _ hA5
  refine checks_ok (k := 40) (b := 56) S (by decide) (fun _ h => h) Z (by omega) hcl k5 k6 k7 k8 (fun n8 l8 hn8 => ⟨rfl, hn8 _ (X.sub _ (hT _ (s5 _ (.tail _ hl4))))⟩) rfl
theorem law_ok : LawOk := by
  intro w s₁ l vs ns G hL hI hlen
  obtain ⟨ol, h1, h2, n0, h3⟩ := hL
  refine law_entry (k := 60) G h1 h2 h3 rfl ?_ ?_ (law_main h2 h3 hI hlen)
  · rw [depth_caller]; decide
  · decide
theorem holds : PySem.Challenge.rw_nt0177_01.Holds := holds_by law_ok
end
end Mine
theorem PySem.Challenge.cw_nt0177_01_holds : PySem.Challenge.rw_nt0177_01.Holds := by
  exact Mine.holds
