import PyProof.Rows.All
import Wide.All
import OpenK.AllK
import Wide.FinOn
import PySem.Challenge.RW_nt0280_01
open PySem PySem.W PyProof.Rows PySem.Calls
set_option Elab.async false
set_option maxRecDepth 100000
set_option maxHeartbeats 8000000
set_option linter.unusedVariables false
namespace Mine
section
def keep31 (b : List Stmt) : List Stmt := b.take 1 ++ ((b.drop 2).take 9 ++ ((b.drop 12).take 12 ++ b.drop 25))
noncomputable def view : Program := { PySem.Challenge.pw_nt0280_01 with main := { PySem.Challenge.pw_nt0280_01.main with body := keep31 PySem.Challenge.pw_nt0280_01.main.body } }
theorem left_of_boot {p q : Program} {loose : List Str} {Xt : Shared → Bool} {α : Type} {Yf : Shared → α} {Ya : World → α} {N : Nat} {g0 : Bool} {H₀ : Params → Heap} {gs₀ : Array GenState} {d₀ : Drawn} {k₀ : Nat}
    (open_ : ∀ w : World, (fencedOpening treeTable p w N).map (fun s => (s.heap, s.gens, s.drawn, s.toks)) = some (H₀ w.params, gs₀, d₀, k₀))
    (rest : ∀ (w : World) (os : OsState), (topFrom treeTable p w N ⟨H₀ w.params, gs₀, d₀, k₀, os⟩).map (fun s => (openSeen q loose (importedModules p.main.body) Xt g0 s, Yf s)) = some (openGood q loose, Ya w)) : LeftO p q loose Xt Yf Ya N g0 := fun w => by
  obtain ⟨⟨h, gs, d, k, os⟩, e, e'⟩ := Option.map_eq_some_iff.mp (open_ w)
  obtain ⟨rfl, rfl, rfl, rfl⟩ : h = H₀ w.params ∧ gs = gs₀ ∧ d = d₀ ∧ k = k₀ := by simpa using e'
  unfold openEnds
  rw [e]
  exact rest w os
theorem left_of_two {p q : Program} {loose mods : List Str} {Xt : Shared → Bool} {α : Type} {Yf : Shared → α} {Ya : World → α} {N : Nat} {g0 : Bool} {S : World → OsState → Shared}
    (a : ∀ (w : World) (os : OsState), (topFrom treeTable p w N (S w os)).map (fun s => openSeen q loose mods Xt g0 s) = some (openGood q loose))
    (b : ∀ (w : World) (os : OsState), (topFrom treeTable p w N (S w os)).map Yf = some (Ya w)) (w : World) (os : OsState) :
    (topFrom treeTable p w N (S w os)).map (fun s => (openSeen q loose mods Xt g0 s, Yf s)) = some (openGood q loose, Ya w) := by
  obtain ⟨s, h1, h2⟩ := Option.map_eq_some_iff.mp (a w os)
  have h3 := b w os
  rw [h1] at h3 ⊢
  exact congrArg some (Prod.ext h2 (Option.some.inj h3))
theorem head_said : PySem.W.OpenLaw.wellSaid PySem.Challenge.rw_nt0280_01 = true := by
  (try rw [PySem.W.Fast.te9446332074065402090])
  kernel_rfl
theorem head_open : opening PySem.Challenge.rw_nt0280_01.row.prog = plainProg PySem.Challenge.rw_nt0280_01.row.prog.main.scope.names := by kernel_rfl
theorem head_fence (s : Shared) : fenceModules? PySem.Challenge.rw_nt0280_01.row.prog s = some s := by kernel_rfl
noncomputable def runG (ok : Thread → Bool) (st : SharedT → Thread → Option (SharedT × Thread)) (n : Nat) : SharedT → Thread → Option SharedT :=
  @Nat.rec (fun _ => SharedT → Thread → Option SharedT) (fun _ _ => none) (fun _ ih s t => match through t with
    | true => some s
    | false => match ok t with
      | false => none
      | true => match st s t with
        | some (s', t') => ih s' t'
        | none => none) n
theorem runG_of {tb : String → Option Builtin} {p : Program} {w : World} {n₀ : Nat} {ann : Option Value} : ∀ {n : Nat} {s s' : SharedT} {t : Thread}, runG (stepOk n₀ ann) (stepT (denote tb) p w) n s t = some s' → topRun tb p w n₀ ann n s.abs t = some s'.abs
  | 0, _, _, _, h => by cases h
  | n + 1, s, s', t, h => by
    change (match through t with
      | true => some s
      | false => match stepOk n₀ ann t with
        | false => none
        | true => match stepT (denote tb) p w s t with
          | some (s', t') => runG (stepOk n₀ ann) (stepT (denote tb) p w) n s' t'
          | none => none) = some s' at h
    unfold topRun
    cases he : through t with
    | true => rw [he] at h; cases h; rfl
    | false =>
      rw [he] at h
      cases hk : stepOk n₀ ann t with
      | false => rw [hk] at h; cases h
      | true =>
        rw [hk] at h
        cases hs : stepT (denote tb) p w s t with
        | none => rw [hs] at h; cases h
        | some r => obtain ⟨s₂, t₂⟩ := r; rw [hs] at h; rw [stepT_spec hs]; exact runG_of h
theorem topFrom_of {p : Program} {w : World} {N : Nat} {S0 : Shared} {sT : SharedT} {β : Type} {F : Shared → β} {G : β} (e : S0 = sT.abs)
    (z : (S0.heap.isNs mainGlobals && S0.gens.size == 0) = true)
    (h : (runG (stepOk S0.heap.objs.size (S0.heap.nsMap mainGlobals "__annotations__")) (stepT (denote treeTable) p w) N sT (topStub p)).map (fun s => (staticsOk (importedModules p.main.body) S0.heap s.abs.heap && namesBound p s.abs.heap && gensDone s.abs && laidKept S0.heap s.abs.heap, F s.abs)) = some (true, G)) :
    (topFrom treeTable p w N S0).map F = some G := by
  obtain ⟨s', h1, h2⟩ := Option.map_eq_some_iff.mp h
  obtain ⟨l1, l2⟩ := Prod.mk.inj h2
  have r := runG_of h1
  rw [← e] at r
  unfold topFrom
  rw [z, r]
  show (match staticsOk (importedModules p.main.body) S0.heap s'.abs.heap && namesBound p s'.abs.heap && gensDone s'.abs && laidKept S0.heap s'.abs.heap with | true => some s'.abs | false => none).map F = some G
  rw [l1]
  exact congrArg some l2
noncomputable def growT : List Obj → Nat → BT → BT := fun l => @List.rec Obj (fun _ => Nat → BT → BT) (fun _ t => t) (fun o _ ih n t => ih (n + 1) (t.ins n o)) l
noncomputable def bootS (w : World) (os : OsState) : SharedT := ⟨growT (boot_heap w.params).objs.toList 0 .nil, (boot_heap w.params).objs.size, (boot_heap w.params).life, Array.mk [], boot_drawn, boot_toks, os⟩
theorem boot_abs (w : World) (os : OsState) : (⟨boot_heap w.params, Array.mk [], boot_drawn, boot_toks, os⟩ : Shared) = (bootS w os).abs := by kernel_rfl
theorem boot_size (w : World) (os : OsState) : ((⟨boot_heap w.params, Array.mk [], boot_drawn, boot_toks, os⟩ : Shared).heap.isNs mainGlobals && (⟨boot_heap w.params, Array.mk [], boot_drawn, boot_toks, os⟩ : Shared).gens.size == 0) = true := by kernel_rfl
theorem head_seen (w : World) (os : OsState) : (topFrom treeTable PySem.Challenge.rw_nt0280_01.row.prog w 4250 ⟨boot_heap w.params, Array.mk [], boot_drawn, boot_toks, os⟩).map
    (fun s => openSeen view [PySem.Str.ofString "GitError"] (importedModules PySem.Challenge.rw_nt0280_01.row.prog.main.body) (fun s => xlAt view [] s && recOk (RowW.records PySem.Challenge.rw_nt0280_01.row.toRowW) s) true s) =
    some (openGood view [PySem.Str.ofString "GitError"]) := by
  refine topFrom_of (boot_abs w os) (boot_size w os) ?_
  (try rw [PySem.W.Fast.te10156331382660048174]); (try rw [PySem.W.Fast.te11892475500146522536]); (try rw [PySem.W.Fast.te14364793385576792824]); (try rw [PySem.W.Fast.te6613529449190102663]); (try rw [PySem.W.Fast.te4187177175401517315])
  kernel_rfl
local macro_rules | `(tactic| o_law) => `(tactic| refine holds_law head_said fun said => ?_)
set_option hygiene false in
local macro_rules | `(tactic| o_head $H) => `(tactic| (refine holds_open (r := PySem.Challenge.rw_nt0280_01.row) (q := view) (loose := [PySem.Str.ofString "GitError"]) (Xt := fun s => xlAt view [] s && recOk (RowW.records PySem.Challenge.rw_nt0280_01.row.toRowW) s) (XP := XL view []) (Yf := Hook.obs $H) (Ya := Hook.val $H) (YP := Hook.says $H) (N := 4250) ?hl (Hook.of $H) (Hook.keeps $H) (fun s e => xl_of s (Bool.and_eq_true_iff.mp e).1) XL.keeps (by rfl) (by rfl) (by rfl) (fun s e => recFacts_of (Bool.and_eq_true_iff.mp e).2) (by rfl) (by first | assumption | decide +kernel) (by decide +kernel) ⟨rfl, rfl, rfl, rfl, rfl, by decide +kernel⟩ ?hw ?hc; (case hl => (refine left_of_boot (boot_open head_open (by decide) head_fence) (left_of_two head_seen ?_); intro w os; refine topFrom_of (boot_abs w os) (boot_size w os) ?_; (try rw [PySem.W.Fast.te10156331382660048174]); (try rw [PySem.W.Fast.te11892475500146522536]); (try rw [PySem.W.Fast.te14364793385576792824]); (try rw [PySem.W.Fast.te6613529449190102663]); kernel_rfl))))
open_top hd for PySem.Challenge.rw_nt0280_01
theorem gen_toks {M : Model} {A : Around} {α : Type} {x : Sem α} {Q : α → Shared → Prop} {E : Value → Shared → Prop} {h : Heap} {gs : Array GenState} {d : Drawn} {n : Nat} {os : OsState} (k : ∀ tk : Nat, wpAny M A x Q E ⟨h, gs, d, tk, os⟩) : wpAny M A x Q E ⟨h, gs, d, n + 1, os⟩ := k _

end
local macro_rules | `(tactic| k_allIn) => `(tactic| (intro p hp; first | exact hp | exact List.mem_append_left _ hp | exact List.mem_append_right _ hp | (simp only [List.mem_append, List.mem_cons] at hp ⊢; simp [hp])))
local macro_rules | `(tactic| k_ownIn) => `(tactic| first | exact List.mem_append_right _ (by assumption) | (simp only [List.mem_append, List.mem_cons] at *; simp [*]; done))
local macro_rules | `(tactic| k_ne) => `(tactic| (refine neN ?_; (try dsimp only); first | with_reducible assumption | (with_reducible refine Ne.symm ?_; with_reducible assumption) | (with_reducible exact Nat.ne_of_lt (by assumption)) | (with_reducible exact Nat.ne_of_gt (by assumption)) | omega))
local macro_rules | `(tactic| k_lt $h) => `(tactic| (replace $h := allLt_of $h; (simp only [AllLt, and_true] at $h:ident); repeat ((have hLt9 := And.left $h); (replace $h := And.right $h))))
local macro_rules | `(tactic| walk_at $s:str) => `(tactic| k_extra $s)
section
theorem wordsPlainb : True := by
  w_top off
  k_with_none
  (k_with "exec For Name Subscript cons nil" => (k_here; (rename Fr _ _ _ _ => lF'); (with_unfolding_all refine For_invVF lF' (by exact rfl) (by exact rfl) ?_; k_whole)))
  (k_with "call ref" => (k_here; k_dflt (first | (refine call_meth (by k_asm) (by k_mem) ?_; k_whole; (first | ((first | with_reducible refine code_defO (by k_dflt (exact rfl)) (by k_dflt (exact rfl)) (by k_dflt (first | exact rfl | assumption)) (by k_dflt (k_asm)) (by k_dflt (k_asm)) (by k_dflt (k_asm)) (by k_dflt (k_asm)) (by k_dflt (k_asm)) (by k_dflt (k_is)) (by k_dflt (k_is)) (by k_dflt (ktr_room)) (by k_dflt (first | exact BindsTo.of_eq rfl | exact binds_K (by k_in) rfl (by k_is) rfl rfl rfl)) (by k_dflt (decide)) (by k_dflt (exact locs rfl)) (by k_dflt (exact rfl)) (by k_dflt (exact rfl)) (by k_dflt (exact rfl)) ?_ | refine code_defO (by exact rfl) (by exact rfl) (by first | exact rfl | assumption) (by k_asm) (by k_asm) (by k_asm) (by k_asm) (by k_asm) (by k_is) (by k_is) (by ktr_room) (by first | exact BindsTo.of_eq rfl | exact binds_K (by k_in) rfl (by k_is) rfl rfl rfl) (by decide) (by exact locs rfl) (by exact rfl) (by exact rfl) (by exact rfl) ?_); k_whole; intro g' L' h' FG' F' N' B' X' T'; (try dsimp only); (try k_lift B'); (try k_fold)) | ((first | with_reducible refine code_defCO (by k_dflt (exact rfl)) (by k_dflt (exact rfl)) (by k_dflt (first | exact rfl | assumption)) (by k_dflt (k_asm)) (by k_dflt (k_asm)) (by k_dflt (k_asm)) (by k_dflt (k_asm)) (by k_dflt (k_asm)) (by k_dflt (k_is)) (by k_dflt (k_is)) (by k_dflt (ktr_room)) (by k_dflt (first | exact BindsTo.of_eq rfl | exact binds_K (by k_in) rfl (by k_is) rfl rfl rfl)) (by k_dflt (exact rfl)) (by k_dflt (decide +kernel)) (by k_dflt (exact rfl)) (by k_dflt (exact rfl)) (by k_dflt (exact rfl)) ?_ | refine code_defCO (by exact rfl) (by exact rfl) (by first | exact rfl | assumption) (by k_asm) (by k_asm) (by k_asm) (by k_asm) (by k_asm) (by k_is) (by k_is) (by ktr_room) (by first | exact BindsTo.of_eq rfl | exact binds_K (by k_in) rfl (by k_is) rfl rfl rfl) (by exact rfl) (by decide +kernel) (by exact rfl) (by exact rfl) (by exact rfl) ?_); k_whole; intro g' L' h' tk' cells' FG' F' N' Y' B' X' T' l1; (try k_lt l1); k_cells Y'; (try simp only [List.cons_append, List.nil_append] at N'); (try dsimp only); (try k_lift B'); (try k_fold)))) | ((first | with_reducible refine call_cls (by k_dflt (k_asm)) (by k_dflt (k_asm)) (by k_dflt (k_asm)) (by k_dflt (k_is)) (by k_dflt (k_is)) (by k_dflt (k_is)) ?_ | refine call_cls (by k_asm) (by k_asm) (by k_asm) (by k_is) (by k_is) (by k_is) ?_); k_whole; intro x' d' h' F' N' l1 l2; (try k_lt l1); (try k_lt2 l2); (try k_sweep); (first | ((first | with_reducible refine code_defO (by k_dflt (exact rfl)) (by k_dflt (exact rfl)) (by k_dflt (first | exact rfl | assumption)) (by k_dflt (k_asm)) (by k_dflt (k_asm)) (by k_dflt (k_asm)) (by k_dflt (k_asm)) (by k_dflt (k_asm)) (by k_dflt (k_is)) (by k_dflt (k_is)) (by k_dflt (ktr_room)) (by k_dflt (first | exact BindsTo.of_eq rfl | exact binds_K (by k_in) rfl (by k_is) rfl rfl rfl)) (by k_dflt (decide)) (by k_dflt (exact locs rfl)) (by k_dflt (exact rfl)) (by k_dflt (exact rfl)) (by k_dflt (exact rfl)) ?_ | refine code_defO (by exact rfl) (by exact rfl) (by first | exact rfl | assumption) (by k_asm) (by k_asm) (by k_asm) (by k_asm) (by k_asm) (by k_is) (by k_is) (by ktr_room) (by first | exact BindsTo.of_eq rfl | exact binds_K (by k_in) rfl (by k_is) rfl rfl rfl) (by decide) (by exact locs rfl) (by exact rfl) (by exact rfl) (by exact rfl) ?_); k_whole; intro g' L' h' FG' F' N' B' X' T'; (try dsimp only); (try k_lift B'); (try k_fold)) | ((first | with_reducible refine code_defCO (by k_dflt (exact rfl)) (by k_dflt (exact rfl)) (by k_dflt (first | exact rfl | assumption)) (by k_dflt (k_asm)) (by k_dflt (k_asm)) (by k_dflt (k_asm)) (by k_dflt (k_asm)) (by k_dflt (k_asm)) (by k_dflt (k_is)) (by k_dflt (k_is)) (by k_dflt (ktr_room)) (by k_dflt (first | exact BindsTo.of_eq rfl | exact binds_K (by k_in) rfl (by k_is) rfl rfl rfl)) (by k_dflt (exact rfl)) (by k_dflt (decide +kernel)) (by k_dflt (exact rfl)) (by k_dflt (exact rfl)) (by k_dflt (exact rfl)) ?_ | refine code_defCO (by exact rfl) (by exact rfl) (by first | exact rfl | assumption) (by k_asm) (by k_asm) (by k_asm) (by k_asm) (by k_asm) (by k_is) (by k_is) (by ktr_room) (by first | exact BindsTo.of_eq rfl | exact binds_K (by k_in) rfl (by k_is) rfl rfl rfl) (by exact rfl) (by decide +kernel) (by exact rfl) (by exact rfl) (by exact rfl) ?_); k_whole; intro g' L' h' tk' cells' FG' F' N' Y' B' X' T' l1; (try k_lt l1); k_cells Y'; (try simp only [List.cons_append, List.nil_append] at N'); (try dsimp only); (try k_lift B'); (try k_fold)))) | ((first | with_reducible refine wpAny_call ?_ | refine wpAny_call ?_); (first | ((first | with_reducible refine code_defO (by k_dflt (exact rfl)) (by k_dflt (exact rfl)) (by k_dflt (first | exact rfl | assumption)) (by k_dflt (k_asm)) (by k_dflt (k_asm)) (by k_dflt (k_asm)) (by k_dflt (k_asm)) (by k_dflt (k_asm)) (by k_dflt (k_is)) (by k_dflt (k_is)) (by k_dflt (ktr_room)) (by k_dflt (first | exact BindsTo.of_eq rfl | exact binds_K (by k_in) rfl (by k_is) rfl rfl rfl)) (by k_dflt (decide)) (by k_dflt (exact locs rfl)) (by k_dflt (exact rfl)) (by k_dflt (exact rfl)) (by k_dflt (exact rfl)) ?_ | refine code_defO (by exact rfl) (by exact rfl) (by first | exact rfl | assumption) (by k_asm) (by k_asm) (by k_asm) (by k_asm) (by k_asm) (by k_is) (by k_is) (by ktr_room) (by first | exact BindsTo.of_eq rfl | exact binds_K (by k_in) rfl (by k_is) rfl rfl rfl) (by decide) (by exact locs rfl) (by exact rfl) (by exact rfl) (by exact rfl) ?_); k_whole; intro g' L' h' FG' F' N' B' X' T'; (try dsimp only); (try k_lift B'); (try k_fold)) | ((first | with_reducible refine code_defCO (by k_dflt (exact rfl)) (by k_dflt (exact rfl)) (by k_dflt (first | exact rfl | assumption)) (by k_dflt (k_asm)) (by k_dflt (k_asm)) (by k_dflt (k_asm)) (by k_dflt (k_asm)) (by k_dflt (k_asm)) (by k_dflt (k_is)) (by k_dflt (k_is)) (by k_dflt (ktr_room)) (by k_dflt (first | exact BindsTo.of_eq rfl | exact binds_K (by k_in) rfl (by k_is) rfl rfl rfl)) (by k_dflt (exact rfl)) (by k_dflt (decide +kernel)) (by k_dflt (exact rfl)) (by k_dflt (exact rfl)) (by k_dflt (exact rfl)) ?_ | refine code_defCO (by exact rfl) (by exact rfl) (by first | exact rfl | assumption) (by k_asm) (by k_asm) (by k_asm) (by k_asm) (by k_asm) (by k_is) (by k_is) (by ktr_room) (by first | exact BindsTo.of_eq rfl | exact binds_K (by k_in) rfl (by k_is) rfl rfl rfl) (by exact rfl) (by decide +kernel) (by exact rfl) (by exact rfl) (by exact rfl) ?_); k_whole; intro g' L' h' tk' cells' FG' F' N' Y' B' X' T' l1; (try k_lt l1); k_cells Y'; (try simp only [List.cons_append, List.nil_append] at N'); (try dsimp only); (try k_lift B'); (try k_fold)))))))
  (k_with "execs cons" => (k_here; (with_reducible (refine gen_toks ?_)); intro tk))
  (k_with "execs nil" => (k_here; (with_reducible (refine gen_toks ?_)); intro tk))
  trivial
abbrev PRG : Program := PySem.Challenge.rw_nt0280_01.row.prog
def beV (l : List Int) : Int := l.foldl (fun a k => 256 * a + k) 0
theorem clip_in {n : Nat} {x : Int} (h0 : 0 ≤ x) (h1 : x ≤ n) : clipAt n x = x.toNat := clipAt_in h0 h1
theorem beV_cut {ks : List Int} {i m : Int} (h0 : 0 ≤ i) (h1 : 0 ≤ m) (h2 : i + m ≤ ks.length) :
    List.foldl (fun a' => HAdd.hAdd (256 * a')) 0 (List.take (clipAt ks.length (i + m) - clipAt ks.length i) (List.drop (clipAt ks.length i) ks)) = beV ((ks.drop i.toNat).take m.toNat) := by
  rw [clip_in (x := i + m) (by omega) h2, clip_in (x := i) h0 (by omega)]
  have : (i + m).toNat - i.toNat = m.toNat := by omega
  rw [this]
  rfl
theorem allLt_ne {d : Addr} : ∀ {l : List (Addr × Obj)}, AllLt d l → ∀ p ∈ l, p.1 ≠ d
  | [], _, _, h => nomatch h
  | _ :: _, x, p, h => by
    rcases List.mem_cons.mp h with rfl | h
    · exact Nat.ne_of_lt x.1
    · exact allLt_ne x.2 p h
noncomputable def AllNeB (d : Addr) : List (Addr × Obj) → Prop
  | [] => True
  | p :: l => @Ne Nat p.1 d ∧ AllNeB d l
theorem allNeB_of {d : Addr} : ∀ {l : List (Addr × Obj)}, (∀ p ∈ l, p.1 ≠ d) → AllNeB d l
  | [], _ => trivial
  | _ :: _, h => ⟨h _ (.head _), allNeB_of fun p hp => h p (.tail _ hp)⟩
theorem all_ne_nil {d : Addr} : ∀ p ∈ ([] : List (Addr × Obj)), p.1 ≠ d := fun _ h => nomatch h
theorem all_ne_cons {x d : Addr} {o : Obj} {l : List (Addr × Obj)} (h : @Ne Nat x d) (t : ∀ p ∈ l, p.1 ≠ d) : ∀ p ∈ (x, o) :: l, p.1 ≠ d := fun p hp => by
  rcases List.mem_cons.mp hp with e | hp
  · rw [e]; exact h
  · exact t p hp
theorem all_lt_ne {d e : Addr} {l : List (Addr × Obj)} (h : ∀ p ∈ l, @LT.lt Nat _ p.1 d) (hd : @LE.le Nat _ d e) : ∀ p ∈ l, p.1 ≠ e := fun p hp => Nat.ne_of_lt (Nat.lt_of_lt_of_le (h p hp) hd)
theorem news_tail {h₀ h : Heap} {L : Addr} {x : Addr × Obj} {l : List (Addr × Obj)} (N : News h₀ L h (x :: l)) : News h₀ L h l := fun p hp => N p (.tail _ hp)
theorem news_snd {h₀ h : Heap} {L : Addr} {x y : Addr × Obj} {l : List (Addr × Obj)} (N : News h₀ L h (x :: y :: l)) : News h₀ L h (x :: l) := fun p hp => by
  rcases List.mem_cons.mp hp with rfl | hp
  · exact N _ (.head _)
  · exact N p (.tail _ (.tail _ hp))
def Hold (P : Prop) : Prop := P
theorem hold {P : Prop} (h : Hold P) : P := h
section
variable {prog : Program} {w : World} {A : Around} {E : Value → Shared → Prop} {s : Shared} {h₀ : Heap} {L D : Addr} {m : Str → Option Value} {news : List (Addr × Obj)} {vs : List Value} {n : Nat} {x : Value}
theorem app_K {g : Obj → List (Addr × Obj)} {Q : Value → Shared → Prop} (F : Fr h₀ L s.heap m) (N : News h₀ L s.heap news) (U : UpdF D (listOf vs.toArray n) news g) (hz : vs.length ≤ 16777216)
    (h : ∀ h', Fr h₀ L h' m → News h₀ L h' (g (listOf (vs ++ [x]).toArray (n + 1))) → Q .none { s with heap := h' }) : wpAny (model prog w) A (call (.builtin "list.append") [.ref D, x]) Q E s := by
  obtain ⟨pre, post, rfl, hg, a, b⟩ := U.split
  have z := N (D, listOf vs.toArray n) (List.mem_append.mpr (.inr (.head _)))
  refine append_at (hsz := by rw [List.size_toArray, sizeLine_eq]; exact hz) z.1 fun h' hs ho' => h h' (F.change hs z.2.1 z.2.2) ?_
  rw [hg]
  have e : vs.toArray.push x = (vs ++ [x]).toArray := by simp
  exact e ▸ news_set N a b hs ho'
end
section
variable {prog : Program} {w : World} {A A₀ : Around} {s : Shared} {K : Frag} {L : Addr} {h₀ base : Heap} {m mg mb : Str → Option Value} {news : List (Addr × Obj)} {p : Program} {loose : List Str} {mean : ExcName → Option Value}
  {env : Env} {outer : List Env} {R : Result → Shared → Prop} {name qual : Str} {params : Arguments} {body : List Stmt} {scope : Scope} {dV kV doc pm cdv ct oc : Value} {an od : Option Addr} {osl : Array (Option Value)} {f : Addr} {args : Args} {binds : List (Str × Value)}
theorem code_defO (hA : A.frames = some (env :: outer)) (hf : env.frame = some L) (hke : env.scope.kind = .function)
    (B : Below A₀ base outer h₀) (F : Fr h₀ L s.heap m) (X₀ : K.In h₀) (N : News h₀ L s.heap news) (T : Top p loose mean mg mb h₀)
    (ho : K.lookup f = some ⟨oc, od, .func (fnOf name qual params body scope dV kV doc pm an cdv ct), osl⟩) (hcd : codeIn K cdv qual = true) (hroom : A.depth < recursionLimit)
    (hbind : BindsTo s (fnOf name qual params body scope dV kV doc pm an cdv ct) args binds) (hcell : ∀ x ∈ scope.names, x.2 ≠ .cell) (hloc : ∀ y ∈ binds, scope.names.lookup y.1 = some .local)
    (hco : scope.isCoroutine = false) (hgen : scope.isGenerator = false) (hk : scope.kind = .function)
    (h : ∀ g L' h₁, Fr h₀ L g m → Fr g L' h₁ (fun y => binds.reverse.lookup y) → News g L' h₁ news → Below A base (env :: outer) g → K.In g → Top p loose mean mg mb g →
      wpAny (model prog w) (A.deeper (envOf qual scope L' f cdv)) (execs body (envOf qual scope L' f cdv))
        (fun fl s' => LeaveK h₀ L m g R (match fl with | .ret v => v | _ => .none) s')
        (fun e s' => wpAny (model prog w) (A.deeper (envOf qual scope L' f cdv)) (leaving (envOf qual scope L' f cdv) e) (fun _ s'' => R (.error e) s'') (fun e' s'' => R (.error e') s'') s')
        { s with heap := h₁, toks := s.toks + binds.length }) : codeAny (model prog w) A (.call (.ref f) args) R s :=
  code_def B F X₀ N T hA hf hke ho hcd hroom hbind hloc h hco hgen hk hcell
theorem code_defCO (hA : A.frames = some (env :: outer)) (hf : env.frame = some L) (hke : env.scope.kind = .function)
    (B : Below A₀ base outer h₀) (F : Fr h₀ L s.heap m) (X₀ : K.In h₀) (N : News h₀ L s.heap news) (T : Top p loose mean mg mb h₀)
    (ho : K.lookup f = some ⟨oc, od, .func (fnOf name qual params body scope dV kV doc pm an cdv ct), osl⟩) (hcd : codeIn K cdv qual = true) (hroom : A.depth < recursionLimit)
    (hbind : BindsTo s (fnOf name qual params body scope dV kV doc pm an cdv ct) args binds) (hkind : (binds.all fun y => scope.names.lookup y.1 == some .local || scope.names.lookup y.1 == some .cell) = true)
    (hnd : ((cellsFrom 0 scope.names []).map (·.1)).Nodup)
    (hco : scope.isCoroutine = false) (hgen : scope.isGenerator = false) (hk : scope.kind = .function)
    (h : ∀ g L' h₁ tk cells, Fr h₀ L g m → Fr g L' h₁ (bindL (envOfC qual scope L' f cdv).kindOf binds fun _ => none) → News g L' h₁ (cells ++ news) →
      CellsAre (bindC (envOfC qual scope L' f cdv).kindOf binds fun _ => none) (cellsFrom (L' + 1) scope.names []) cells → Below A base (env :: outer) g → K.In g → Top p loose mean mg mb g → (∀ p ∈ news, p.1 < L') →
      wpAny (model prog w) (A.deeper (envOfC qual scope L' f cdv)) (execs body (envOfC qual scope L' f cdv))
        (fun fl s' => LeaveK h₀ L m g R (match fl with | .ret v => v | _ => .none) s')
        (fun e s' => wpAny (model prog w) (A.deeper (envOfC qual scope L' f cdv)) (leaving (envOfC qual scope L' f cdv) e) (fun _ s'' => R (.error e) s'') (fun e' s'' => R (.error e') s'') s')
        { s with heap := h₁, toks := tk }) : codeAny (model prog w) A (.call (.ref f) args) R s :=
  code_defC B F X₀ N T hA hf hke ho hcd hroom hbind hkind hnd h hco hgen hk
end

end
local macro_rules | `(tactic| k_all) => `(tactic| first | with_reducible assumption | ((repeat ((with_reducible refine all_ne_cons ?_ ?_); (focus k_ne))); first | with_reducible exact all_ne_nil | with_reducible assumption | (with_reducible exact OwnOff.ne (by with_reducible assumption) (by k_memK))) | (with_reducible exact OwnOff.ne (by with_reducible assumption) (by k_memK)) | with_reducible assumption | exact allLt_ne (by with_reducible first | assumption | exact (by assumption : _ ∧ AllLt _ _).2 | exact (by assumption : _ ∧ _ ∧ AllLt _ _).2.2 | exact (by assumption : _ ∧ _ ∧ _ ∧ AllLt _ _).2.2.2 | exact (by assumption : _ ∧ _ ∧ _ ∧ _ ∧ AllLt _ _).2.2.2.2) | exact all_lt_ne (by with_reducible assumption) (by omega))
section
theorem wordsSAbeb : True := by
  w_top off
  k_with_none
  (k_with "exec For Name Subscript cons nil" => (k_here; (rename Fr _ _ _ _ => lF'); (with_unfolding_all refine For_invVF lF' (by exact rfl) (by exact rfl) ?_; k_whole)))
  (k_with "call ref" => (k_here; k_dflt (first | (refine call_meth (by k_asm) (by k_mem) ?_; k_whole; (first | ((first | with_reducible refine code_defO (by k_dflt (exact rfl)) (by k_dflt (exact rfl)) (by k_dflt (first | exact rfl | assumption)) (by k_dflt (k_asm)) (by k_dflt (k_asm)) (by k_dflt (k_asm)) (by k_dflt (k_asm)) (by k_dflt (k_asm)) (by k_dflt (k_is)) (by k_dflt (k_is)) (by k_dflt (ktr_room)) (by k_dflt (first | exact BindsTo.of_eq rfl | exact binds_K (by k_in) rfl (by k_is) rfl rfl rfl)) (by k_dflt (decide)) (by k_dflt (exact locs rfl)) (by k_dflt (exact rfl)) (by k_dflt (exact rfl)) (by k_dflt (exact rfl)) ?_ | refine code_defO (by exact rfl) (by exact rfl) (by first | exact rfl | assumption) (by k_asm) (by k_asm) (by k_asm) (by k_asm) (by k_asm) (by k_is) (by k_is) (by ktr_room) (by first | exact BindsTo.of_eq rfl | exact binds_K (by k_in) rfl (by k_is) rfl rfl rfl) (by decide) (by exact locs rfl) (by exact rfl) (by exact rfl) (by exact rfl) ?_); k_whole; intro g' L' h' FG' F' N' B' X' T'; (try dsimp only); (try k_lift B'); (try k_fold)) | ((first | with_reducible refine code_defCO (by k_dflt (exact rfl)) (by k_dflt (exact rfl)) (by k_dflt (first | exact rfl | assumption)) (by k_dflt (k_asm)) (by k_dflt (k_asm)) (by k_dflt (k_asm)) (by k_dflt (k_asm)) (by k_dflt (k_asm)) (by k_dflt (k_is)) (by k_dflt (k_is)) (by k_dflt (ktr_room)) (by k_dflt (first | exact BindsTo.of_eq rfl | exact binds_K (by k_in) rfl (by k_is) rfl rfl rfl)) (by k_dflt (exact rfl)) (by k_dflt (decide +kernel)) (by k_dflt (exact rfl)) (by k_dflt (exact rfl)) (by k_dflt (exact rfl)) ?_ | refine code_defCO (by exact rfl) (by exact rfl) (by first | exact rfl | assumption) (by k_asm) (by k_asm) (by k_asm) (by k_asm) (by k_asm) (by k_is) (by k_is) (by ktr_room) (by first | exact BindsTo.of_eq rfl | exact binds_K (by k_in) rfl (by k_is) rfl rfl rfl) (by exact rfl) (by decide +kernel) (by exact rfl) (by exact rfl) (by exact rfl) ?_); k_whole; intro g' L' h' tk' cells' FG' F' N' Y' B' X' T' l1; (try k_lt l1); k_cells Y'; (try simp only [List.cons_append, List.nil_append] at N'); (try dsimp only); (try k_lift B'); (try k_fold)))) | ((first | with_reducible refine call_cls (by k_dflt (k_asm)) (by k_dflt (k_asm)) (by k_dflt (k_asm)) (by k_dflt (k_is)) (by k_dflt (k_is)) (by k_dflt (k_is)) ?_ | refine call_cls (by k_asm) (by k_asm) (by k_asm) (by k_is) (by k_is) (by k_is) ?_); k_whole; intro x' d' h' F' N' l1 l2; (try k_lt l1); (try k_lt2 l2); (try k_sweep); (first | ((first | with_reducible refine code_defO (by k_dflt (exact rfl)) (by k_dflt (exact rfl)) (by k_dflt (first | exact rfl | assumption)) (by k_dflt (k_asm)) (by k_dflt (k_asm)) (by k_dflt (k_asm)) (by k_dflt (k_asm)) (by k_dflt (k_asm)) (by k_dflt (k_is)) (by k_dflt (k_is)) (by k_dflt (ktr_room)) (by k_dflt (first | exact BindsTo.of_eq rfl | exact binds_K (by k_in) rfl (by k_is) rfl rfl rfl)) (by k_dflt (decide)) (by k_dflt (exact locs rfl)) (by k_dflt (exact rfl)) (by k_dflt (exact rfl)) (by k_dflt (exact rfl)) ?_ | refine code_defO (by exact rfl) (by exact rfl) (by first | exact rfl | assumption) (by k_asm) (by k_asm) (by k_asm) (by k_asm) (by k_asm) (by k_is) (by k_is) (by ktr_room) (by first | exact BindsTo.of_eq rfl | exact binds_K (by k_in) rfl (by k_is) rfl rfl rfl) (by decide) (by exact locs rfl) (by exact rfl) (by exact rfl) (by exact rfl) ?_); k_whole; intro g' L' h' FG' F' N' B' X' T'; (try dsimp only); (try k_lift B'); (try k_fold)) | ((first | with_reducible refine code_defCO (by k_dflt (exact rfl)) (by k_dflt (exact rfl)) (by k_dflt (first | exact rfl | assumption)) (by k_dflt (k_asm)) (by k_dflt (k_asm)) (by k_dflt (k_asm)) (by k_dflt (k_asm)) (by k_dflt (k_asm)) (by k_dflt (k_is)) (by k_dflt (k_is)) (by k_dflt (ktr_room)) (by k_dflt (first | exact BindsTo.of_eq rfl | exact binds_K (by k_in) rfl (by k_is) rfl rfl rfl)) (by k_dflt (exact rfl)) (by k_dflt (decide +kernel)) (by k_dflt (exact rfl)) (by k_dflt (exact rfl)) (by k_dflt (exact rfl)) ?_ | refine code_defCO (by exact rfl) (by exact rfl) (by first | exact rfl | assumption) (by k_asm) (by k_asm) (by k_asm) (by k_asm) (by k_asm) (by k_is) (by k_is) (by ktr_room) (by first | exact BindsTo.of_eq rfl | exact binds_K (by k_in) rfl (by k_is) rfl rfl rfl) (by exact rfl) (by decide +kernel) (by exact rfl) (by exact rfl) (by exact rfl) ?_); k_whole; intro g' L' h' tk' cells' FG' F' N' Y' B' X' T' l1; (try k_lt l1); k_cells Y'; (try simp only [List.cons_append, List.nil_append] at N'); (try dsimp only); (try k_lift B'); (try k_fold)))) | ((first | with_reducible refine wpAny_call ?_ | refine wpAny_call ?_); (first | ((first | with_reducible refine code_defO (by k_dflt (exact rfl)) (by k_dflt (exact rfl)) (by k_dflt (first | exact rfl | assumption)) (by k_dflt (k_asm)) (by k_dflt (k_asm)) (by k_dflt (k_asm)) (by k_dflt (k_asm)) (by k_dflt (k_asm)) (by k_dflt (k_is)) (by k_dflt (k_is)) (by k_dflt (ktr_room)) (by k_dflt (first | exact BindsTo.of_eq rfl | exact binds_K (by k_in) rfl (by k_is) rfl rfl rfl)) (by k_dflt (decide)) (by k_dflt (exact locs rfl)) (by k_dflt (exact rfl)) (by k_dflt (exact rfl)) (by k_dflt (exact rfl)) ?_ | refine code_defO (by exact rfl) (by exact rfl) (by first | exact rfl | assumption) (by k_asm) (by k_asm) (by k_asm) (by k_asm) (by k_asm) (by k_is) (by k_is) (by ktr_room) (by first | exact BindsTo.of_eq rfl | exact binds_K (by k_in) rfl (by k_is) rfl rfl rfl) (by decide) (by exact locs rfl) (by exact rfl) (by exact rfl) (by exact rfl) ?_); k_whole; intro g' L' h' FG' F' N' B' X' T'; (try dsimp only); (try k_lift B'); (try k_fold)) | ((first | with_reducible refine code_defCO (by k_dflt (exact rfl)) (by k_dflt (exact rfl)) (by k_dflt (first | exact rfl | assumption)) (by k_dflt (k_asm)) (by k_dflt (k_asm)) (by k_dflt (k_asm)) (by k_dflt (k_asm)) (by k_dflt (k_asm)) (by k_dflt (k_is)) (by k_dflt (k_is)) (by k_dflt (ktr_room)) (by k_dflt (first | exact BindsTo.of_eq rfl | exact binds_K (by k_in) rfl (by k_is) rfl rfl rfl)) (by k_dflt (exact rfl)) (by k_dflt (decide +kernel)) (by k_dflt (exact rfl)) (by k_dflt (exact rfl)) (by k_dflt (exact rfl)) ?_ | refine code_defCO (by exact rfl) (by exact rfl) (by first | exact rfl | assumption) (by k_asm) (by k_asm) (by k_asm) (by k_asm) (by k_asm) (by k_is) (by k_is) (by ktr_room) (by first | exact BindsTo.of_eq rfl | exact binds_K (by k_in) rfl (by k_is) rfl rfl rfl) (by exact rfl) (by decide +kernel) (by exact rfl) (by exact rfl) (by exact rfl) ?_); k_whole; intro g' L' h' tk' cells' FG' F' N' Y' B' X' T' l1; (try k_lt l1); k_cells Y'; (try simp only [List.cons_append, List.nil_append] at N'); (try dsimp only); (try k_lift B'); (try k_fold)))))))
  (k_with "execs cons" => (k_here; (with_reducible (refine gen_toks ?_)); intro tk))
  (k_with "execs nil" => (k_here; (with_reducible (refine gen_toks ?_)); intro tk))
  (k_with "call builtin:list.append" => (k_here; k_dflt ((first | with_reducible refine app_K (by k_dflt (k_asm)) (by k_dflt (k_asm)) (by k_dflt (k_updF)) (by k_dflt ((simp only [List.length_append, List.length_cons, List.length_nil]; omega))) ?_ | refine app_K (by k_asm) (by k_asm) (by k_updF) (by (simp only [List.length_append, List.length_cons, List.length_nil]; omega)) ?_)); intro h' F' N'; (try dsimp only at N'); (try dsimp only)))
  trivial
section
variable {w : World} {p : Program} {loose : List Str} {mean : ExcName → Option Value} {mg mb : Str → Option Value}
  {dp un : Nat} {gd : Option (List Code)} {cn : Str} {cs : Scope} {a : Addr} {ccd : Value} {cl : List (Str × Addr)} {outer : List Env} {A₀ : Around} {base h₀ : Heap} {L : Addr} {m : Str → Option Value} {s : Shared} {Q E : Value → Shared → Prop}

theorem abe {news : List (Addr × Obj)} {oct : Array UInt8} {ks : List Int} {tO ta tm : Tok} {at_ many : Int}
    (B : Below A₀ base outer h₀) (F : Fr h₀ L s.heap m) (X : (hd.heap_1 w.params).In h₀) (N : News h₀ L s.heap news) (T : Top p loose mean mg mb h₀) (hk : cs.kind = .function)
    (hd : dp + 1 < recursionLimit) (hu : un + 8 < cLine)
    (hb : KBw.bInts oct = ks) (h0 : 0 ≤ at_) (h1 : 0 ≤ many) (h2 : at_ + many ≤ ks.length) (h3 : ks.length ≤ 100000)
    (ret : ∀ (t : Tok) (h' : Heap) (tk' : Nat), Fr h₀ L h' m → News h₀ L h' news → Q (.int (beV ((ks.drop at_.toNat).take many.toNat)) t) { s with heap := h', toks := tk' }) :
    wpAny (model PySem.Challenge.rw_nt0280_01.row.prog w) (ktrTop dp un gd cn cs L a ccd cl outer) (call (.ref 85) [.bytes oct tO, .int at_ ta, .int many tm]) Q E s := by
  revert X; k_fill; intro X
  refine wpAny_call ?_
  k_dflt cell_enter
  w_strict (k_steps; (all_goals (try k_data)))
  exact cb_retI ret (beV_cut h0 h1 h2) (by k_asm) (by k_asm)
end

end

section
theorem wordsSAb4b : True := by
  w_top off
  k_with_none
  (k_with "exec For Name Subscript cons nil" => (k_here; (rename Fr _ _ _ _ => lF'); (with_unfolding_all refine For_invVF lF' (by exact rfl) (by exact rfl) ?_; k_whole)))
  (k_with "call ref" => (k_here; k_dflt (first | (refine call_meth (by k_asm) (by k_mem) ?_; k_whole; (first | ((first | with_reducible refine code_defO (by k_dflt (exact rfl)) (by k_dflt (exact rfl)) (by k_dflt (first | exact rfl | assumption)) (by k_dflt (k_asm)) (by k_dflt (k_asm)) (by k_dflt (k_asm)) (by k_dflt (k_asm)) (by k_dflt (k_asm)) (by k_dflt (k_is)) (by k_dflt (k_is)) (by k_dflt (ktr_room)) (by k_dflt (first | exact BindsTo.of_eq rfl | exact binds_K (by k_in) rfl (by k_is) rfl rfl rfl)) (by k_dflt (decide)) (by k_dflt (exact locs rfl)) (by k_dflt (exact rfl)) (by k_dflt (exact rfl)) (by k_dflt (exact rfl)) ?_ | refine code_defO (by exact rfl) (by exact rfl) (by first | exact rfl | assumption) (by k_asm) (by k_asm) (by k_asm) (by k_asm) (by k_asm) (by k_is) (by k_is) (by ktr_room) (by first | exact BindsTo.of_eq rfl | exact binds_K (by k_in) rfl (by k_is) rfl rfl rfl) (by decide) (by exact locs rfl) (by exact rfl) (by exact rfl) (by exact rfl) ?_); k_whole; intro g' L' h' FG' F' N' B' X' T'; (try dsimp only); (try k_lift B'); (try k_fold)) | ((first | with_reducible refine code_defCO (by k_dflt (exact rfl)) (by k_dflt (exact rfl)) (by k_dflt (first | exact rfl | assumption)) (by k_dflt (k_asm)) (by k_dflt (k_asm)) (by k_dflt (k_asm)) (by k_dflt (k_asm)) (by k_dflt (k_asm)) (by k_dflt (k_is)) (by k_dflt (k_is)) (by k_dflt (ktr_room)) (by k_dflt (first | exact BindsTo.of_eq rfl | exact binds_K (by k_in) rfl (by k_is) rfl rfl rfl)) (by k_dflt (exact rfl)) (by k_dflt (decide +kernel)) (by k_dflt (exact rfl)) (by k_dflt (exact rfl)) (by k_dflt (exact rfl)) ?_ | refine code_defCO (by exact rfl) (by exact rfl) (by first | exact rfl | assumption) (by k_asm) (by k_asm) (by k_asm) (by k_asm) (by k_asm) (by k_is) (by k_is) (by ktr_room) (by first | exact BindsTo.of_eq rfl | exact binds_K (by k_in) rfl (by k_is) rfl rfl rfl) (by exact rfl) (by decide +kernel) (by exact rfl) (by exact rfl) (by exact rfl) ?_); k_whole; intro g' L' h' tk' cells' FG' F' N' Y' B' X' T' l1; (try k_lt l1); k_cells Y'; (try simp only [List.cons_append, List.nil_append] at N'); (try dsimp only); (try k_lift B'); (try k_fold)))) | ((first | with_reducible refine call_cls (by k_dflt (k_asm)) (by k_dflt (k_asm)) (by k_dflt (k_asm)) (by k_dflt (k_is)) (by k_dflt (k_is)) (by k_dflt (k_is)) ?_ | refine call_cls (by k_asm) (by k_asm) (by k_asm) (by k_is) (by k_is) (by k_is) ?_); k_whole; intro x' d' h' F' N' l1 l2; (try k_lt l1); (try k_lt2 l2); (try k_sweep); (first | ((first | with_reducible refine code_defO (by k_dflt (exact rfl)) (by k_dflt (exact rfl)) (by k_dflt (first | exact rfl | assumption)) (by k_dflt (k_asm)) (by k_dflt (k_asm)) (by k_dflt (k_asm)) (by k_dflt (k_asm)) (by k_dflt (k_asm)) (by k_dflt (k_is)) (by k_dflt (k_is)) (by k_dflt (ktr_room)) (by k_dflt (first | exact BindsTo.of_eq rfl | exact binds_K (by k_in) rfl (by k_is) rfl rfl rfl)) (by k_dflt (decide)) (by k_dflt (exact locs rfl)) (by k_dflt (exact rfl)) (by k_dflt (exact rfl)) (by k_dflt (exact rfl)) ?_ | refine code_defO (by exact rfl) (by exact rfl) (by first | exact rfl | assumption) (by k_asm) (by k_asm) (by k_asm) (by k_asm) (by k_asm) (by k_is) (by k_is) (by ktr_room) (by first | exact BindsTo.of_eq rfl | exact binds_K (by k_in) rfl (by k_is) rfl rfl rfl) (by decide) (by exact locs rfl) (by exact rfl) (by exact rfl) (by exact rfl) ?_); k_whole; intro g' L' h' FG' F' N' B' X' T'; (try dsimp only); (try k_lift B'); (try k_fold)) | ((first | with_reducible refine code_defCO (by k_dflt (exact rfl)) (by k_dflt (exact rfl)) (by k_dflt (first | exact rfl | assumption)) (by k_dflt (k_asm)) (by k_dflt (k_asm)) (by k_dflt (k_asm)) (by k_dflt (k_asm)) (by k_dflt (k_asm)) (by k_dflt (k_is)) (by k_dflt (k_is)) (by k_dflt (ktr_room)) (by k_dflt (first | exact BindsTo.of_eq rfl | exact binds_K (by k_in) rfl (by k_is) rfl rfl rfl)) (by k_dflt (exact rfl)) (by k_dflt (decide +kernel)) (by k_dflt (exact rfl)) (by k_dflt (exact rfl)) (by k_dflt (exact rfl)) ?_ | refine code_defCO (by exact rfl) (by exact rfl) (by first | exact rfl | assumption) (by k_asm) (by k_asm) (by k_asm) (by k_asm) (by k_asm) (by k_is) (by k_is) (by ktr_room) (by first | exact BindsTo.of_eq rfl | exact binds_K (by k_in) rfl (by k_is) rfl rfl rfl) (by exact rfl) (by decide +kernel) (by exact rfl) (by exact rfl) (by exact rfl) ?_); k_whole; intro g' L' h' tk' cells' FG' F' N' Y' B' X' T' l1; (try k_lt l1); k_cells Y'; (try simp only [List.cons_append, List.nil_append] at N'); (try dsimp only); (try k_lift B'); (try k_fold)))) | ((first | with_reducible refine wpAny_call ?_ | refine wpAny_call ?_); (first | ((first | with_reducible refine code_defO (by k_dflt (exact rfl)) (by k_dflt (exact rfl)) (by k_dflt (first | exact rfl | assumption)) (by k_dflt (k_asm)) (by k_dflt (k_asm)) (by k_dflt (k_asm)) (by k_dflt (k_asm)) (by k_dflt (k_asm)) (by k_dflt (k_is)) (by k_dflt (k_is)) (by k_dflt (ktr_room)) (by k_dflt (first | exact BindsTo.of_eq rfl | exact binds_K (by k_in) rfl (by k_is) rfl rfl rfl)) (by k_dflt (decide)) (by k_dflt (exact locs rfl)) (by k_dflt (exact rfl)) (by k_dflt (exact rfl)) (by k_dflt (exact rfl)) ?_ | refine code_defO (by exact rfl) (by exact rfl) (by first | exact rfl | assumption) (by k_asm) (by k_asm) (by k_asm) (by k_asm) (by k_asm) (by k_is) (by k_is) (by ktr_room) (by first | exact BindsTo.of_eq rfl | exact binds_K (by k_in) rfl (by k_is) rfl rfl rfl) (by decide) (by exact locs rfl) (by exact rfl) (by exact rfl) (by exact rfl) ?_); k_whole; intro g' L' h' FG' F' N' B' X' T'; (try dsimp only); (try k_lift B'); (try k_fold)) | ((first | with_reducible refine code_defCO (by k_dflt (exact rfl)) (by k_dflt (exact rfl)) (by k_dflt (first | exact rfl | assumption)) (by k_dflt (k_asm)) (by k_dflt (k_asm)) (by k_dflt (k_asm)) (by k_dflt (k_asm)) (by k_dflt (k_asm)) (by k_dflt (k_is)) (by k_dflt (k_is)) (by k_dflt (ktr_room)) (by k_dflt (first | exact BindsTo.of_eq rfl | exact binds_K (by k_in) rfl (by k_is) rfl rfl rfl)) (by k_dflt (exact rfl)) (by k_dflt (decide +kernel)) (by k_dflt (exact rfl)) (by k_dflt (exact rfl)) (by k_dflt (exact rfl)) ?_ | refine code_defCO (by exact rfl) (by exact rfl) (by first | exact rfl | assumption) (by k_asm) (by k_asm) (by k_asm) (by k_asm) (by k_asm) (by k_is) (by k_is) (by ktr_room) (by first | exact BindsTo.of_eq rfl | exact binds_K (by k_in) rfl (by k_is) rfl rfl rfl) (by exact rfl) (by decide +kernel) (by exact rfl) (by exact rfl) (by exact rfl) ?_); k_whole; intro g' L' h' tk' cells' FG' F' N' Y' B' X' T' l1; (try k_lt l1); k_cells Y'; (try simp only [List.cons_append, List.nil_append] at N'); (try dsimp only); (try k_lift B'); (try k_fold)))))))
  (k_with "execs cons" => (k_here; (with_reducible (refine gen_toks ?_)); intro tk))
  (k_with "execs nil" => (k_here; (with_reducible (refine gen_toks ?_)); intro tk))
  (k_with "call builtin:list.append" => (k_here; k_dflt ((first | with_reducible refine app_K (by k_dflt (k_asm)) (by k_dflt (k_asm)) (by k_dflt (k_updF)) (by k_dflt ((simp only [List.length_append, List.length_cons, List.length_nil]; omega))) ?_ | refine app_K (by k_asm) (by k_asm) (by k_updF) (by (simp only [List.length_append, List.length_cons, List.length_nil]; omega)) ?_)); intro h' F' N'; (try dsimp only at N'); (try dsimp only)))
  (k_with "call ref" => (k_here; k_dflt (((with_reducible show wpAny _ _ (call (Value.ref 85) _) _ _ _); first | with_reducible refine abe (by k_dflt (k_asm)) (by k_dflt (k_asm)) (by k_dflt (k_asm)) (by k_dflt (k_asm)) (by k_dflt (k_asm)) (by k_dflt (first | exact rfl | assumption)) (by k_dflt (ktr_room)) (by k_dflt (ktr_units)) (by k_dflt (assumption)) (by k_dflt (omega)) (by k_dflt (omega)) (by k_dflt (omega)) (by k_dflt (omega)) ?_ | refine abe (by k_asm) (by k_asm) (by k_asm) (by k_asm) (by k_asm) (by first | exact rfl | assumption) (by ktr_room) (by ktr_units) (by assumption) (by omega) (by omega) (by omega) (by omega) ?_); k_whole); intro t9 h9 tk9 F9 N9; (try dsimp only); (try k_fold)))
  trivial
section
variable {w : World} {p : Program} {loose : List Str} {mean : ExcName → Option Value} {mg mb : Str → Option Value}
  {dp un : Nat} {gd : Option (List Code)} {cn : Str} {cs : Scope} {a : Addr} {ccd : Value} {cl : List (Str × Addr)} {outer : List Env} {A₀ : Around} {base h₀ : Heap} {L : Addr} {m : Str → Option Value} {s : Shared} {Q E : Value → Shared → Prop}

theorem abe4 {news : List (Addr × Obj)} {oct : Array UInt8} {ks : List Int} {tO ta : Tok} {at_ : Int}
    (B : Below A₀ base outer h₀) (F : Fr h₀ L s.heap m) (X : (hd.heap_1 w.params).In h₀) (N : News h₀ L s.heap news) (T : Top p loose mean mg mb h₀) (hk : cs.kind = .function)
    (hd : dp + 2 < recursionLimit) (hu : un + 16 < cLine)
    (hb : KBw.bInts oct = ks) (h0 : 0 ≤ at_) (h2 : at_ + 4 ≤ ks.length) (h3 : ks.length ≤ 100000)
    (ret : ∀ (t : Tok) (h' : Heap) (tk' : Nat), Fr h₀ L h' m → News h₀ L h' news → Q (.int (beV ((ks.drop at_.toNat).take 4)) t) { s with heap := h', toks := tk' }) :
    wpAny (model PySem.Challenge.rw_nt0280_01.row.prog w) (ktrTop dp un gd cn cs L a ccd cl outer) (call (.ref 92) [.bytes oct tO, .int at_ ta]) Q E s := by
  revert X; k_fill; intro X
  refine wpAny_call ?_
  k_dflt cell_enter
  w_strict (k_steps; (all_goals (try k_data)))
  exact cb_retI ret rfl (by k_asm) (by k_asm)
theorem abe8 {news : List (Addr × Obj)} {oct : Array UInt8} {ks : List Int} {tO ta : Tok} {at_ : Int}
    (B : Below A₀ base outer h₀) (F : Fr h₀ L s.heap m) (X : (hd.heap_1 w.params).In h₀) (N : News h₀ L s.heap news) (T : Top p loose mean mg mb h₀) (hk : cs.kind = .function)
    (hd : dp + 2 < recursionLimit) (hu : un + 16 < cLine)
    (hb : KBw.bInts oct = ks) (h0 : 0 ≤ at_) (h2 : at_ + 8 ≤ ks.length) (h3 : ks.length ≤ 100000)
    (ret : ∀ (t : Tok) (h' : Heap) (tk' : Nat), Fr h₀ L h' m → News h₀ L h' news → Q (.int (beV ((ks.drop at_.toNat).take 8)) t) { s with heap := h', toks := tk' }) :
    wpAny (model PySem.Challenge.rw_nt0280_01.row.prog w) (ktrTop dp un gd cn cs L a ccd cl outer) (call (.ref 99) [.bytes oct tO, .int at_ ta]) Q E s := by
  revert X; k_fill; intro X
  refine wpAny_call ?_
  k_dflt cell_enter
  w_strict (k_steps; (all_goals (try k_data)))
  exact cb_retI ret rfl (by k_asm) (by k_asm)
end

end

section
theorem wordsBytesRb : True := by
  w_top off
  k_with_none
  (k_with "exec For Name Subscript cons nil" => (k_here; (rename Fr _ _ _ _ => lF'); (with_unfolding_all refine For_invVF lF' (by exact rfl) (by exact rfl) ?_; k_whole)))
  (k_with "call ref" => (k_here; k_dflt (first | (refine call_meth (by k_asm) (by k_mem) ?_; k_whole; (first | ((first | with_reducible refine code_defO (by k_dflt (exact rfl)) (by k_dflt (exact rfl)) (by k_dflt (first | exact rfl | assumption)) (by k_dflt (k_asm)) (by k_dflt (k_asm)) (by k_dflt (k_asm)) (by k_dflt (k_asm)) (by k_dflt (k_asm)) (by k_dflt (k_is)) (by k_dflt (k_is)) (by k_dflt (ktr_room)) (by k_dflt (first | exact BindsTo.of_eq rfl | exact binds_K (by k_in) rfl (by k_is) rfl rfl rfl)) (by k_dflt (decide)) (by k_dflt (exact locs rfl)) (by k_dflt (exact rfl)) (by k_dflt (exact rfl)) (by k_dflt (exact rfl)) ?_ | refine code_defO (by exact rfl) (by exact rfl) (by first | exact rfl | assumption) (by k_asm) (by k_asm) (by k_asm) (by k_asm) (by k_asm) (by k_is) (by k_is) (by ktr_room) (by first | exact BindsTo.of_eq rfl | exact binds_K (by k_in) rfl (by k_is) rfl rfl rfl) (by decide) (by exact locs rfl) (by exact rfl) (by exact rfl) (by exact rfl) ?_); k_whole; intro g' L' h' FG' F' N' B' X' T'; (try dsimp only); (try k_lift B'); (try k_fold)) | ((first | with_reducible refine code_defCO (by k_dflt (exact rfl)) (by k_dflt (exact rfl)) (by k_dflt (first | exact rfl | assumption)) (by k_dflt (k_asm)) (by k_dflt (k_asm)) (by k_dflt (k_asm)) (by k_dflt (k_asm)) (by k_dflt (k_asm)) (by k_dflt (k_is)) (by k_dflt (k_is)) (by k_dflt (ktr_room)) (by k_dflt (first | exact BindsTo.of_eq rfl | exact binds_K (by k_in) rfl (by k_is) rfl rfl rfl)) (by k_dflt (exact rfl)) (by k_dflt (decide +kernel)) (by k_dflt (exact rfl)) (by k_dflt (exact rfl)) (by k_dflt (exact rfl)) ?_ | refine code_defCO (by exact rfl) (by exact rfl) (by first | exact rfl | assumption) (by k_asm) (by k_asm) (by k_asm) (by k_asm) (by k_asm) (by k_is) (by k_is) (by ktr_room) (by first | exact BindsTo.of_eq rfl | exact binds_K (by k_in) rfl (by k_is) rfl rfl rfl) (by exact rfl) (by decide +kernel) (by exact rfl) (by exact rfl) (by exact rfl) ?_); k_whole; intro g' L' h' tk' cells' FG' F' N' Y' B' X' T' l1; (try k_lt l1); k_cells Y'; (try simp only [List.cons_append, List.nil_append] at N'); (try dsimp only); (try k_lift B'); (try k_fold)))) | ((first | with_reducible refine call_cls (by k_dflt (k_asm)) (by k_dflt (k_asm)) (by k_dflt (k_asm)) (by k_dflt (k_is)) (by k_dflt (k_is)) (by k_dflt (k_is)) ?_ | refine call_cls (by k_asm) (by k_asm) (by k_asm) (by k_is) (by k_is) (by k_is) ?_); k_whole; intro x' d' h' F' N' l1 l2; (try k_lt l1); (try k_lt2 l2); (try k_sweep); (first | ((first | with_reducible refine code_defO (by k_dflt (exact rfl)) (by k_dflt (exact rfl)) (by k_dflt (first | exact rfl | assumption)) (by k_dflt (k_asm)) (by k_dflt (k_asm)) (by k_dflt (k_asm)) (by k_dflt (k_asm)) (by k_dflt (k_asm)) (by k_dflt (k_is)) (by k_dflt (k_is)) (by k_dflt (ktr_room)) (by k_dflt (first | exact BindsTo.of_eq rfl | exact binds_K (by k_in) rfl (by k_is) rfl rfl rfl)) (by k_dflt (decide)) (by k_dflt (exact locs rfl)) (by k_dflt (exact rfl)) (by k_dflt (exact rfl)) (by k_dflt (exact rfl)) ?_ | refine code_defO (by exact rfl) (by exact rfl) (by first | exact rfl | assumption) (by k_asm) (by k_asm) (by k_asm) (by k_asm) (by k_asm) (by k_is) (by k_is) (by ktr_room) (by first | exact BindsTo.of_eq rfl | exact binds_K (by k_in) rfl (by k_is) rfl rfl rfl) (by decide) (by exact locs rfl) (by exact rfl) (by exact rfl) (by exact rfl) ?_); k_whole; intro g' L' h' FG' F' N' B' X' T'; (try dsimp only); (try k_lift B'); (try k_fold)) | ((first | with_reducible refine code_defCO (by k_dflt (exact rfl)) (by k_dflt (exact rfl)) (by k_dflt (first | exact rfl | assumption)) (by k_dflt (k_asm)) (by k_dflt (k_asm)) (by k_dflt (k_asm)) (by k_dflt (k_asm)) (by k_dflt (k_asm)) (by k_dflt (k_is)) (by k_dflt (k_is)) (by k_dflt (ktr_room)) (by k_dflt (first | exact BindsTo.of_eq rfl | exact binds_K (by k_in) rfl (by k_is) rfl rfl rfl)) (by k_dflt (exact rfl)) (by k_dflt (decide +kernel)) (by k_dflt (exact rfl)) (by k_dflt (exact rfl)) (by k_dflt (exact rfl)) ?_ | refine code_defCO (by exact rfl) (by exact rfl) (by first | exact rfl | assumption) (by k_asm) (by k_asm) (by k_asm) (by k_asm) (by k_asm) (by k_is) (by k_is) (by ktr_room) (by first | exact BindsTo.of_eq rfl | exact binds_K (by k_in) rfl (by k_is) rfl rfl rfl) (by exact rfl) (by decide +kernel) (by exact rfl) (by exact rfl) (by exact rfl) ?_); k_whole; intro g' L' h' tk' cells' FG' F' N' Y' B' X' T' l1; (try k_lt l1); k_cells Y'; (try simp only [List.cons_append, List.nil_append] at N'); (try dsimp only); (try k_lift B'); (try k_fold)))) | ((first | with_reducible refine wpAny_call ?_ | refine wpAny_call ?_); (first | ((first | with_reducible refine code_defO (by k_dflt (exact rfl)) (by k_dflt (exact rfl)) (by k_dflt (first | exact rfl | assumption)) (by k_dflt (k_asm)) (by k_dflt (k_asm)) (by k_dflt (k_asm)) (by k_dflt (k_asm)) (by k_dflt (k_asm)) (by k_dflt (k_is)) (by k_dflt (k_is)) (by k_dflt (ktr_room)) (by k_dflt (first | exact BindsTo.of_eq rfl | exact binds_K (by k_in) rfl (by k_is) rfl rfl rfl)) (by k_dflt (decide)) (by k_dflt (exact locs rfl)) (by k_dflt (exact rfl)) (by k_dflt (exact rfl)) (by k_dflt (exact rfl)) ?_ | refine code_defO (by exact rfl) (by exact rfl) (by first | exact rfl | assumption) (by k_asm) (by k_asm) (by k_asm) (by k_asm) (by k_asm) (by k_is) (by k_is) (by ktr_room) (by first | exact BindsTo.of_eq rfl | exact binds_K (by k_in) rfl (by k_is) rfl rfl rfl) (by decide) (by exact locs rfl) (by exact rfl) (by exact rfl) (by exact rfl) ?_); k_whole; intro g' L' h' FG' F' N' B' X' T'; (try dsimp only); (try k_lift B'); (try k_fold)) | ((first | with_reducible refine code_defCO (by k_dflt (exact rfl)) (by k_dflt (exact rfl)) (by k_dflt (first | exact rfl | assumption)) (by k_dflt (k_asm)) (by k_dflt (k_asm)) (by k_dflt (k_asm)) (by k_dflt (k_asm)) (by k_dflt (k_asm)) (by k_dflt (k_is)) (by k_dflt (k_is)) (by k_dflt (ktr_room)) (by k_dflt (first | exact BindsTo.of_eq rfl | exact binds_K (by k_in) rfl (by k_is) rfl rfl rfl)) (by k_dflt (exact rfl)) (by k_dflt (decide +kernel)) (by k_dflt (exact rfl)) (by k_dflt (exact rfl)) (by k_dflt (exact rfl)) ?_ | refine code_defCO (by exact rfl) (by exact rfl) (by first | exact rfl | assumption) (by k_asm) (by k_asm) (by k_asm) (by k_asm) (by k_asm) (by k_is) (by k_is) (by ktr_room) (by first | exact BindsTo.of_eq rfl | exact binds_K (by k_in) rfl (by k_is) rfl rfl rfl) (by exact rfl) (by decide +kernel) (by exact rfl) (by exact rfl) (by exact rfl) ?_); k_whole; intro g' L' h' tk' cells' FG' F' N' Y' B' X' T' l1; (try k_lt l1); k_cells Y'; (try simp only [List.cons_append, List.nil_append] at N'); (try dsimp only); (try k_lift B'); (try k_fold)))))))
  (k_with "execs cons" => (k_here; (with_reducible (refine gen_toks ?_)); intro tk))
  (k_with "execs nil" => (k_here; (with_reducible (refine gen_toks ?_)); intro tk))
  trivial
theorem slot_blt : Slot "bytes" (cmpInfo .Lt).2.1 "bytes.__lt__" :=
  .of (owner := "bytes") (n := "__lt__") (by rw [typeLookup_type, builtinLookup_eq_fast]; kernel_rfl) (by decide +kernel) (by decide +kernel) (by decide +kernel)
    (by first | exact .inl (by decide +kernel) | exact .inr (by decide +kernel)) (by rw [isSubtype_type]; kernel_rfl)
theorem entry_blt : entryFor table "bytes.__lt__" = some Builtin.«bytes.__lt__» := entryFor_of_tree (by kernel_rfl)
theorem args_blt (a b : Value) : argsOk "bytes.__lt__" ⟨[a, b], []⟩ := by
  unfold argsOk; rw [signature?_of (id := "bytes.__lt__") (n := ['_', '_', 't', 'l', '_', '_']) (o := ['s', 'e', 't', 'y', 'b']) (by kernel_rfl) FB.owner_bytes]; kernel_rfl
theorem slot_ble : Slot "bytes" (cmpInfo .LtE).2.1 "bytes.__le__" :=
  .of (owner := "bytes") (n := "__le__") (by rw [typeLookup_type, builtinLookup_eq_fast]; kernel_rfl) (by decide +kernel) (by decide +kernel) (by decide +kernel)
    (by first | exact .inl (by decide +kernel) | exact .inr (by decide +kernel)) (by rw [isSubtype_type]; kernel_rfl)
theorem entry_ble : entryFor table "bytes.__le__" = some Builtin.«bytes.__le__» := entryFor_of_tree (by kernel_rfl)
theorem args_ble (a b : Value) : argsOk "bytes.__le__" ⟨[a, b], []⟩ := by
  unfold argsOk; rw [signature?_of (id := "bytes.__le__") (n := ['_', '_', 'e', 'l', '_', '_']) (o := ['s', 'e', 't', 'y', 'b']) (by kernel_rfl) FB.owner_bytes]; kernel_rfl
theorem gives_blt (b c : Array UInt8) (t u : Tok) : Gives (Builtin.«bytes.__lt__» ⟨[.bytes b t, .bytes c u], []⟩) (.val (.bool (Builtin.Bytes.order b.toList c.toList == .lt))) := by
  refine .of_wp fun M A E s Q hq => ?_
  show wpAny M A (isInstance (.bytes c u) (.type "bytes") >>= fun r => _) _ E s
  refine wpAny_bind (wpAny_isInstance (typeIs_bytes s c u) F.sub_bytes_bytes ?_)
  exact wpAny_pure ⟨_, rfl, hq⟩
theorem gives_ble (b c : Array UInt8) (t u : Tok) : Gives (Builtin.«bytes.__le__» ⟨[.bytes b t, .bytes c u], []⟩) (.val (.bool (Builtin.Bytes.order b.toList c.toList != .gt))) := by
  refine .of_wp fun M A E s Q hq => ?_
  show wpAny M A (isInstance (.bytes c u) (.type "bytes") >>= fun r => _) _ E s
  refine wpAny_bind (wpAny_isInstance (typeIs_bytes s c u) F.sub_bytes_bytes ?_)
  exact wpAny_pure ⟨_, rfl, hq⟩
section
variable {prog : Program} {w : World} {A : Around} {E : Value → Shared → Prop} {s : Shared} {b c : Array UInt8} {t u : Tok}
theorem lt_bytes {Q : Value → Shared → Prop} (h : Q (.bool (Builtin.Bytes.order b.toList c.toList == .lt)) s) : wpAny (model prog w) A (compareOp .Lt (.bytes b t) (.bytes c u)) Q E s :=
  compareOp_gives (op := .Lt) (typeIs_bytes s b t) (typeIs_bytes s c u) slot_blt entry_blt (args_blt _ _) (gives_blt b c t u) (fun e => nomatch e) h
theorem le_bytes {Q : Value → Shared → Prop} (h : Q (.bool (Builtin.Bytes.order b.toList c.toList != .gt)) s) : wpAny (model prog w) A (compareOp .LtE (.bytes b t) (.bytes c u)) Q E s :=
  compareOp_gives (op := .LtE) (typeIs_bytes s b t) (typeIs_bytes s c u) slot_ble entry_ble (args_ble _ _) (gives_ble b c t u) (fun e => nomatch e) h
end
theorem bInts_inj {a b : Array UInt8} (h : KBw.bInts a = KBw.bInts b) : a = b := by
  apply Array.toList_inj.mp
  unfold KBw.bInts at h
  have key : ∀ l l' : List UInt8, (l.map fun c => ((c.toNat : Nat) : Int)) = l'.map (fun c => ((c.toNat : Nat) : Int)) → l = l' := by
    intro l
    induction l with
    | nil => intro l' h; cases l' with
      | nil => rfl
      | cons _ _ => simp at h
    | cons x l ih => intro l' h; cases l' with
      | nil => simp at h
      | cons y l' =>
        simp only [List.map_cons, List.cons.injEq] at h
        obtain ⟨h1, h2⟩ := h
        have hx : x = y := UInt8.toNat_inj.mp (by omega)
        rw [hx, ih l' h2]
  exact key _ _ h

end

section
theorem wordsDictRb : True := by
  w_top off
  k_with_none
  (k_with "exec For Name Subscript cons nil" => (k_here; (rename Fr _ _ _ _ => lF'); (with_unfolding_all refine For_invVF lF' (by exact rfl) (by exact rfl) ?_; k_whole)))
  (k_with "call ref" => (k_here; k_dflt (first | (refine call_meth (by k_asm) (by k_mem) ?_; k_whole; (first | ((first | with_reducible refine code_defO (by k_dflt (exact rfl)) (by k_dflt (exact rfl)) (by k_dflt (first | exact rfl | assumption)) (by k_dflt (k_asm)) (by k_dflt (k_asm)) (by k_dflt (k_asm)) (by k_dflt (k_asm)) (by k_dflt (k_asm)) (by k_dflt (k_is)) (by k_dflt (k_is)) (by k_dflt (ktr_room)) (by k_dflt (first | exact BindsTo.of_eq rfl | exact binds_K (by k_in) rfl (by k_is) rfl rfl rfl)) (by k_dflt (decide)) (by k_dflt (exact locs rfl)) (by k_dflt (exact rfl)) (by k_dflt (exact rfl)) (by k_dflt (exact rfl)) ?_ | refine code_defO (by exact rfl) (by exact rfl) (by first | exact rfl | assumption) (by k_asm) (by k_asm) (by k_asm) (by k_asm) (by k_asm) (by k_is) (by k_is) (by ktr_room) (by first | exact BindsTo.of_eq rfl | exact binds_K (by k_in) rfl (by k_is) rfl rfl rfl) (by decide) (by exact locs rfl) (by exact rfl) (by exact rfl) (by exact rfl) ?_); k_whole; intro g' L' h' FG' F' N' B' X' T'; (try dsimp only); (try k_lift B'); (try k_fold)) | ((first | with_reducible refine code_defCO (by k_dflt (exact rfl)) (by k_dflt (exact rfl)) (by k_dflt (first | exact rfl | assumption)) (by k_dflt (k_asm)) (by k_dflt (k_asm)) (by k_dflt (k_asm)) (by k_dflt (k_asm)) (by k_dflt (k_asm)) (by k_dflt (k_is)) (by k_dflt (k_is)) (by k_dflt (ktr_room)) (by k_dflt (first | exact BindsTo.of_eq rfl | exact binds_K (by k_in) rfl (by k_is) rfl rfl rfl)) (by k_dflt (exact rfl)) (by k_dflt (decide +kernel)) (by k_dflt (exact rfl)) (by k_dflt (exact rfl)) (by k_dflt (exact rfl)) ?_ | refine code_defCO (by exact rfl) (by exact rfl) (by first | exact rfl | assumption) (by k_asm) (by k_asm) (by k_asm) (by k_asm) (by k_asm) (by k_is) (by k_is) (by ktr_room) (by first | exact BindsTo.of_eq rfl | exact binds_K (by k_in) rfl (by k_is) rfl rfl rfl) (by exact rfl) (by decide +kernel) (by exact rfl) (by exact rfl) (by exact rfl) ?_); k_whole; intro g' L' h' tk' cells' FG' F' N' Y' B' X' T' l1; (try k_lt l1); k_cells Y'; (try simp only [List.cons_append, List.nil_append] at N'); (try dsimp only); (try k_lift B'); (try k_fold)))) | ((first | with_reducible refine call_cls (by k_dflt (k_asm)) (by k_dflt (k_asm)) (by k_dflt (k_asm)) (by k_dflt (k_is)) (by k_dflt (k_is)) (by k_dflt (k_is)) ?_ | refine call_cls (by k_asm) (by k_asm) (by k_asm) (by k_is) (by k_is) (by k_is) ?_); k_whole; intro x' d' h' F' N' l1 l2; (try k_lt l1); (try k_lt2 l2); (try k_sweep); (first | ((first | with_reducible refine code_defO (by k_dflt (exact rfl)) (by k_dflt (exact rfl)) (by k_dflt (first | exact rfl | assumption)) (by k_dflt (k_asm)) (by k_dflt (k_asm)) (by k_dflt (k_asm)) (by k_dflt (k_asm)) (by k_dflt (k_asm)) (by k_dflt (k_is)) (by k_dflt (k_is)) (by k_dflt (ktr_room)) (by k_dflt (first | exact BindsTo.of_eq rfl | exact binds_K (by k_in) rfl (by k_is) rfl rfl rfl)) (by k_dflt (decide)) (by k_dflt (exact locs rfl)) (by k_dflt (exact rfl)) (by k_dflt (exact rfl)) (by k_dflt (exact rfl)) ?_ | refine code_defO (by exact rfl) (by exact rfl) (by first | exact rfl | assumption) (by k_asm) (by k_asm) (by k_asm) (by k_asm) (by k_asm) (by k_is) (by k_is) (by ktr_room) (by first | exact BindsTo.of_eq rfl | exact binds_K (by k_in) rfl (by k_is) rfl rfl rfl) (by decide) (by exact locs rfl) (by exact rfl) (by exact rfl) (by exact rfl) ?_); k_whole; intro g' L' h' FG' F' N' B' X' T'; (try dsimp only); (try k_lift B'); (try k_fold)) | ((first | with_reducible refine code_defCO (by k_dflt (exact rfl)) (by k_dflt (exact rfl)) (by k_dflt (first | exact rfl | assumption)) (by k_dflt (k_asm)) (by k_dflt (k_asm)) (by k_dflt (k_asm)) (by k_dflt (k_asm)) (by k_dflt (k_asm)) (by k_dflt (k_is)) (by k_dflt (k_is)) (by k_dflt (ktr_room)) (by k_dflt (first | exact BindsTo.of_eq rfl | exact binds_K (by k_in) rfl (by k_is) rfl rfl rfl)) (by k_dflt (exact rfl)) (by k_dflt (decide +kernel)) (by k_dflt (exact rfl)) (by k_dflt (exact rfl)) (by k_dflt (exact rfl)) ?_ | refine code_defCO (by exact rfl) (by exact rfl) (by first | exact rfl | assumption) (by k_asm) (by k_asm) (by k_asm) (by k_asm) (by k_asm) (by k_is) (by k_is) (by ktr_room) (by first | exact BindsTo.of_eq rfl | exact binds_K (by k_in) rfl (by k_is) rfl rfl rfl) (by exact rfl) (by decide +kernel) (by exact rfl) (by exact rfl) (by exact rfl) ?_); k_whole; intro g' L' h' tk' cells' FG' F' N' Y' B' X' T' l1; (try k_lt l1); k_cells Y'; (try simp only [List.cons_append, List.nil_append] at N'); (try dsimp only); (try k_lift B'); (try k_fold)))) | ((first | with_reducible refine wpAny_call ?_ | refine wpAny_call ?_); (first | ((first | with_reducible refine code_defO (by k_dflt (exact rfl)) (by k_dflt (exact rfl)) (by k_dflt (first | exact rfl | assumption)) (by k_dflt (k_asm)) (by k_dflt (k_asm)) (by k_dflt (k_asm)) (by k_dflt (k_asm)) (by k_dflt (k_asm)) (by k_dflt (k_is)) (by k_dflt (k_is)) (by k_dflt (ktr_room)) (by k_dflt (first | exact BindsTo.of_eq rfl | exact binds_K (by k_in) rfl (by k_is) rfl rfl rfl)) (by k_dflt (decide)) (by k_dflt (exact locs rfl)) (by k_dflt (exact rfl)) (by k_dflt (exact rfl)) (by k_dflt (exact rfl)) ?_ | refine code_defO (by exact rfl) (by exact rfl) (by first | exact rfl | assumption) (by k_asm) (by k_asm) (by k_asm) (by k_asm) (by k_asm) (by k_is) (by k_is) (by ktr_room) (by first | exact BindsTo.of_eq rfl | exact binds_K (by k_in) rfl (by k_is) rfl rfl rfl) (by decide) (by exact locs rfl) (by exact rfl) (by exact rfl) (by exact rfl) ?_); k_whole; intro g' L' h' FG' F' N' B' X' T'; (try dsimp only); (try k_lift B'); (try k_fold)) | ((first | with_reducible refine code_defCO (by k_dflt (exact rfl)) (by k_dflt (exact rfl)) (by k_dflt (first | exact rfl | assumption)) (by k_dflt (k_asm)) (by k_dflt (k_asm)) (by k_dflt (k_asm)) (by k_dflt (k_asm)) (by k_dflt (k_asm)) (by k_dflt (k_is)) (by k_dflt (k_is)) (by k_dflt (ktr_room)) (by k_dflt (first | exact BindsTo.of_eq rfl | exact binds_K (by k_in) rfl (by k_is) rfl rfl rfl)) (by k_dflt (exact rfl)) (by k_dflt (decide +kernel)) (by k_dflt (exact rfl)) (by k_dflt (exact rfl)) (by k_dflt (exact rfl)) ?_ | refine code_defCO (by exact rfl) (by exact rfl) (by first | exact rfl | assumption) (by k_asm) (by k_asm) (by k_asm) (by k_asm) (by k_asm) (by k_is) (by k_is) (by ktr_room) (by first | exact BindsTo.of_eq rfl | exact binds_K (by k_in) rfl (by k_is) rfl rfl rfl) (by exact rfl) (by decide +kernel) (by exact rfl) (by exact rfl) (by exact rfl) ?_); k_whole; intro g' L' h' tk' cells' FG' F' N' Y' B' X' T' l1; (try k_lt l1); k_cells Y'; (try simp only [List.cons_append, List.nil_append] at N'); (try dsimp only); (try k_lift B'); (try k_fold)))))))
  (k_with "execs cons" => (k_here; (with_reducible (refine gen_toks ?_)); intro tk))
  (k_with "execs nil" => (k_here; (with_reducible (refine gen_toks ?_)); intro tk))
  trivial
theorem stored_mixed (a b v : Value) : stored [(Str.ofString "left", a), (Str.ofString "mixed", b)] (Str.ofString "mixed") v = [(Str.ofString "left", a), (Str.ofString "mixed", v)] := by
  have e1 : (Str.ofString "left" = Str.ofString "mixed") = False := eq_false (by decide)
  simp [stored, e1]
theorem stored_nil {K : Type} [DecidableEq K] (k : K) (v : Value) : stored [] k v = [(k, v)] := by simp [stored]
theorem value_one {K : Type} [DecidableEq K] (k : K) (v : Value) : valueAt [(k, v)] k = some v := by simp [valueAt]
theorem bytesKind_at (prog : Program) (w : World) (b : Array UInt8) (t : Tok) : (PySem.W.bytesKind prog w).is b.toList (.bytes b t) = true := by
  have := bytesKind_is prog w b.toList t
  rwa [Array.toArray_toList] at this
theorem isDict_any {prog : Program} {w : World} {K K' : Type} [DecidableEq K] [DecidableEq K'] {knd : KeyKind prog w K} {knd' : KeyKind prog w K'} {o : Obj} (h : o.IsDictOf knd []) : o.IsDictOf knd' [] := by
  obtain ⟨es, ep, h1, h2, h3, h4, h5⟩ := h
  have e : es.toList = [] := by
    generalize es.toList = l at h4
    cases h4
    rfl
  refine ⟨es, ep, h1, h2, fun x hx => ?_, ?_, List.nodup_nil⟩
  · rw [← Array.mem_toList_iff, e] at hx
    cases hx
  · rw [e]; exact .nil
theorem notin_bytes {prog : Program} {w : World} {A : Around} {E : Value → Shared → Prop} {s : Shared} {h₀ : Heap} {L d : Addr} {news : List (Addr × Obj)} {o : Obj} {kvs : List (List UInt8 × Value)} {c : Array UInt8} {t : Tok} {r : Bool} {Q : Value → Shared → Prop}
    (N : News h₀ L s.heap news) (hp : (d, o) ∈ news) (hd : o.IsDictOf (PySem.W.bytesKind prog w) kvs) (lo : (d == sysModules) = false) (hb : (!(valueAt kvs c.toList).isSome) = r) (h : Q (.bool r) { s with toks := s.toks + 1 }) :
    wpAny (model prog w) A (compareOp .NotIn (.bytes c t) (.ref d)) Q E s :=
  wpAny_notIn_of (bytesKind_at prog w c t) lo (kda_dict N hp hd).mapOf (by rw [hb]; exact h)
theorem value_is (k : List UInt8) (v : Value) : (!(valueAt [(k, v)] k).isSome) = false := by rw [value_one]; rfl

end

section
theorem wordsBytesBb : True := by
  w_top off
  k_with_none
  (k_with "exec For Name Subscript cons nil" => (k_here; (rename Fr _ _ _ _ => lF'); (with_unfolding_all refine For_invVF lF' (by exact rfl) (by exact rfl) ?_; k_whole)))
  (k_with "call ref" => (k_here; k_dflt (first | (refine call_meth (by k_asm) (by k_mem) ?_; k_whole; (first | ((first | with_reducible refine code_defO (by k_dflt (exact rfl)) (by k_dflt (exact rfl)) (by k_dflt (first | exact rfl | assumption)) (by k_dflt (k_asm)) (by k_dflt (k_asm)) (by k_dflt (k_asm)) (by k_dflt (k_asm)) (by k_dflt (k_asm)) (by k_dflt (k_is)) (by k_dflt (k_is)) (by k_dflt (ktr_room)) (by k_dflt (first | exact BindsTo.of_eq rfl | exact binds_K (by k_in) rfl (by k_is) rfl rfl rfl)) (by k_dflt (decide)) (by k_dflt (exact locs rfl)) (by k_dflt (exact rfl)) (by k_dflt (exact rfl)) (by k_dflt (exact rfl)) ?_ | refine code_defO (by exact rfl) (by exact rfl) (by first | exact rfl | assumption) (by k_asm) (by k_asm) (by k_asm) (by k_asm) (by k_asm) (by k_is) (by k_is) (by ktr_room) (by first | exact BindsTo.of_eq rfl | exact binds_K (by k_in) rfl (by k_is) rfl rfl rfl) (by decide) (by exact locs rfl) (by exact rfl) (by exact rfl) (by exact rfl) ?_); k_whole; intro g' L' h' FG' F' N' B' X' T'; (try dsimp only); (try k_lift B'); (try k_fold)) | ((first | with_reducible refine code_defCO (by k_dflt (exact rfl)) (by k_dflt (exact rfl)) (by k_dflt (first | exact rfl | assumption)) (by k_dflt (k_asm)) (by k_dflt (k_asm)) (by k_dflt (k_asm)) (by k_dflt (k_asm)) (by k_dflt (k_asm)) (by k_dflt (k_is)) (by k_dflt (k_is)) (by k_dflt (ktr_room)) (by k_dflt (first | exact BindsTo.of_eq rfl | exact binds_K (by k_in) rfl (by k_is) rfl rfl rfl)) (by k_dflt (exact rfl)) (by k_dflt (decide +kernel)) (by k_dflt (exact rfl)) (by k_dflt (exact rfl)) (by k_dflt (exact rfl)) ?_ | refine code_defCO (by exact rfl) (by exact rfl) (by first | exact rfl | assumption) (by k_asm) (by k_asm) (by k_asm) (by k_asm) (by k_asm) (by k_is) (by k_is) (by ktr_room) (by first | exact BindsTo.of_eq rfl | exact binds_K (by k_in) rfl (by k_is) rfl rfl rfl) (by exact rfl) (by decide +kernel) (by exact rfl) (by exact rfl) (by exact rfl) ?_); k_whole; intro g' L' h' tk' cells' FG' F' N' Y' B' X' T' l1; (try k_lt l1); k_cells Y'; (try simp only [List.cons_append, List.nil_append] at N'); (try dsimp only); (try k_lift B'); (try k_fold)))) | ((first | with_reducible refine call_cls (by k_dflt (k_asm)) (by k_dflt (k_asm)) (by k_dflt (k_asm)) (by k_dflt (k_is)) (by k_dflt (k_is)) (by k_dflt (k_is)) ?_ | refine call_cls (by k_asm) (by k_asm) (by k_asm) (by k_is) (by k_is) (by k_is) ?_); k_whole; intro x' d' h' F' N' l1 l2; (try k_lt l1); (try k_lt2 l2); (try k_sweep); (first | ((first | with_reducible refine code_defO (by k_dflt (exact rfl)) (by k_dflt (exact rfl)) (by k_dflt (first | exact rfl | assumption)) (by k_dflt (k_asm)) (by k_dflt (k_asm)) (by k_dflt (k_asm)) (by k_dflt (k_asm)) (by k_dflt (k_asm)) (by k_dflt (k_is)) (by k_dflt (k_is)) (by k_dflt (ktr_room)) (by k_dflt (first | exact BindsTo.of_eq rfl | exact binds_K (by k_in) rfl (by k_is) rfl rfl rfl)) (by k_dflt (decide)) (by k_dflt (exact locs rfl)) (by k_dflt (exact rfl)) (by k_dflt (exact rfl)) (by k_dflt (exact rfl)) ?_ | refine code_defO (by exact rfl) (by exact rfl) (by first | exact rfl | assumption) (by k_asm) (by k_asm) (by k_asm) (by k_asm) (by k_asm) (by k_is) (by k_is) (by ktr_room) (by first | exact BindsTo.of_eq rfl | exact binds_K (by k_in) rfl (by k_is) rfl rfl rfl) (by decide) (by exact locs rfl) (by exact rfl) (by exact rfl) (by exact rfl) ?_); k_whole; intro g' L' h' FG' F' N' B' X' T'; (try dsimp only); (try k_lift B'); (try k_fold)) | ((first | with_reducible refine code_defCO (by k_dflt (exact rfl)) (by k_dflt (exact rfl)) (by k_dflt (first | exact rfl | assumption)) (by k_dflt (k_asm)) (by k_dflt (k_asm)) (by k_dflt (k_asm)) (by k_dflt (k_asm)) (by k_dflt (k_asm)) (by k_dflt (k_is)) (by k_dflt (k_is)) (by k_dflt (ktr_room)) (by k_dflt (first | exact BindsTo.of_eq rfl | exact binds_K (by k_in) rfl (by k_is) rfl rfl rfl)) (by k_dflt (exact rfl)) (by k_dflt (decide +kernel)) (by k_dflt (exact rfl)) (by k_dflt (exact rfl)) (by k_dflt (exact rfl)) ?_ | refine code_defCO (by exact rfl) (by exact rfl) (by first | exact rfl | assumption) (by k_asm) (by k_asm) (by k_asm) (by k_asm) (by k_asm) (by k_is) (by k_is) (by ktr_room) (by first | exact BindsTo.of_eq rfl | exact binds_K (by k_in) rfl (by k_is) rfl rfl rfl) (by exact rfl) (by decide +kernel) (by exact rfl) (by exact rfl) (by exact rfl) ?_); k_whole; intro g' L' h' tk' cells' FG' F' N' Y' B' X' T' l1; (try k_lt l1); k_cells Y'; (try simp only [List.cons_append, List.nil_append] at N'); (try dsimp only); (try k_lift B'); (try k_fold)))) | ((first | with_reducible refine wpAny_call ?_ | refine wpAny_call ?_); (first | ((first | with_reducible refine code_defO (by k_dflt (exact rfl)) (by k_dflt (exact rfl)) (by k_dflt (first | exact rfl | assumption)) (by k_dflt (k_asm)) (by k_dflt (k_asm)) (by k_dflt (k_asm)) (by k_dflt (k_asm)) (by k_dflt (k_asm)) (by k_dflt (k_is)) (by k_dflt (k_is)) (by k_dflt (ktr_room)) (by k_dflt (first | exact BindsTo.of_eq rfl | exact binds_K (by k_in) rfl (by k_is) rfl rfl rfl)) (by k_dflt (decide)) (by k_dflt (exact locs rfl)) (by k_dflt (exact rfl)) (by k_dflt (exact rfl)) (by k_dflt (exact rfl)) ?_ | refine code_defO (by exact rfl) (by exact rfl) (by first | exact rfl | assumption) (by k_asm) (by k_asm) (by k_asm) (by k_asm) (by k_asm) (by k_is) (by k_is) (by ktr_room) (by first | exact BindsTo.of_eq rfl | exact binds_K (by k_in) rfl (by k_is) rfl rfl rfl) (by decide) (by exact locs rfl) (by exact rfl) (by exact rfl) (by exact rfl) ?_); k_whole; intro g' L' h' FG' F' N' B' X' T'; (try dsimp only); (try k_lift B'); (try k_fold)) | ((first | with_reducible refine code_defCO (by k_dflt (exact rfl)) (by k_dflt (exact rfl)) (by k_dflt (first | exact rfl | assumption)) (by k_dflt (k_asm)) (by k_dflt (k_asm)) (by k_dflt (k_asm)) (by k_dflt (k_asm)) (by k_dflt (k_asm)) (by k_dflt (k_is)) (by k_dflt (k_is)) (by k_dflt (ktr_room)) (by k_dflt (first | exact BindsTo.of_eq rfl | exact binds_K (by k_in) rfl (by k_is) rfl rfl rfl)) (by k_dflt (exact rfl)) (by k_dflt (decide +kernel)) (by k_dflt (exact rfl)) (by k_dflt (exact rfl)) (by k_dflt (exact rfl)) ?_ | refine code_defCO (by exact rfl) (by exact rfl) (by first | exact rfl | assumption) (by k_asm) (by k_asm) (by k_asm) (by k_asm) (by k_asm) (by k_is) (by k_is) (by ktr_room) (by first | exact BindsTo.of_eq rfl | exact binds_K (by k_in) rfl (by k_is) rfl rfl rfl) (by exact rfl) (by decide +kernel) (by exact rfl) (by exact rfl) (by exact rfl) ?_); k_whole; intro g' L' h' tk' cells' FG' F' N' Y' B' X' T' l1; (try k_lt l1); k_cells Y'; (try simp only [List.cons_append, List.nil_append] at N'); (try dsimp only); (try k_lift B'); (try k_fold)))))))
  (k_with "execs cons" => (k_here; (with_reducible (refine gen_toks ?_)); intro tk))
  (k_with "execs nil" => (k_here; (with_reducible (refine gen_toks ?_)); intro tk))
  trivial
theorem bytes_bytes : typeLookup (.type "bytes") "__bytes__" = pure (some (.builtin "bytes.__bytes__")) := by rw [typeLookup_type, builtinLookup_eq_fast]; kernel_rfl
section
variable {prog : Program} {w : World} {A : Around} {E : Value → Shared → Prop} {s : Shared} {b : Array UInt8} {t : Tok}
theorem bm_newB {Q : Value → Shared → Prop} (hQ : Q (.bytes b t) s) :
    codeAny (model prog w) A (.call (.builtin "bytes.__new__") ⟨[.type "bytes", .bytes b t], []⟩) (wants Q E) s := by
  refine codeAny_of_tree ?_
  show wpAny _ A.in1 (do checkBuiltinCall "bytes.__new__" ⟨[.type "bytes", .bytes b t], []⟩; again (.builtin "bytes.__new__" ⟨[.type "bytes", .bytes b t], []⟩)) _ _ s
  refine wpAny_bind (wpAny_of_eq (F.bm_newCall _) (wpAny_pure ⟨plainId_quiet F.bm_plain _, codeAny_builtin F.bm_entry ?_⟩))
  rw [Around.under_plainId F.bm_plain _]
  have hT : s.TypeIs (.bytes b t) "bytes" := typeIs_bytes s b t
  unfold Builtin.«bytes.__new__»
  refine wpAny_bind (wpAny_of_eq (a := true) rfl ?_)
  refine bm_if_false rfl ?_
  refine wpAny_bind (wpAny_of_eq F.bm_sub ?_)
  refine bm_if_false rfl ?_
  refine wpAny_bind (wpAny_of_eq (F.bm_bind _) ?_)
  refine wpAny_bind (wpAny_of_eq (a := ()) rfl ?_)
  refine wpAny_bind (wpAny_of_eq (a := ()) rfl ?_)
  refine bm_if_false rfl ?_
  refine wpAny_bind (wpAny_specialOf hT bytes_bytes ?_)
  refine wpAny_bind (wpAny_rule ?_)
  refine wpAny_bind (wpAny_typeOf hT ?_)
  refine bm_if_true rfl ?_
  exact wpAny_pure hQ
theorem call_bytesB {Q : Value → Shared → Prop} (hQ : Q (.bytes b t) s) : wpAny (model prog w) A (call (.type "bytes") [.bytes b t]) Q E s := by
  refine callType_codes (Q₁ := fun obj s₁ => s₁.TypeIs obj "bytes" ∧ Q obj s₁) F.bm_called (F.bm_typeCall _) F.entry_object_init
    (bm_newB ⟨typeIs_bytes _ _ _, hQ⟩) fun obj s₁ h₁ => ?_
  exact ⟨h₁.1, F.args_object_init_2 obj _, object_init_meets F.bm_called.init.lookup F.bm_called.made (by decide) prog w A.in1 _ s₁ ⟨h₁.1, rfl, h₁.2⟩⟩
end

end

section
theorem wordsDefRb : True := by
  w_top off
  k_with_none
  (k_with "exec For Name Subscript cons nil" => (k_here; (rename Fr _ _ _ _ => lF'); (with_unfolding_all refine For_invVF lF' (by exact rfl) (by exact rfl) ?_; k_whole)))
  (k_with "call ref" => (k_here; k_dflt (first | (refine call_meth (by k_asm) (by k_mem) ?_; k_whole; (first | ((first | with_reducible refine code_defO (by k_dflt (exact rfl)) (by k_dflt (exact rfl)) (by k_dflt (first | exact rfl | assumption)) (by k_dflt (k_asm)) (by k_dflt (k_asm)) (by k_dflt (k_asm)) (by k_dflt (k_asm)) (by k_dflt (k_asm)) (by k_dflt (k_is)) (by k_dflt (k_is)) (by k_dflt (ktr_room)) (by k_dflt (first | exact BindsTo.of_eq rfl | exact binds_K (by k_in) rfl (by k_is) rfl rfl rfl)) (by k_dflt (decide)) (by k_dflt (exact locs rfl)) (by k_dflt (exact rfl)) (by k_dflt (exact rfl)) (by k_dflt (exact rfl)) ?_ | refine code_defO (by exact rfl) (by exact rfl) (by first | exact rfl | assumption) (by k_asm) (by k_asm) (by k_asm) (by k_asm) (by k_asm) (by k_is) (by k_is) (by ktr_room) (by first | exact BindsTo.of_eq rfl | exact binds_K (by k_in) rfl (by k_is) rfl rfl rfl) (by decide) (by exact locs rfl) (by exact rfl) (by exact rfl) (by exact rfl) ?_); k_whole; intro g' L' h' FG' F' N' B' X' T'; (try dsimp only); (try k_lift B'); (try k_fold)) | ((first | with_reducible refine code_defCO (by k_dflt (exact rfl)) (by k_dflt (exact rfl)) (by k_dflt (first | exact rfl | assumption)) (by k_dflt (k_asm)) (by k_dflt (k_asm)) (by k_dflt (k_asm)) (by k_dflt (k_asm)) (by k_dflt (k_asm)) (by k_dflt (k_is)) (by k_dflt (k_is)) (by k_dflt (ktr_room)) (by k_dflt (first | exact BindsTo.of_eq rfl | exact binds_K (by k_in) rfl (by k_is) rfl rfl rfl)) (by k_dflt (exact rfl)) (by k_dflt (decide +kernel)) (by k_dflt (exact rfl)) (by k_dflt (exact rfl)) (by k_dflt (exact rfl)) ?_ | refine code_defCO (by exact rfl) (by exact rfl) (by first | exact rfl | assumption) (by k_asm) (by k_asm) (by k_asm) (by k_asm) (by k_asm) (by k_is) (by k_is) (by ktr_room) (by first | exact BindsTo.of_eq rfl | exact binds_K (by k_in) rfl (by k_is) rfl rfl rfl) (by exact rfl) (by decide +kernel) (by exact rfl) (by exact rfl) (by exact rfl) ?_); k_whole; intro g' L' h' tk' cells' FG' F' N' Y' B' X' T' l1; (try k_lt l1); k_cells Y'; (try simp only [List.cons_append, List.nil_append] at N'); (try dsimp only); (try k_lift B'); (try k_fold)))) | ((first | with_reducible refine call_cls (by k_dflt (k_asm)) (by k_dflt (k_asm)) (by k_dflt (k_asm)) (by k_dflt (k_is)) (by k_dflt (k_is)) (by k_dflt (k_is)) ?_ | refine call_cls (by k_asm) (by k_asm) (by k_asm) (by k_is) (by k_is) (by k_is) ?_); k_whole; intro x' d' h' F' N' l1 l2; (try k_lt l1); (try k_lt2 l2); (try k_sweep); (first | ((first | with_reducible refine code_defO (by k_dflt (exact rfl)) (by k_dflt (exact rfl)) (by k_dflt (first | exact rfl | assumption)) (by k_dflt (k_asm)) (by k_dflt (k_asm)) (by k_dflt (k_asm)) (by k_dflt (k_asm)) (by k_dflt (k_asm)) (by k_dflt (k_is)) (by k_dflt (k_is)) (by k_dflt (ktr_room)) (by k_dflt (first | exact BindsTo.of_eq rfl | exact binds_K (by k_in) rfl (by k_is) rfl rfl rfl)) (by k_dflt (decide)) (by k_dflt (exact locs rfl)) (by k_dflt (exact rfl)) (by k_dflt (exact rfl)) (by k_dflt (exact rfl)) ?_ | refine code_defO (by exact rfl) (by exact rfl) (by first | exact rfl | assumption) (by k_asm) (by k_asm) (by k_asm) (by k_asm) (by k_asm) (by k_is) (by k_is) (by ktr_room) (by first | exact BindsTo.of_eq rfl | exact binds_K (by k_in) rfl (by k_is) rfl rfl rfl) (by decide) (by exact locs rfl) (by exact rfl) (by exact rfl) (by exact rfl) ?_); k_whole; intro g' L' h' FG' F' N' B' X' T'; (try dsimp only); (try k_lift B'); (try k_fold)) | ((first | with_reducible refine code_defCO (by k_dflt (exact rfl)) (by k_dflt (exact rfl)) (by k_dflt (first | exact rfl | assumption)) (by k_dflt (k_asm)) (by k_dflt (k_asm)) (by k_dflt (k_asm)) (by k_dflt (k_asm)) (by k_dflt (k_asm)) (by k_dflt (k_is)) (by k_dflt (k_is)) (by k_dflt (ktr_room)) (by k_dflt (first | exact BindsTo.of_eq rfl | exact binds_K (by k_in) rfl (by k_is) rfl rfl rfl)) (by k_dflt (exact rfl)) (by k_dflt (decide +kernel)) (by k_dflt (exact rfl)) (by k_dflt (exact rfl)) (by k_dflt (exact rfl)) ?_ | refine code_defCO (by exact rfl) (by exact rfl) (by first | exact rfl | assumption) (by k_asm) (by k_asm) (by k_asm) (by k_asm) (by k_asm) (by k_is) (by k_is) (by ktr_room) (by first | exact BindsTo.of_eq rfl | exact binds_K (by k_in) rfl (by k_is) rfl rfl rfl) (by exact rfl) (by decide +kernel) (by exact rfl) (by exact rfl) (by exact rfl) ?_); k_whole; intro g' L' h' tk' cells' FG' F' N' Y' B' X' T' l1; (try k_lt l1); k_cells Y'; (try simp only [List.cons_append, List.nil_append] at N'); (try dsimp only); (try k_lift B'); (try k_fold)))) | ((first | with_reducible refine wpAny_call ?_ | refine wpAny_call ?_); (first | ((first | with_reducible refine code_defO (by k_dflt (exact rfl)) (by k_dflt (exact rfl)) (by k_dflt (first | exact rfl | assumption)) (by k_dflt (k_asm)) (by k_dflt (k_asm)) (by k_dflt (k_asm)) (by k_dflt (k_asm)) (by k_dflt (k_asm)) (by k_dflt (k_is)) (by k_dflt (k_is)) (by k_dflt (ktr_room)) (by k_dflt (first | exact BindsTo.of_eq rfl | exact binds_K (by k_in) rfl (by k_is) rfl rfl rfl)) (by k_dflt (decide)) (by k_dflt (exact locs rfl)) (by k_dflt (exact rfl)) (by k_dflt (exact rfl)) (by k_dflt (exact rfl)) ?_ | refine code_defO (by exact rfl) (by exact rfl) (by first | exact rfl | assumption) (by k_asm) (by k_asm) (by k_asm) (by k_asm) (by k_asm) (by k_is) (by k_is) (by ktr_room) (by first | exact BindsTo.of_eq rfl | exact binds_K (by k_in) rfl (by k_is) rfl rfl rfl) (by decide) (by exact locs rfl) (by exact rfl) (by exact rfl) (by exact rfl) ?_); k_whole; intro g' L' h' FG' F' N' B' X' T'; (try dsimp only); (try k_lift B'); (try k_fold)) | ((first | with_reducible refine code_defCO (by k_dflt (exact rfl)) (by k_dflt (exact rfl)) (by k_dflt (first | exact rfl | assumption)) (by k_dflt (k_asm)) (by k_dflt (k_asm)) (by k_dflt (k_asm)) (by k_dflt (k_asm)) (by k_dflt (k_asm)) (by k_dflt (k_is)) (by k_dflt (k_is)) (by k_dflt (ktr_room)) (by k_dflt (first | exact BindsTo.of_eq rfl | exact binds_K (by k_in) rfl (by k_is) rfl rfl rfl)) (by k_dflt (exact rfl)) (by k_dflt (decide +kernel)) (by k_dflt (exact rfl)) (by k_dflt (exact rfl)) (by k_dflt (exact rfl)) ?_ | refine code_defCO (by exact rfl) (by exact rfl) (by first | exact rfl | assumption) (by k_asm) (by k_asm) (by k_asm) (by k_asm) (by k_asm) (by k_is) (by k_is) (by ktr_room) (by first | exact BindsTo.of_eq rfl | exact binds_K (by k_in) rfl (by k_is) rfl rfl rfl) (by exact rfl) (by decide +kernel) (by exact rfl) (by exact rfl) (by exact rfl) ?_); k_whole; intro g' L' h' tk' cells' FG' F' N' Y' B' X' T' l1; (try k_lt l1); k_cells Y'; (try simp only [List.cons_append, List.nil_append] at N'); (try dsimp only); (try k_lift B'); (try k_fold)))))))
  (k_with "execs cons" => (k_here; (with_reducible (refine gen_toks ?_)); intro tk))
  (k_with "execs nil" => (k_here; (with_reducible (refine gen_toks ?_)); intro tk))
  trivial
structure RestIn (h₀ : Heap) (L : Addr) (g : Heap) (rest : List (Addr × Obj)) : Prop where
  news : News h₀ L g rest
theorem RestIn.keeps {h₀ g h : Heap} {L L' : Addr} {m : Str → Option Value} {rest : List (Addr × Obj)} (R : RestIn h₀ L g rest) (F : Fr g L' h m) : RestIn h₀ L h rest :=
  ⟨fun p hp => ⟨F.keep _ _ (R.news p hp).1, (R.news p hp).2⟩⟩
theorem RestIn.with {h₀ h : Heap} {L : Addr} {l rest : List (Addr × Obj)} (R : RestIn h₀ L h rest) (N : News h₀ L h l) : News h₀ L h (l ++ rest) := fun p hp => by
  rcases List.mem_append.mp hp with q | q
  · exact N p q
  · exact R.news p q
def Apart (rel rest : List (Addr × Obj)) : Prop := ∀ p ∈ rest, p.1 ∉ rel.map (·.1)
theorem Apart.nil {rest : List (Addr × Obj)} : Apart [] rest := fun _ _ h => nomatch h
theorem RestIn.apart {h₀ g h : Heap} {L L' : Addr} {l rest : List (Addr × Obj)} (R : RestIn h₀ L g rest) (N : News g L' h l) : Apart l rest := fun p hp hq => by
  obtain ⟨q, hq, e⟩ := List.mem_map.mp hq
  have h1 := (R.news p hp).1
  have h2 := (N q hq).2.2
  rw [e] at h2
  rw [h2] at h1
  cases h1
theorem Apart.one {D : Addr} {o : Obj} {l rest : List (Addr × Obj)} (h : Apart ((D, o) :: l) rest) : ∀ p ∈ rest, p.1 ≠ D := fun p hp e => h p hp (by rw [e]; exact .head _)
theorem Apart.tail {x : Addr × Obj} {l rest : List (Addr × Obj)} (h : Apart (x :: l) rest) : Apart l rest := fun p hp e => h p hp (.tail _ e)
theorem Apart.mk2 {D E : Addr} {o o' : Obj} {rest : List (Addr × Obj)} (h : ∀ p ∈ rest, p.1 ≠ D) (h' : ∀ p ∈ rest, p.1 ≠ E) : Apart [(D, o), (E, o')] rest := fun p hp e => by
  rcases List.mem_cons.mp e with e | e
  · exact h p hp e
  · exact h' p hp (List.mem_singleton.mp e)
theorem Apart.mk1 {D : Addr} {o : Obj} {rest : List (Addr × Obj)} (h : ∀ p ∈ rest, p.1 ≠ D) : Apart [(D, o)] rest := fun p hp e => h p hp (List.mem_singleton.mp e)
theorem rest_hide {h₀ h : Heap} {L : Addr} {rel rest : List (Addr × Obj)} (N : News h₀ L h rest) (hx : Apart rel rest) : RestIn h₀ L (hideAll h (rel.map (·.1))) rest :=
  ⟨fun p hp => ⟨hideAll_get _ (N p hp).1 (hx p hp), (N p hp).2⟩⟩
section
variable {prog : Program} {w : World} {A A₀ : Around} {s : Shared} {K : Frag} {L : Addr} {h₀ base : Heap} {m mg mb : Str → Option Value} {rel rest : List (Addr × Obj)} {p : Program} {loose : List Str} {mean : ExcName → Option Value}
theorem code_defR {env : Env} {outer : List Env} {R : Result → Shared → Prop} {name qual : Str} {params : Arguments} {body : List Stmt} {scope : Scope} {dV kV doc pm cdv ct oc : Value} {an od : Option Addr} {osl : Array (Option Value)} {f : Addr} {args : Args} {binds : List (Str × Value)}
    (B : Below A₀ base outer h₀) (F : Fr h₀ L s.heap m) (X₀ : K.In h₀) (N : News h₀ L s.heap rel) (NR : News h₀ L s.heap rest) (hx : Apart rel rest) (T : Top p loose mean mg mb h₀) (hA : A.frames = some (env :: outer)) (hf : env.frame = some L) (hke : env.scope.kind = .function)
    (ho : K.lookup f = some ⟨oc, od, .func (fnOf name qual params body scope dV kV doc pm an cdv ct), osl⟩) (hcd : codeIn K cdv qual = true) (hroom : A.depth < recursionLimit)
    (hbind : BindsTo s (fnOf name qual params body scope dV kV doc pm an cdv ct) args binds) (hloc : ∀ y ∈ binds, scope.names.lookup y.1 = some .local)
    (h : ∀ g L' h₁, Fr h₀ L g m → Fr g L' h₁ (fun y => binds.reverse.lookup y) → News g L' h₁ rel → Below A base (env :: outer) g → K.In g → Top p loose mean mg mb g → RestIn h₀ L g rest → (∀ p ∈ rel, p.1 < L') →
      wpAny (model prog w) (A.deeper (envOf qual scope L' f cdv)) (execs body (envOf qual scope L' f cdv))
        (fun fl s' => LeaveK h₀ L m g R (match fl with | .ret v => v | _ => .none) s')
        (fun e s' => wpAny (model prog w) (A.deeper (envOf qual scope L' f cdv)) (leaving (envOf qual scope L' f cdv) e) (fun _ s'' => R (.error e) s'') (fun e' s'' => R (.error e') s'') s')
        { s with heap := h₁, toks := s.toks + binds.length })
    (hco : scope.isCoroutine = false) (hgen : scope.isGenerator = false) (hk : scope.kind = .function)
    (hcell : ∀ x ∈ scope.names, x.2 ≠ .cell) : codeAny (model prog w) A (.call (.ref f) args) R s := by
  obtain ⟨FG, BG, st, lv⟩ := groundX (R := R) B F N hA hf hke
  refine codeAny_call_def (fd := fnOf name qual params body scope dV kV doc pm an cdv ct) (body := body) (binds := binds) hroom ((X₀.keeps F.keep) _ _ ho) rfl (T.nolimit.keeps F.keep) (codeRec_of (X₀.keeps F.keep) hcd) rfl hbind hcell hloc (fun h₁ hns hk₁ => ?_) hco hgen hk
  refine wpAny_mono (h _ s.heap.objs.size h₁ FG ⟨hns, fun b o e => hk₁ b o (of_hideAll _ e), Nat.le_of_eq (hideAll_size _ _)⟩
    (fun q hq => ⟨hk₁ _ _ (N q hq).1, Nat.ne_of_lt (Heap.lt_size (N q hq).1), hideAll_none _ (List.mem_map_of_mem hq)⟩) BG (X₀.keeps st) (T.keeps st) (rest_hide NR hx) (fun q hq => Heap.lt_size (N q hq).1)) (fun fl s' hl => lv _ _ hl) fun _ _ y => y
theorem code_defCR {env : Env} {outer : List Env} {R : Result → Shared → Prop} {name qual : Str} {params : Arguments} {body : List Stmt} {scope : Scope} {dV kV doc pm cdv ct oc : Value} {an od : Option Addr} {osl : Array (Option Value)} {f : Addr} {args : Args} {binds : List (Str × Value)}
    (B : Below A₀ base outer h₀) (F : Fr h₀ L s.heap m) (X₀ : K.In h₀) (N : News h₀ L s.heap rel) (NR : News h₀ L s.heap rest) (hx : Apart rel rest) (T : Top p loose mean mg mb h₀) (hA : A.frames = some (env :: outer)) (hf : env.frame = some L) (hke : env.scope.kind = .function)
    (ho : K.lookup f = some ⟨oc, od, .func (fnOf name qual params body scope dV kV doc pm an cdv ct), osl⟩) (hcd : codeIn K cdv qual = true) (hroom : A.depth < recursionLimit)
    (hbind : BindsTo s (fnOf name qual params body scope dV kV doc pm an cdv ct) args binds) (hkind : (binds.all fun y => scope.names.lookup y.1 == some .local || scope.names.lookup y.1 == some .cell) = true)
    (hnd : ((cellsFrom 0 scope.names []).map (·.1)).Nodup)
    (h : ∀ g L' h₁ tk cells, Fr h₀ L g m → Fr g L' h₁ (bindL (envOfC qual scope L' f cdv).kindOf binds fun _ => none) → News g L' h₁ (cells ++ rel) →
      CellsAre (bindC (envOfC qual scope L' f cdv).kindOf binds fun _ => none) (cellsFrom (L' + 1) scope.names []) cells → Below A base (env :: outer) g → K.In g → Top p loose mean mg mb g → RestIn h₀ L g rest → (∀ p ∈ rel, p.1 < L') →
      wpAny (model prog w) (A.deeper (envOfC qual scope L' f cdv)) (execs body (envOfC qual scope L' f cdv))
        (fun fl s' => LeaveK h₀ L m g R (match fl with | .ret v => v | _ => .none) s')
        (fun e s' => wpAny (model prog w) (A.deeper (envOfC qual scope L' f cdv)) (leaving (envOfC qual scope L' f cdv) e) (fun _ s'' => R (.error e) s'') (fun e' s'' => R (.error e') s'') s')
        { s with heap := h₁, toks := tk })
    (hco : scope.isCoroutine = false) (hgen : scope.isGenerator = false) (hk : scope.kind = .function) : codeAny (model prog w) A (.call (.ref f) args) R s := by
  obtain ⟨FG, BG, st, lv⟩ := groundX (R := R) B F N hA hf hke
  refine codeAny_call_function hroom ((X₀.keeps F.keep) _ _ ho) rfl hco hgen rfl (codeRec_of (X₀.keeps F.keep) hcd) (hbind _ _ _ _ ?_)
  refine wpAny_newFunctionEnv_cells hk (kindsX hkind _) fun env' he s' x => ?_
  subst he
  refine ⟨(T.nolimit.keeps F.keep).keeps x.toInCall.keep, codeAny_func ?_⟩
  obtain ⟨h₁, tk, rfl, _⟩ := x.done
  have hk₁ := x.toInCall.keep
  obtain ⟨cells, NC, Y⟩ := Cl.news (h₀ := s.heap) (Nat.le_refl _) fun n c hm => ⟨x.cell n c (lookup_of_mem_nodup (cellsFrom_names scope.names 0 (s.heap.objs.size + 1) [] [] rfl ▸ hnd) hm), x.above n c hm⟩
  refine wpAny_mono (h _ s.heap.objs.size h₁ tk cells FG ⟨x.toInCall.ns, fun b o e => hk₁ b o (of_hideAll _ e), Nat.le_of_eq (hideAll_size _ _)⟩ (fun q hq => ?_) Y BG (X₀.keeps st) (T.keeps st) (rest_hide NR hx) (fun q hq => Heap.lt_size (N q hq).1)) (fun fl s' hl => lv _ _ hl) fun _ _ y => y
  rcases List.mem_append.mp hq with hq | hq
  · refine ⟨(NC q hq).1, (NC q hq).2.1, ?_⟩
    cases e : (hideAll s.heap (rel.map (·.1))).get? q.1 with
    | none => rfl
    | some o => have := of_hideAll _ e; rw [(NC q hq).2.2] at this; cases this
  · exact ⟨hk₁ _ _ (N q hq).1, Nat.ne_of_lt (Heap.lt_size (N q hq).1), hideAll_none _ (List.mem_map_of_mem hq)⟩
end
theorem news_13 {h₀ h : Heap} {L : Addr} {x y z : Addr × Obj} {l : List (Addr × Obj)} (N : News h₀ L h (x :: y :: z :: l)) : News h₀ L h [x, z] := fun p hp => by
  rcases List.mem_cons.mp hp with e | e
  · exact e ▸ N x (.head _)
  · rw [List.mem_singleton.mp e]; exact N z (.tail _ (.tail _ (.head _)))
theorem news_1 {h₀ h : Heap} {L : Addr} {x : Addr × Obj} {l : List (Addr × Obj)} (N : News h₀ L h (x :: l)) : News h₀ L h [x] := fun p hp => by
  rw [List.mem_singleton.mp hp]; exact N x (.head _)

end

section
theorem wordsCompRb : True := by
  w_top off
  k_with_none
  (k_with "exec For Name Subscript cons nil" => (k_here; (rename Fr _ _ _ _ => lF'); (with_unfolding_all refine For_invVF lF' (by exact rfl) (by exact rfl) ?_; k_whole)))
  (k_with "call ref" => (k_here; k_dflt (first | (refine call_meth (by k_asm) (by k_mem) ?_; k_whole; (first | ((first | with_reducible refine code_defO (by k_dflt (exact rfl)) (by k_dflt (exact rfl)) (by k_dflt (first | exact rfl | assumption)) (by k_dflt (k_asm)) (by k_dflt (k_asm)) (by k_dflt (k_asm)) (by k_dflt (k_asm)) (by k_dflt (k_asm)) (by k_dflt (k_is)) (by k_dflt (k_is)) (by k_dflt (ktr_room)) (by k_dflt (first | exact BindsTo.of_eq rfl | exact binds_K (by k_in) rfl (by k_is) rfl rfl rfl)) (by k_dflt (decide)) (by k_dflt (exact locs rfl)) (by k_dflt (exact rfl)) (by k_dflt (exact rfl)) (by k_dflt (exact rfl)) ?_ | refine code_defO (by exact rfl) (by exact rfl) (by first | exact rfl | assumption) (by k_asm) (by k_asm) (by k_asm) (by k_asm) (by k_asm) (by k_is) (by k_is) (by ktr_room) (by first | exact BindsTo.of_eq rfl | exact binds_K (by k_in) rfl (by k_is) rfl rfl rfl) (by decide) (by exact locs rfl) (by exact rfl) (by exact rfl) (by exact rfl) ?_); k_whole; intro g' L' h' FG' F' N' B' X' T'; (try dsimp only); (try k_lift B'); (try k_fold)) | ((first | with_reducible refine code_defCO (by k_dflt (exact rfl)) (by k_dflt (exact rfl)) (by k_dflt (first | exact rfl | assumption)) (by k_dflt (k_asm)) (by k_dflt (k_asm)) (by k_dflt (k_asm)) (by k_dflt (k_asm)) (by k_dflt (k_asm)) (by k_dflt (k_is)) (by k_dflt (k_is)) (by k_dflt (ktr_room)) (by k_dflt (first | exact BindsTo.of_eq rfl | exact binds_K (by k_in) rfl (by k_is) rfl rfl rfl)) (by k_dflt (exact rfl)) (by k_dflt (decide +kernel)) (by k_dflt (exact rfl)) (by k_dflt (exact rfl)) (by k_dflt (exact rfl)) ?_ | refine code_defCO (by exact rfl) (by exact rfl) (by first | exact rfl | assumption) (by k_asm) (by k_asm) (by k_asm) (by k_asm) (by k_asm) (by k_is) (by k_is) (by ktr_room) (by first | exact BindsTo.of_eq rfl | exact binds_K (by k_in) rfl (by k_is) rfl rfl rfl) (by exact rfl) (by decide +kernel) (by exact rfl) (by exact rfl) (by exact rfl) ?_); k_whole; intro g' L' h' tk' cells' FG' F' N' Y' B' X' T' l1; (try k_lt l1); k_cells Y'; (try simp only [List.cons_append, List.nil_append] at N'); (try dsimp only); (try k_lift B'); (try k_fold)))) | ((first | with_reducible refine call_cls (by k_dflt (k_asm)) (by k_dflt (k_asm)) (by k_dflt (k_asm)) (by k_dflt (k_is)) (by k_dflt (k_is)) (by k_dflt (k_is)) ?_ | refine call_cls (by k_asm) (by k_asm) (by k_asm) (by k_is) (by k_is) (by k_is) ?_); k_whole; intro x' d' h' F' N' l1 l2; (try k_lt l1); (try k_lt2 l2); (try k_sweep); (first | ((first | with_reducible refine code_defO (by k_dflt (exact rfl)) (by k_dflt (exact rfl)) (by k_dflt (first | exact rfl | assumption)) (by k_dflt (k_asm)) (by k_dflt (k_asm)) (by k_dflt (k_asm)) (by k_dflt (k_asm)) (by k_dflt (k_asm)) (by k_dflt (k_is)) (by k_dflt (k_is)) (by k_dflt (ktr_room)) (by k_dflt (first | exact BindsTo.of_eq rfl | exact binds_K (by k_in) rfl (by k_is) rfl rfl rfl)) (by k_dflt (decide)) (by k_dflt (exact locs rfl)) (by k_dflt (exact rfl)) (by k_dflt (exact rfl)) (by k_dflt (exact rfl)) ?_ | refine code_defO (by exact rfl) (by exact rfl) (by first | exact rfl | assumption) (by k_asm) (by k_asm) (by k_asm) (by k_asm) (by k_asm) (by k_is) (by k_is) (by ktr_room) (by first | exact BindsTo.of_eq rfl | exact binds_K (by k_in) rfl (by k_is) rfl rfl rfl) (by decide) (by exact locs rfl) (by exact rfl) (by exact rfl) (by exact rfl) ?_); k_whole; intro g' L' h' FG' F' N' B' X' T'; (try dsimp only); (try k_lift B'); (try k_fold)) | ((first | with_reducible refine code_defCO (by k_dflt (exact rfl)) (by k_dflt (exact rfl)) (by k_dflt (first | exact rfl | assumption)) (by k_dflt (k_asm)) (by k_dflt (k_asm)) (by k_dflt (k_asm)) (by k_dflt (k_asm)) (by k_dflt (k_asm)) (by k_dflt (k_is)) (by k_dflt (k_is)) (by k_dflt (ktr_room)) (by k_dflt (first | exact BindsTo.of_eq rfl | exact binds_K (by k_in) rfl (by k_is) rfl rfl rfl)) (by k_dflt (exact rfl)) (by k_dflt (decide +kernel)) (by k_dflt (exact rfl)) (by k_dflt (exact rfl)) (by k_dflt (exact rfl)) ?_ | refine code_defCO (by exact rfl) (by exact rfl) (by first | exact rfl | assumption) (by k_asm) (by k_asm) (by k_asm) (by k_asm) (by k_asm) (by k_is) (by k_is) (by ktr_room) (by first | exact BindsTo.of_eq rfl | exact binds_K (by k_in) rfl (by k_is) rfl rfl rfl) (by exact rfl) (by decide +kernel) (by exact rfl) (by exact rfl) (by exact rfl) ?_); k_whole; intro g' L' h' tk' cells' FG' F' N' Y' B' X' T' l1; (try k_lt l1); k_cells Y'; (try simp only [List.cons_append, List.nil_append] at N'); (try dsimp only); (try k_lift B'); (try k_fold)))) | ((first | with_reducible refine wpAny_call ?_ | refine wpAny_call ?_); (first | ((first | with_reducible refine code_defO (by k_dflt (exact rfl)) (by k_dflt (exact rfl)) (by k_dflt (first | exact rfl | assumption)) (by k_dflt (k_asm)) (by k_dflt (k_asm)) (by k_dflt (k_asm)) (by k_dflt (k_asm)) (by k_dflt (k_asm)) (by k_dflt (k_is)) (by k_dflt (k_is)) (by k_dflt (ktr_room)) (by k_dflt (first | exact BindsTo.of_eq rfl | exact binds_K (by k_in) rfl (by k_is) rfl rfl rfl)) (by k_dflt (decide)) (by k_dflt (exact locs rfl)) (by k_dflt (exact rfl)) (by k_dflt (exact rfl)) (by k_dflt (exact rfl)) ?_ | refine code_defO (by exact rfl) (by exact rfl) (by first | exact rfl | assumption) (by k_asm) (by k_asm) (by k_asm) (by k_asm) (by k_asm) (by k_is) (by k_is) (by ktr_room) (by first | exact BindsTo.of_eq rfl | exact binds_K (by k_in) rfl (by k_is) rfl rfl rfl) (by decide) (by exact locs rfl) (by exact rfl) (by exact rfl) (by exact rfl) ?_); k_whole; intro g' L' h' FG' F' N' B' X' T'; (try dsimp only); (try k_lift B'); (try k_fold)) | ((first | with_reducible refine code_defCO (by k_dflt (exact rfl)) (by k_dflt (exact rfl)) (by k_dflt (first | exact rfl | assumption)) (by k_dflt (k_asm)) (by k_dflt (k_asm)) (by k_dflt (k_asm)) (by k_dflt (k_asm)) (by k_dflt (k_asm)) (by k_dflt (k_is)) (by k_dflt (k_is)) (by k_dflt (ktr_room)) (by k_dflt (first | exact BindsTo.of_eq rfl | exact binds_K (by k_in) rfl (by k_is) rfl rfl rfl)) (by k_dflt (exact rfl)) (by k_dflt (decide +kernel)) (by k_dflt (exact rfl)) (by k_dflt (exact rfl)) (by k_dflt (exact rfl)) ?_ | refine code_defCO (by exact rfl) (by exact rfl) (by first | exact rfl | assumption) (by k_asm) (by k_asm) (by k_asm) (by k_asm) (by k_asm) (by k_is) (by k_is) (by ktr_room) (by first | exact BindsTo.of_eq rfl | exact binds_K (by k_in) rfl (by k_is) rfl rfl rfl) (by exact rfl) (by decide +kernel) (by exact rfl) (by exact rfl) (by exact rfl) ?_); k_whole; intro g' L' h' tk' cells' FG' F' N' Y' B' X' T' l1; (try k_lt l1); k_cells Y'; (try simp only [List.cons_append, List.nil_append] at N'); (try dsimp only); (try k_lift B'); (try k_fold)))))))
  (k_with "execs cons" => (k_here; (with_reducible (refine gen_toks ?_)); intro tk))
  (k_with "execs nil" => (k_here; (with_reducible (refine gen_toks ?_)); intro tk))
  (k_with "call builtin:list.append" => (k_here; k_dflt ((first | with_reducible refine app_K (by k_dflt (k_asm)) (by k_dflt (k_asm)) (by k_dflt (k_updF)) (by k_dflt ((simp only [List.length_append, List.length_cons, List.length_nil]; omega))) ?_ | refine app_K (by k_asm) (by k_asm) (by k_updF) (by (simp only [List.length_append, List.length_cons, List.length_nil]; omega)) ?_)); intro h' F' N'; (try dsimp only at N'); (try dsimp only)))
  trivial
inductive RelL (Rel : Int → Value → Prop) : List Int → List Value → Prop
  | nil : RelL Rel [] []
  | cons {k : Int} {v : Value} {ks : List Int} {vs : List Value} : Rel k v → RelL Rel ks vs → RelL Rel (k :: ks) (v :: vs)
theorem RelL.snoc {Rel : Int → Value → Prop} : ∀ {ks : List Int} {vs : List Value} {k : Int} {v : Value}, RelL Rel ks vs → Rel k v → RelL Rel (ks ++ [k]) (vs ++ [v])
  | _, _, _, _, .nil, h => .cons h .nil
  | _, _, _, _, .cons a r, h => .cons a (r.snoc h)
theorem RelL.length {Rel : Int → Value → Prop} : ∀ {ks : List Int} {vs : List Value}, RelL Rel ks vs → vs.length = ks.length
  | _, _, .nil => rfl
  | _, _, .cons _ r => congrArg (· + 1) r.length
section
variable {prog : Program} {w : World} {A : Around} {E : Value → Shared → Prop} {h₀ : Heap} {L : Addr} {m : Str → Option Value} {env : Env} {elt : Expr} {x : Str} {scope : Scope} {cl : List (Str × Addr)} {s : Shared} {S : List (Addr × Obj) → Prop} {P : Nat → Value → Prop} {Fin : List Value → List (Addr × Obj) → Prop} {news : List (Addr × Obj)}
theorem comp_rel {n : Nat} {ks : List Int} (Rel : Int → Value → Prop) (hks : ks.length = n) (hP : ∀ i v, i < n → P i v → ∃ k t, ks[i]? = some k ∧ v = .int k t)
    (turn : ∀ k t I oI C oC D m₂ ys h tk (E' : Value → Shared → Prop), k ∈ ks → LCg.NsObj oC m₂ → m₂ x = some (.int k t) → Fr h₀ L h m → News h₀ L h ((I, oI) :: (C, oC) :: (D, LCg.lst ys) :: news) → LCg.Off3 I C D news → ((@Ne Nat I C) ∧ (@Ne Nat I D) ∧ (@Ne Nat C D)) → KPfMark →
      wpAny (model prog w) A (eval elt (compEnvC scope cl C env)) (LCg.CompEnd h₀ L m { s with heap := h, toks := tk } I oI C oC D (LCg.lst ys) S (fun y news' => news' = news ∧ Rel k y)) E' { s with heap := h, toks := tk })
    (fin : KPfDone (∀ ys, RelL Rel ks ys → Fin ys news)) : LCg.CompRest prog w A h₀ L m env elt x scope cl s S P Fin n 0 [] news := by
  unfold KPfDone at fin
  have key : ∀ (j i : Nat) (ys : List Value), i + j = n → RelL Rel (ks.take i) ys → LCg.CompRest prog w A h₀ L m env elt x scope cl s S P Fin j i ys news := by
    intro j
    induction j with
    | zero =>
      intro i ys hi hy
      have e : i = ks.length := by omega
      subst e
      rw [List.take_length] at hy
      exact LCg.CompRest.zero (fin ys hy)
    | succ j ih =>
      intro i ys hi hy
      refine LCg.CompRest.succ ?_
      intro v I oI C oC D m₂ h tk E' hv hC hx F N off ne
      obtain ⟨k, t, hk, hv'⟩ := hP i v (by omega) hv
      rw [hv'] at hx
      refine wpAny_mono (turn k t I oI C oC D m₂ ys h tk E' (List.mem_of_getElem? hk) hC hx F N off ne True.intro) (fun y s₂ hq => ?_) fun _ _ e => e
      obtain ⟨h', tk', nw, e, F', N', off', hS, hn, hr⟩ := hq
      rw [hn] at N' off' hS
      refine ⟨h', tk', news, e, F', N', off', hS, ?_⟩
      refine ih (i + 1) _ (by omega) ?_
      rw [List.take_add_one, hk]
      exact hy.snoc hr
  exact key n 0 [] (by omega) (by rw [List.take_zero]; exact .nil)
theorem comp_relR {n : Nat} {a : Int} (Rel : Int → Value → Prop)
    (turn : ∀ k t I oI C oC D m₂ ys h tk (E' : Value → Shared → Prop), a ≤ k → k < a + (n : Int) → LCg.NsObj oC m₂ → m₂ x = some (.int k t) → Fr h₀ L h m → News h₀ L h ((I, oI) :: (C, oC) :: (D, LCg.lst ys) :: news) → LCg.Off3 I C D news → ((@Ne Nat I C) ∧ (@Ne Nat I D) ∧ (@Ne Nat C D)) → KPfMark →
      wpAny (model prog w) A (eval elt (compEnvC scope cl C env)) (LCg.CompEnd h₀ L m { s with heap := h, toks := tk } I oI C oC D (LCg.lst ys) S (fun y news' => news' = news ∧ Rel k y)) E' { s with heap := h, toks := tk })
    (fin : KPfDone (∀ ys, RelL Rel (rangeKs a n) ys → Fin ys news)) : LCg.CompRest prog w A h₀ L m env elt x scope cl s S (fun i v => ∃ t, v = .int (a + (i : Int)) t) Fin n 0 [] news :=
  comp_rel (ks := rangeKs a n) Rel (rangeKs_length a n) (fun i v hi hv => by
    obtain ⟨t, e⟩ := hv
    exact ⟨a + (i : Int), t, by simp [rangeKs, hi], e⟩)
    (fun k t I oI C oC D m₂ ys h tk E' hk hC hx F N off ne mk => turn k t I oI C oC D m₂ ys h tk E' (mem_rangeKs hk).1 (mem_rangeKs hk).2 hC hx F N off ne mk) fin
def downL (a : Int) (n : Nat) : List Int := (List.range n).map fun i : Nat => a - (i : Int)
def SrcDown (prog : Program) (w : World) (A : Around) (h₀ : Heap) (L : Addr) (m : Str → Option Value) (env : Env) (elt : Expr) (x : Str) (scope : Scope) (cl : List (Str × Addr)) (Fin : Shared → List Value → List (Addr × Obj) → Prop) (xv : Value) (s₁ : Shared) : Prop :=
  ∃ r a b t u v n news, xv = .ref r ∧ A.handled = none ∧ Fr h₀ L s₁.heap m ∧ News h₀ L s₁.heap news ∧ IsRange s₁.heap r a b (-1) t u v ∧ Builtin.Range.small a b (-1) = true ∧ Builtin.Range.rangeSize a b (-1) = ((n : Nat) : Int) ∧ n ≤ sizeLine ∧
    ∀ s₂ : Shared, (∃ h, s₂ = { s₁ with heap := h }) → LCg.CompRest prog w A h₀ L m env elt x scope cl s₂ (fun _ => True) (fun i v => ∃ t, v = .int (a + (i : Int) * (-1)) t) (Fin s₂) n 0 [] news
theorem SrcDown.mk {r : Addr} {a b : Int} {t u v : Tok} {n : Nat} {s₁ : Shared} {F₀ : Shared → List Value → List (Addr × Obj) → Prop}
    (hh : A.handled = none) (F : Fr h₀ L s₁.heap m) (N : News h₀ L s₁.heap news) (hr : IsRange s₁.heap r a b (-1) t u v) (hsm : Builtin.Range.small a b (-1) = true) (hn : Builtin.Range.rangeSize a b (-1) = ((n : Nat) : Int)) (hsz : n ≤ sizeLine) (Rel : Int → Value → Prop)
    (turn : ∀ g k t I oI C oC D m₂ ys h tk (E' : Value → Shared → Prop), a - (n : Int) < k → k ≤ a → LCg.NsObj oC m₂ → m₂ x = some (.int k t) → Fr h₀ L h m → News h₀ L h ((I, oI) :: (C, oC) :: (D, LCg.lst ys) :: news) → LCg.Off3 I C D news → ((@Ne Nat I C) ∧ (@Ne Nat I D) ∧ (@Ne Nat C D)) → KPfMark →
      wpAny (model prog w) A (eval elt (compEnvC scope cl C env)) (LCg.CompEnd h₀ L m { s₁ with heap := h, toks := tk } I oI C oC D (LCg.lst ys) (fun _ => True) (fun y news' => news' = news ∧ Rel k y)) E' { { s₁ with heap := g } with heap := h, toks := tk })
    (fin : ∀ g, KPfDone (∀ ys, RelL Rel (downL a n) ys → F₀ { s₁ with heap := g } ys news)) : SrcDown prog w A h₀ L m env elt x scope cl F₀ (.ref r) s₁ := by
  refine ⟨r, a, b, t, u, v, n, news, rfl, hh, F, N, hr, hsm, hn, hsz, ?_⟩
  rintro s₂ ⟨g, rfl⟩
  refine comp_rel (ks := downL a n) Rel (by simp [downL]) (fun i v hi hv => ?_) (fun k t I oI C oC D m₂ ys h tk E' hk hC hx F N off ne mk => ?_) (fin g)
  · obtain ⟨t, e⟩ := hv
    have e9 : a + (i : Int) * (-1) = a - (i : Int) := by omega
    exact ⟨a - (i : Int), t, by simp [downL, hi], e9 ▸ e⟩
  · have : a - (n : Int) < k ∧ k ≤ a := by
      obtain ⟨i, hi, rfl⟩ := List.mem_map.mp hk
      have := List.mem_range.mp hi
      omega
    exact turn g k t I oI C oC D m₂ ys h tk E' this.1 this.2 hC hx F N off ne mk
theorem range_stD {I : Addr} {a : Int} {n : Nat} : ∀ i (h h' : Heap) (o : Obj) (nw : List (Addr × Obj)), IsRangeIter h I (a + (i : Nat) * (-1)) ((n : Int) - (i : Nat)) (-1) → h.get? I = some o → h'.get? I = some o → (∀ b o, h₀.get? b = some o → h'.get? b = some o) → News h₀ L h' nw → True → IsRangeIter h' I (a + (i : Nat) * (-1)) ((n : Int) - (i : Nat)) (-1) :=
  fun i h h' o nw st e e' _ _ _ => by
    have st' : h.get? I = some _ := st
    show h'.get? I = some _
    rw [e', ← e]; exact st'
theorem ListComp_D {iter : Expr} {px : Pos} {pos : Pos} {Q : Value → Shared → Prop} (F₀ : Fr h₀ L s.heap m)
    (hclos : closureFor scope env = pure cl) (hcell : ∀ y ∈ scope.names, y.2 ≠ .cell) (hkind : scope.kind = .function)
    (hnames : ∀ y ∈ scope.names, y.2 = .local → scope.names.lookup y.1 = some .local) (hx : scope.names.lookup x = some .local)
    (h : wpAny (model prog w) A (eval iter env) (SrcDown prog w A h₀ L m env elt x scope cl (fun s₂ => LCg.FinE h₀ L m s₂ Q)) E s)
    (hs : ∀ x, foldedSetIterable iter env x = pure x := by intro _; rfl) :
    wpAny (model prog w) A (eval (.ListComp elt [⟨.Name x px, iter, [], 0⟩] scope pos) env) Q E s := by
  rw [eval_ListComp]
  refine wpAny_comprehension_free (use := none) rfl hs hclos hkind hnames (wpAny_mono h (fun xv s₁ h₁ => ?_) fun _ _ e => e)
  obtain ⟨r, a, b, t, u, v, n, news, rfl, hh, F, N, hr, hsm, hn, hsz, R⟩ := h₁
  refine wpAny_pyIter_range hr hsm ?_
  refine LCg.block_U (Walks.range hh s₁.heap.objs.size a (-1) n) hsz (fun i h st => ⟨_, st⟩) range_stD hcell hkind hx (by show IsRangeIter _ _ _ _ _; rw [hn]; simpa using Heap.get?_push_size _ rfl) (fun b hb => ?_)
    (F.keeps fun _ _ e => Heap.get?_push_of_some _ e) (N.grown fun _ _ e => Heap.get?_push_of_some _ e) (Nat.ne_of_lt F.ns.lt) (next_is_new F) (fun p hp => Nat.ne_of_lt (Heap.lt_size (N p hp).1)) trivial (R _ ⟨_, rfl⟩) ?_
  · rw [List.mem_singleton.mp hb]
    show s₁.heap.objs.size < (s₁.heap.push _).objs.size
    rw [Heap.size_push]; exact Nat.lt_succ_self _
  · intro D C h tk m' ys news' F' N' o1 hn hC₀ hD₀ hCL hDL hCD offC fin
    refine ⟨m', hn, fun h'' hs'' => fin D h'' tk (F'.change hs'' hCL hC₀) (fun p hp => ?_) o1⟩
    refine ⟨hs''.extBut _ _ ?_ (N' p hp).1, (N' p hp).2⟩
    rcases List.mem_cons.mp hp with rfl | hp
    · exact Ne.symm hCD
    · exact offC p hp
end

end

section
theorem wordsExcRb : True := by
  w_top off
  k_with_none
  (k_with "exec For Name Subscript cons nil" => (k_here; (rename Fr _ _ _ _ => lF'); (with_unfolding_all refine For_invVF lF' (by exact rfl) (by exact rfl) ?_; k_whole)))
  (k_with "call ref" => (k_here; k_dflt (first | (refine call_meth (by k_asm) (by k_mem) ?_; k_whole; (first | ((first | with_reducible refine code_defO (by k_dflt (exact rfl)) (by k_dflt (exact rfl)) (by k_dflt (first | exact rfl | assumption)) (by k_dflt (k_asm)) (by k_dflt (k_asm)) (by k_dflt (k_asm)) (by k_dflt (k_asm)) (by k_dflt (k_asm)) (by k_dflt (k_is)) (by k_dflt (k_is)) (by k_dflt (ktr_room)) (by k_dflt (first | exact BindsTo.of_eq rfl | exact binds_K (by k_in) rfl (by k_is) rfl rfl rfl)) (by k_dflt (decide)) (by k_dflt (exact locs rfl)) (by k_dflt (exact rfl)) (by k_dflt (exact rfl)) (by k_dflt (exact rfl)) ?_ | refine code_defO (by exact rfl) (by exact rfl) (by first | exact rfl | assumption) (by k_asm) (by k_asm) (by k_asm) (by k_asm) (by k_asm) (by k_is) (by k_is) (by ktr_room) (by first | exact BindsTo.of_eq rfl | exact binds_K (by k_in) rfl (by k_is) rfl rfl rfl) (by decide) (by exact locs rfl) (by exact rfl) (by exact rfl) (by exact rfl) ?_); k_whole; intro g' L' h' FG' F' N' B' X' T'; (try dsimp only); (try k_lift B'); (try k_fold)) | ((first | with_reducible refine code_defCO (by k_dflt (exact rfl)) (by k_dflt (exact rfl)) (by k_dflt (first | exact rfl | assumption)) (by k_dflt (k_asm)) (by k_dflt (k_asm)) (by k_dflt (k_asm)) (by k_dflt (k_asm)) (by k_dflt (k_asm)) (by k_dflt (k_is)) (by k_dflt (k_is)) (by k_dflt (ktr_room)) (by k_dflt (first | exact BindsTo.of_eq rfl | exact binds_K (by k_in) rfl (by k_is) rfl rfl rfl)) (by k_dflt (exact rfl)) (by k_dflt (decide +kernel)) (by k_dflt (exact rfl)) (by k_dflt (exact rfl)) (by k_dflt (exact rfl)) ?_ | refine code_defCO (by exact rfl) (by exact rfl) (by first | exact rfl | assumption) (by k_asm) (by k_asm) (by k_asm) (by k_asm) (by k_asm) (by k_is) (by k_is) (by ktr_room) (by first | exact BindsTo.of_eq rfl | exact binds_K (by k_in) rfl (by k_is) rfl rfl rfl) (by exact rfl) (by decide +kernel) (by exact rfl) (by exact rfl) (by exact rfl) ?_); k_whole; intro g' L' h' tk' cells' FG' F' N' Y' B' X' T' l1; (try k_lt l1); k_cells Y'; (try simp only [List.cons_append, List.nil_append] at N'); (try dsimp only); (try k_lift B'); (try k_fold)))) | ((first | with_reducible refine call_cls (by k_dflt (k_asm)) (by k_dflt (k_asm)) (by k_dflt (k_asm)) (by k_dflt (k_is)) (by k_dflt (k_is)) (by k_dflt (k_is)) ?_ | refine call_cls (by k_asm) (by k_asm) (by k_asm) (by k_is) (by k_is) (by k_is) ?_); k_whole; intro x' d' h' F' N' l1 l2; (try k_lt l1); (try k_lt2 l2); (try k_sweep); (first | ((first | with_reducible refine code_defO (by k_dflt (exact rfl)) (by k_dflt (exact rfl)) (by k_dflt (first | exact rfl | assumption)) (by k_dflt (k_asm)) (by k_dflt (k_asm)) (by k_dflt (k_asm)) (by k_dflt (k_asm)) (by k_dflt (k_asm)) (by k_dflt (k_is)) (by k_dflt (k_is)) (by k_dflt (ktr_room)) (by k_dflt (first | exact BindsTo.of_eq rfl | exact binds_K (by k_in) rfl (by k_is) rfl rfl rfl)) (by k_dflt (decide)) (by k_dflt (exact locs rfl)) (by k_dflt (exact rfl)) (by k_dflt (exact rfl)) (by k_dflt (exact rfl)) ?_ | refine code_defO (by exact rfl) (by exact rfl) (by first | exact rfl | assumption) (by k_asm) (by k_asm) (by k_asm) (by k_asm) (by k_asm) (by k_is) (by k_is) (by ktr_room) (by first | exact BindsTo.of_eq rfl | exact binds_K (by k_in) rfl (by k_is) rfl rfl rfl) (by decide) (by exact locs rfl) (by exact rfl) (by exact rfl) (by exact rfl) ?_); k_whole; intro g' L' h' FG' F' N' B' X' T'; (try dsimp only); (try k_lift B'); (try k_fold)) | ((first | with_reducible refine code_defCO (by k_dflt (exact rfl)) (by k_dflt (exact rfl)) (by k_dflt (first | exact rfl | assumption)) (by k_dflt (k_asm)) (by k_dflt (k_asm)) (by k_dflt (k_asm)) (by k_dflt (k_asm)) (by k_dflt (k_asm)) (by k_dflt (k_is)) (by k_dflt (k_is)) (by k_dflt (ktr_room)) (by k_dflt (first | exact BindsTo.of_eq rfl | exact binds_K (by k_in) rfl (by k_is) rfl rfl rfl)) (by k_dflt (exact rfl)) (by k_dflt (decide +kernel)) (by k_dflt (exact rfl)) (by k_dflt (exact rfl)) (by k_dflt (exact rfl)) ?_ | refine code_defCO (by exact rfl) (by exact rfl) (by first | exact rfl | assumption) (by k_asm) (by k_asm) (by k_asm) (by k_asm) (by k_asm) (by k_is) (by k_is) (by ktr_room) (by first | exact BindsTo.of_eq rfl | exact binds_K (by k_in) rfl (by k_is) rfl rfl rfl) (by exact rfl) (by decide +kernel) (by exact rfl) (by exact rfl) (by exact rfl) ?_); k_whole; intro g' L' h' tk' cells' FG' F' N' Y' B' X' T' l1; (try k_lt l1); k_cells Y'; (try simp only [List.cons_append, List.nil_append] at N'); (try dsimp only); (try k_lift B'); (try k_fold)))) | ((first | with_reducible refine wpAny_call ?_ | refine wpAny_call ?_); (first | ((first | with_reducible refine code_defO (by k_dflt (exact rfl)) (by k_dflt (exact rfl)) (by k_dflt (first | exact rfl | assumption)) (by k_dflt (k_asm)) (by k_dflt (k_asm)) (by k_dflt (k_asm)) (by k_dflt (k_asm)) (by k_dflt (k_asm)) (by k_dflt (k_is)) (by k_dflt (k_is)) (by k_dflt (ktr_room)) (by k_dflt (first | exact BindsTo.of_eq rfl | exact binds_K (by k_in) rfl (by k_is) rfl rfl rfl)) (by k_dflt (decide)) (by k_dflt (exact locs rfl)) (by k_dflt (exact rfl)) (by k_dflt (exact rfl)) (by k_dflt (exact rfl)) ?_ | refine code_defO (by exact rfl) (by exact rfl) (by first | exact rfl | assumption) (by k_asm) (by k_asm) (by k_asm) (by k_asm) (by k_asm) (by k_is) (by k_is) (by ktr_room) (by first | exact BindsTo.of_eq rfl | exact binds_K (by k_in) rfl (by k_is) rfl rfl rfl) (by decide) (by exact locs rfl) (by exact rfl) (by exact rfl) (by exact rfl) ?_); k_whole; intro g' L' h' FG' F' N' B' X' T'; (try dsimp only); (try k_lift B'); (try k_fold)) | ((first | with_reducible refine code_defCO (by k_dflt (exact rfl)) (by k_dflt (exact rfl)) (by k_dflt (first | exact rfl | assumption)) (by k_dflt (k_asm)) (by k_dflt (k_asm)) (by k_dflt (k_asm)) (by k_dflt (k_asm)) (by k_dflt (k_asm)) (by k_dflt (k_is)) (by k_dflt (k_is)) (by k_dflt (ktr_room)) (by k_dflt (first | exact BindsTo.of_eq rfl | exact binds_K (by k_in) rfl (by k_is) rfl rfl rfl)) (by k_dflt (exact rfl)) (by k_dflt (decide +kernel)) (by k_dflt (exact rfl)) (by k_dflt (exact rfl)) (by k_dflt (exact rfl)) ?_ | refine code_defCO (by exact rfl) (by exact rfl) (by first | exact rfl | assumption) (by k_asm) (by k_asm) (by k_asm) (by k_asm) (by k_asm) (by k_is) (by k_is) (by ktr_room) (by first | exact BindsTo.of_eq rfl | exact binds_K (by k_in) rfl (by k_is) rfl rfl rfl) (by exact rfl) (by decide +kernel) (by exact rfl) (by exact rfl) (by exact rfl) ?_); k_whole; intro g' L' h' tk' cells' FG' F' N' Y' B' X' T' l1; (try k_lt l1); k_cells Y'; (try simp only [List.cons_append, List.nil_append] at N'); (try dsimp only); (try k_lift B'); (try k_fold)))))))
  (k_with "execs cons" => (k_here; (with_reducible (refine gen_toks ?_)); intro tk))
  (k_with "execs nil" => (k_here; (with_reducible (refine gen_toks ?_)); intro tk))
  trivial
section
variable {prog : Program} {w : World} {A : Around} {R : Result → Shared → Prop} {h : Heap} {g : Array GenState} {d : Drawn} {t : Nat} {os : OsState}
variable {nm q : Str} {C N : Addr} {bs bm bmB : List Value} {hdct : Bool} {sn : List Str} {sub : List Value} {ab : Bool} {col : Option Bool} {dd : Option Addr} {k0 k1 k2 k3 k5 : Option Value} {B newId initId : String}
theorem exc_check_new (F : ExcBaseFacts B newId initId bmB) (hb : bm.contains (.type B) = true) {E : Value → Shared → Prop} {M : Model} {rest : List Value} {Q : Unit → Shared → Prop} (hC : h.get? C = some (excClassObj nm q C N bs bm hdct sn sub ab col dd k0 k1 k2 k3 k5 newId))
    (hq : Q () ⟨h, g, d, t, os⟩) : wpAny M A (checkBuiltinCall newId ⟨.ref C :: rest, []⟩) Q E ⟨h, g, d, t, os⟩ := by
  have hcont : (Value.ref C :: bm).contains (.type B) = true := by rw [List.contains_cons, hb, Bool.or_true]
  have hstar := F.noStar
  simp only [checkBuiltinCall, F.newKind, F.newSplit, F.newRow]
  repeat (first | with_reducible refine wpAny_loadPart_at hC ?_ | (with_reducible refine wpAny_isSubtype_exc hC ?_; rw [hcont]) | with_reducible refine wpAny_staticBase_exc hC ?_ | with_reducible refine wpAny_madeBy_exc hC ?_ | simp only [bne_self_eq_false, Bool.false_eq_true, if_false] | wp_step)
  exact hq
theorem exc_new (F : ExcBaseFacts B newId initId bmB) (hb : bm.contains (.type B) = true) (ha : bm.contains (.type "AttributeError") = false) (hn : bm.contains (.type "NameError") = false) {rest : List Value} (hC : h.get? C = some (excClassObj nm q C N bs bm hdct sn sub ab col dd k0 k1 k2 k3 k5 newId))
    (hq : R (.ok (.ret (.ref (h.objs.size + 1)))) ⟨(h.push { cls := .type "tuple", data := .seq rest.toArray }).push
      { cls := .ref C, data := .fields #[.ref h.objs.size, .none, .none, .none, .bool false, .none] }, g, d, t, os⟩) (hrest : rest.length ≤ sizeLine) :
    codeAny (model prog w) A (.builtin newId ⟨.ref C :: rest, []⟩) R ⟨h, g, d, t, os⟩ := by
  have hends := F.ends
  have hcB : (Value.ref C :: bm).contains (.type B) = true := by rw [List.contains_cons, hb, Bool.or_true]
  have hcA : (Value.ref C :: bm).contains (.type "AttributeError") = false := by rw [List.contains_cons, ha]; rfl
  have hcN : (Value.ref C :: bm).contains (.type "NameError") = false := by rw [List.contains_cons, hn]; rfl
  refine codeAny_builtinAt F.entry ?_
  unfold Builtin.«BaseException.__new__»
  refine PySem.wpAt_bind ?_
  show PySem.wpAt _ _ _ (stack >>= _) _ _ _
  refine PySem.wpAt_bind (PySem.wpAt_stack fun p below => PySem.wpAt_of_wpAny ?_)
  wp_walk
  refine PySem.wpAt_of_wpAny ?_
  rw [F.owner]
  repeat (first | with_reducible refine wpAny_madeHere_exc F.canon hC ?_ | with_reducible refine wpAny_loadPart_at hC ?_ | (with_reducible refine wpAny_isSubtype_exc hC ?_; first | rw [hcB] | rw [hcA] | rw [hcN]) | wp_step)
  show R _ _
  rw [Heap.size_push]
  exact hq
abbrev excObj (C t : Addr) : Obj := { cls := .ref C, data := .fields #[.ref t, .none, .none, .none, .bool false, .none] }
abbrev tupObj (vs : List Value) : Obj := { cls := .type "tuple", data := .seq vs.toArray }
theorem exc_make (F : ExcBaseFacts B newId initId bmB) (hb : bm.contains (.type B) = true) (ha : bm.contains (.type "AttributeError") = false) (hn : bm.contains (.type "NameError") = false) {rest : List Value} {fI : Addr} (hC : h.get? C = some (excClassObj nm q C N bs bm hdct sn sub ab col dd k0 k1 k2 k3 k5 newId))
    (hi : Looks (model prog w) h (typeLookup (.ref C) "__init__") (some (.ref fI))) (hbd : ∀ self, Looks (model prog w) h (bindSpecial (.ref fI) self) (.ref fI, [self]))
    (hs : Looks (model prog w) h (isSubtype (.ref C) (.ref C)) true) (hrest : rest.length ≤ sizeLine)
    (hq : codeAny (model prog w) (A.under (.builtin "type.__call__" ⟨.ref C :: rest, []⟩)) (.call (.ref fI) ⟨.ref (h.objs.size + 1) :: rest, []⟩) (InitBack (h.objs.size + 1) R) ⟨(h.push (tupObj rest)).push (excObj C h.objs.size), g, d, t, os⟩) :
    codeAny (model prog w) A (.call (.ref C) ⟨rest, []⟩) R ⟨h, g, d, t, os⟩ := by
  have f1 := tc_lookup
  have f2 := tc_bind (.ref C)
  have hT : (⟨h, g, d, t, os⟩ : Shared).TypeIs (.ref C) "type" := ⟨_, hC, rfl⟩
  refine codeAny_of_tree ?_
  show wpAny _ _ (callAny (.ref C) _) _ _ _
  repeat (any_goals (first | assumption | with_reducible refine wpAny_loadPart_at hC ?_ | wp_step))
  refine ⟨rfl, ?_⟩
  refine codeAny_call_builtin_at (Code.quiet_builtin _ (by decide +kernel)) entry_typeCall (wpAny_check_type_call_sub hC ?_)
  repeat (first | with_reducible refine wpAny_loadPart_at hC ?_ | with_reducible refine wpAny_madeBy_exc hC ?_ | wp_step)
  refine codeAny_call_builtin_code (Code.quiet_builtin _ F.quiet) (exc_check_new F hb hC ?_)
  refine exc_new F hb ha hn hC ?_ hrest
  show wpAny _ _ _ _ _ ⟨(h.push (tupObj rest)).push (excObj C h.objs.size), g, d, t, os⟩
  have k : ∀ b o, h.get? b = some o → ((h.push (tupObj rest)).push (excObj C h.objs.size)).get? b = some o := fun b o e => Heap.get?_push_of_some _ (Heap.get?_push_of_some _ e)
  have hget : ((h.push (tupObj rest)).push (excObj C h.objs.size)).get? (h.objs.size + 1) = some (excObj C h.objs.size) := by heap_get
  have t1 : Looks (model prog w) ((h.push (tupObj rest)).push (excObj C h.objs.size)) (typeOf (.ref (h.objs.size + 1))) (.ref C) := (Looks.ld hget).andThen .now
  have s1 := hs.keeps k
  have i1 := hi.keeps k
  have b1 := (hbd (.ref (h.objs.size + 1))).keeps k
  unfold isInstance callSpecial? specialOf
  repeat (first | with_reducible refine wpAny_call ?_ | lk)
  refine codeAny_mono hq fun r s' z => ?_
  rcases r with e | (v | _ | _ | _) <;> first | exact z | exact z.elim | skip
  obtain ⟨rfl, z⟩ := z
  exact wpAny_pure (wpAny_pure z)
theorem exc_classIn {K : Frag} {C : Addr} {nm : Str} {bs : List Value} {bm : List Value} {N : Addr} {q : Str} {hdct : Bool} {sn : List Str} {sub : List Value} {ab : Bool} {col : Option Bool} {dd : Option Addr} {k0 k1 k2 k3 k5 : Option Value} {newId : String} {h : Heap} (X : K.In h)
    (e : K.lookup C = some (excClassObj nm q C N bs bm hdct sn sub ab col dd k0 k1 k2 k3 k5 newId)) : h.get? C = some (excClassObj nm q C N bs bm hdct sn sub ab col dd k0 k1 k2 k3 k5 newId) := X _ _ e
end
section
variable {prog : Program} {w : World} {A : Around} {K : Frag} {C : Addr} {s : Shared} {h₀ : Heap} {L : Addr} {m : Str → Option Value} {news : List (Addr × Obj)} {R : Result → Shared → Prop}
variable {nm q : Str} {N : Addr} {bs bm bmB : List Value} {hdct : Bool} {sn : List Str} {sub : List Value} {ab : Bool} {col : Option Bool} {dd : Option Addr} {k0 k1 k2 k3 k5 : Option Value} {B newId initId : String}
theorem exc_K (X₀ : K.In h₀) (F : Fr h₀ L s.heap m) (Nw : News h₀ L s.heap news) (hC : K.lookup C = some (excClassObj nm q C N bs bm hdct sn sub ab col dd k0 k1 k2 k3 k5 newId)) (Fb : ExcBaseFacts B newId initId bmB)
    {rest : List Value} {fI : Addr} (hi : findIn K (.ref C) "__init__" = some (some (.ref fI))) (hf : typeIn K (.ref fI) = some (.type "function")) (hs : subIn K (.ref C) (.ref C) = some true)
    (hb : bm.contains (.type B) = true) (ha : bm.contains (.type "AttributeError") = false) (hn : bm.contains (.type "NameError") = false) (hrest : rest.length ≤ sizeLine)
    (h : ∀ e t h', Fr h₀ L h' m → News h₀ L h' ((e, excObj C t) :: (t, tupObj rest) :: news) → (∀ p ∈ news, p.1 < t) → t < e →
      codeAny (model prog w) (A.under (.builtin "type.__call__" ⟨.ref C :: rest, []⟩)) (.call (.ref fI) ⟨.ref e :: rest, []⟩) (InitBack e R) { s with heap := h' }) :
    codeAny (model prog w) A (.call (.ref C) ⟨rest, []⟩) R s := by
  have X := X₀.keeps F.keep
  obtain ⟨hh, g, d, t, os⟩ := s
  refine exc_make Fb hb ha hn (X _ _ hC) (looks_findIn X hi) (fun self => bind_fn X self hf) (looks_subIn X hs) hrest (h _ hh.objs.size _ ((F.push _).push _) ?_ (fun p hp => Heap.lt_size (Nw p hp).1) (Nat.lt_succ_self _))
  have := (Nw.push F (tupObj rest)).push (F.push _) (excObj C hh.objs.size)
  rwa [Heap.size_push] at this
end
section
variable {prog : Program} {w : World} {A : Around} {K : Frag} {C e t : Addr} {s : Shared} {h₀ : Heap} {L : Addr} {m : Str → Option Value} {post : List (Addr × Obj)} {E : Value → Shared → Prop} {Q : Unit → Shared → Prop} {name : Str} {v : Value} {cd : ClassData}
abbrev excObjD (C t D : Addr) : Obj := { cls := .ref C, dict := some D, data := .fields #[.ref t, .none, .none, .none, .bool false, .none] }
theorem exc_set (X₀ : K.In h₀) (F : Fr h₀ L s.heap m) (N : News h₀ L s.heap ((e, excObj C t) :: post)) (hp : ∀ p ∈ post, p.1 ≠ e)
    (hs : findIn K (.ref C) "__setattr__" = some (some (.builtin "object.__setattr__"))) (hc : clsIn K C = some cd) (hr : ∀ self, refuseLoop self "__setattr__" cd.mro = pure ()) (ho : cd.mro.contains (.type "object") = true)
    (hne : cd.mro.isEmpty = false) (hd : cd.hasDict = true) (ht : findIn K (.ref C) name = some none)
    (h : ∀ h' D oD tk, Fr h₀ L h' m → News h₀ L h' ((D, oD) :: (e, excObjD C t D) :: post) → (∀ p ∈ post, p.1 ≠ D) → D ≠ e → Q () { s with heap := h', toks := tk }) :
    wpAny (model prog w) A (setAttr (.ref e) name v) Q E s := by
  have X := X₀.keeps F.keep
  obtain ⟨hh, g, d, tk, os⟩ := s
  have SF := PySem.F.store_object
  have hx := (N _ (.head _)).1
  have ty : Looks (model prog w) hh (typeOf (.ref e)) (.ref C) := (Looks.ld hx).andThen .now
  have sub : Looks (model prog w) hh (isInstance (.ref e) (.type "object")) true := ty.andThen (looks_mroIn X (by unfold mroIn; rw [hc, Option.bind_some, if_neg (by rw [hne]; decide), ho]))
  have hm : Looks (model prog w) hh (mroOf (.ref C)) cd.mro := (looks_clsIn X hc).andThen .now
  refine wpAny_bind (wpAny_mkText (wpAny_bind (wpAny_bind (wpAny_bind (ty _ _ _ _ (fun _ _ e => e) (looks_findIn X hs _ _ _ _ (fun _ _ e => e) (wpAny_holding ?_)))))))
  rw [PySem.F.store_object.slot.bind]
  refine wpAny_bind (wpAny_pure (wpAny_bind (wpAny_call ?_)))
  refine codeAny_call_builtin SF.slot.plain SF.entry (@check_slot (model prog w) _ _ _ "object.__setattr__" "object" "__setattr__" (.ref e) [.str name tk, v] [] _ SF.kind SF.split sub (SF.args (.ref e) (.str name tk) v) ?_)
  show wpAny _ _ (Builtin.«object.__setattr__» ⟨[.ref e, .str name tk, v], []⟩) _ _ _
  rw [osa_eq, refuse_eq]
  refine wpAny_bind (wpAny_bind (ty _ _ _ _ (fun _ _ e => e) (wpAny_bind (hm _ _ _ _ (fun _ _ e => e) ?_))))
  rw [hr]
  refine wpAny_pure (wpAny_bind (ty _ _ _ _ (fun _ _ e => e) (wpAny_bind (looks_findIn X ht _ _ _ _ (fun _ _ e => e) (wpAny_bind (wpAny_pure ?_))))))
  show wpAny _ _ (Builtin.ObjectAttr.storeInOwnDict _ _ _ _ _ _) _ _ _
  refine wpAny_bind (wpAny_pure (wpAny_bind (wpAny_bind (wpAny_loadPart hx (wpAny_bind (looks_clsIn X hc _ _ _ _ (fun _ _ e => e) ?_))))))
  rw [hd]
  have F1 := F.push emptyDict
  have N1 := N.push F emptyDict
  have hxs : hh.objs.size ≠ e := (Nat.ne_of_lt (Heap.lt_size hx)).symm
  have hps : ∀ p ∈ post, p.1 ≠ hh.objs.size := fun p hp => Nat.ne_of_lt (Heap.lt_size (N p (.tail _ hp)).1)
  obtain ⟨F2, N2⟩ := news_upd (f := fun o => { o with dict := some hh.objs.size }) (o' := excObjD C t hh.objs.size) (pre := [(hh.objs.size, emptyDict)]) F1 N1 (fun p hp => by rw [List.mem_singleton.mp hp]; exact hxs) hp rfl rfl
  obtain ⟨F3, N3⟩ := news_upd (f := Obj.putName name (PyData.keyHash w.params name) (.str name (tk + 1)) v) (pre := []) F2 N2 (fun p hp => nomatch hp) (fun p hp => by
    rcases List.mem_cons.mp hp with e | e
    · rw [e]; exact hxs.symm
    · exact hps p e) rfl rfl
  have hx₁ := (N1 _ (.tail _ (.head _))).1
  have D := (N2 _ (.head _)).1
  have D' := (N3 _ (.head _)).1
  refine wpAny_bind (wpAny_alloc' ?_)
  refine wpAny_bind (wpAny_update' hx₁ ?_)
  refine wpAny_pure ?_
  show wpAny _ _ (Builtin.ObjectAttr.storeInDict hh.objs.size (.str name tk) name v) _ _ _
  unfold Builtin.ObjectAttr.storeInDict Builtin.ObjectAttr.newKeyGuard
  refine wpAny_bind (wpAny_pure (wpAny_bind ?_))
  unfold nsSet
  refine wpAny_bind (wpAny_bind (wpAny_askSetting (wpAny_pure (wpAny_bind (wpAny_mkText (wpAny_bind (wpAny_loadPart D ?_)))))))
  dsimp only
  rw [aRefKeyMayBeTheName_at, show (!(#[] : Array DictEntry).any (·.key.isStr name) && (#[] : Array DictEntry).any (·.refKey)) = false from by simp]
  refine wpAny_updatePart D ?_
  refine wpAny_bind (wpAny_lookBehind D' (by first | exact pastItsLine_dict (by decide) | rfl) ?_)
  exact wpAny_pure (wpAny_pure (wpAny_pure (h _ _ _ _ F3 N3 hps hxs)))
end

end

section
theorem wordsSExcb : True := by
  w_top off
  k_with_none
  (k_with "exec For Name Subscript cons nil" => (k_here; (rename Fr _ _ _ _ => lF'); (with_unfolding_all refine For_invVF lF' (by exact rfl) (by exact rfl) ?_; k_whole)))
  (k_with "call ref" => (k_here; k_dflt (first | (refine call_meth (by k_asm) (by k_mem) ?_; k_whole; (first | ((first | with_reducible refine code_defO (by k_dflt (exact rfl)) (by k_dflt (exact rfl)) (by k_dflt (first | exact rfl | assumption)) (by k_dflt (k_asm)) (by k_dflt (k_asm)) (by k_dflt (k_asm)) (by k_dflt (k_asm)) (by k_dflt (k_asm)) (by k_dflt (k_is)) (by k_dflt (k_is)) (by k_dflt (ktr_room)) (by k_dflt (first | exact BindsTo.of_eq rfl | exact binds_K (by k_in) rfl (by k_is) rfl rfl rfl)) (by k_dflt (decide)) (by k_dflt (exact locs rfl)) (by k_dflt (exact rfl)) (by k_dflt (exact rfl)) (by k_dflt (exact rfl)) ?_ | refine code_defO (by exact rfl) (by exact rfl) (by first | exact rfl | assumption) (by k_asm) (by k_asm) (by k_asm) (by k_asm) (by k_asm) (by k_is) (by k_is) (by ktr_room) (by first | exact BindsTo.of_eq rfl | exact binds_K (by k_in) rfl (by k_is) rfl rfl rfl) (by decide) (by exact locs rfl) (by exact rfl) (by exact rfl) (by exact rfl) ?_); k_whole; intro g' L' h' FG' F' N' B' X' T'; (try dsimp only); (try k_lift B'); (try k_fold)) | ((first | with_reducible refine code_defCO (by k_dflt (exact rfl)) (by k_dflt (exact rfl)) (by k_dflt (first | exact rfl | assumption)) (by k_dflt (k_asm)) (by k_dflt (k_asm)) (by k_dflt (k_asm)) (by k_dflt (k_asm)) (by k_dflt (k_asm)) (by k_dflt (k_is)) (by k_dflt (k_is)) (by k_dflt (ktr_room)) (by k_dflt (first | exact BindsTo.of_eq rfl | exact binds_K (by k_in) rfl (by k_is) rfl rfl rfl)) (by k_dflt (exact rfl)) (by k_dflt (decide +kernel)) (by k_dflt (exact rfl)) (by k_dflt (exact rfl)) (by k_dflt (exact rfl)) ?_ | refine code_defCO (by exact rfl) (by exact rfl) (by first | exact rfl | assumption) (by k_asm) (by k_asm) (by k_asm) (by k_asm) (by k_asm) (by k_is) (by k_is) (by ktr_room) (by first | exact BindsTo.of_eq rfl | exact binds_K (by k_in) rfl (by k_is) rfl rfl rfl) (by exact rfl) (by decide +kernel) (by exact rfl) (by exact rfl) (by exact rfl) ?_); k_whole; intro g' L' h' tk' cells' FG' F' N' Y' B' X' T' l1; (try k_lt l1); k_cells Y'; (try simp only [List.cons_append, List.nil_append] at N'); (try dsimp only); (try k_lift B'); (try k_fold)))) | ((first | with_reducible refine call_cls (by k_dflt (k_asm)) (by k_dflt (k_asm)) (by k_dflt (k_asm)) (by k_dflt (k_is)) (by k_dflt (k_is)) (by k_dflt (k_is)) ?_ | refine call_cls (by k_asm) (by k_asm) (by k_asm) (by k_is) (by k_is) (by k_is) ?_); k_whole; intro x' d' h' F' N' l1 l2; (try k_lt l1); (try k_lt2 l2); (try k_sweep); (first | ((first | with_reducible refine code_defO (by k_dflt (exact rfl)) (by k_dflt (exact rfl)) (by k_dflt (first | exact rfl | assumption)) (by k_dflt (k_asm)) (by k_dflt (k_asm)) (by k_dflt (k_asm)) (by k_dflt (k_asm)) (by k_dflt (k_asm)) (by k_dflt (k_is)) (by k_dflt (k_is)) (by k_dflt (ktr_room)) (by k_dflt (first | exact BindsTo.of_eq rfl | exact binds_K (by k_in) rfl (by k_is) rfl rfl rfl)) (by k_dflt (decide)) (by k_dflt (exact locs rfl)) (by k_dflt (exact rfl)) (by k_dflt (exact rfl)) (by k_dflt (exact rfl)) ?_ | refine code_defO (by exact rfl) (by exact rfl) (by first | exact rfl | assumption) (by k_asm) (by k_asm) (by k_asm) (by k_asm) (by k_asm) (by k_is) (by k_is) (by ktr_room) (by first | exact BindsTo.of_eq rfl | exact binds_K (by k_in) rfl (by k_is) rfl rfl rfl) (by decide) (by exact locs rfl) (by exact rfl) (by exact rfl) (by exact rfl) ?_); k_whole; intro g' L' h' FG' F' N' B' X' T'; (try dsimp only); (try k_lift B'); (try k_fold)) | ((first | with_reducible refine code_defCO (by k_dflt (exact rfl)) (by k_dflt (exact rfl)) (by k_dflt (first | exact rfl | assumption)) (by k_dflt (k_asm)) (by k_dflt (k_asm)) (by k_dflt (k_asm)) (by k_dflt (k_asm)) (by k_dflt (k_asm)) (by k_dflt (k_is)) (by k_dflt (k_is)) (by k_dflt (ktr_room)) (by k_dflt (first | exact BindsTo.of_eq rfl | exact binds_K (by k_in) rfl (by k_is) rfl rfl rfl)) (by k_dflt (exact rfl)) (by k_dflt (decide +kernel)) (by k_dflt (exact rfl)) (by k_dflt (exact rfl)) (by k_dflt (exact rfl)) ?_ | refine code_defCO (by exact rfl) (by exact rfl) (by first | exact rfl | assumption) (by k_asm) (by k_asm) (by k_asm) (by k_asm) (by k_asm) (by k_is) (by k_is) (by ktr_room) (by first | exact BindsTo.of_eq rfl | exact binds_K (by k_in) rfl (by k_is) rfl rfl rfl) (by exact rfl) (by decide +kernel) (by exact rfl) (by exact rfl) (by exact rfl) ?_); k_whole; intro g' L' h' tk' cells' FG' F' N' Y' B' X' T' l1; (try k_lt l1); k_cells Y'; (try simp only [List.cons_append, List.nil_append] at N'); (try dsimp only); (try k_lift B'); (try k_fold)))) | ((first | with_reducible refine wpAny_call ?_ | refine wpAny_call ?_); (first | ((first | with_reducible refine code_defO (by k_dflt (exact rfl)) (by k_dflt (exact rfl)) (by k_dflt (first | exact rfl | assumption)) (by k_dflt (k_asm)) (by k_dflt (k_asm)) (by k_dflt (k_asm)) (by k_dflt (k_asm)) (by k_dflt (k_asm)) (by k_dflt (k_is)) (by k_dflt (k_is)) (by k_dflt (ktr_room)) (by k_dflt (first | exact BindsTo.of_eq rfl | exact binds_K (by k_in) rfl (by k_is) rfl rfl rfl)) (by k_dflt (decide)) (by k_dflt (exact locs rfl)) (by k_dflt (exact rfl)) (by k_dflt (exact rfl)) (by k_dflt (exact rfl)) ?_ | refine code_defO (by exact rfl) (by exact rfl) (by first | exact rfl | assumption) (by k_asm) (by k_asm) (by k_asm) (by k_asm) (by k_asm) (by k_is) (by k_is) (by ktr_room) (by first | exact BindsTo.of_eq rfl | exact binds_K (by k_in) rfl (by k_is) rfl rfl rfl) (by decide) (by exact locs rfl) (by exact rfl) (by exact rfl) (by exact rfl) ?_); k_whole; intro g' L' h' FG' F' N' B' X' T'; (try dsimp only); (try k_lift B'); (try k_fold)) | ((first | with_reducible refine code_defCO (by k_dflt (exact rfl)) (by k_dflt (exact rfl)) (by k_dflt (first | exact rfl | assumption)) (by k_dflt (k_asm)) (by k_dflt (k_asm)) (by k_dflt (k_asm)) (by k_dflt (k_asm)) (by k_dflt (k_asm)) (by k_dflt (k_is)) (by k_dflt (k_is)) (by k_dflt (ktr_room)) (by k_dflt (first | exact BindsTo.of_eq rfl | exact binds_K (by k_in) rfl (by k_is) rfl rfl rfl)) (by k_dflt (exact rfl)) (by k_dflt (decide +kernel)) (by k_dflt (exact rfl)) (by k_dflt (exact rfl)) (by k_dflt (exact rfl)) ?_ | refine code_defCO (by exact rfl) (by exact rfl) (by first | exact rfl | assumption) (by k_asm) (by k_asm) (by k_asm) (by k_asm) (by k_asm) (by k_is) (by k_is) (by ktr_room) (by first | exact BindsTo.of_eq rfl | exact binds_K (by k_in) rfl (by k_is) rfl rfl rfl) (by exact rfl) (by decide +kernel) (by exact rfl) (by exact rfl) (by exact rfl) ?_); k_whole; intro g' L' h' tk' cells' FG' F' N' Y' B' X' T' l1; (try k_lt l1); k_cells Y'; (try simp only [List.cons_append, List.nil_append] at N'); (try dsimp only); (try k_lift B'); (try k_fold)))))))
  (k_with "execs cons" => (k_here; (with_reducible (refine gen_toks ?_)); intro tk))
  (k_with "execs nil" => (k_here; (with_reducible (refine gen_toks ?_)); intro tk))
  (k_with "call builtin:list.append" => (k_here; k_dflt ((first | with_reducible refine app_K (by k_dflt (k_asm)) (by k_dflt (k_asm)) (by k_dflt (k_updF)) (by k_dflt ((simp only [List.length_append, List.length_cons, List.length_nil]; omega))) ?_ | refine app_K (by k_asm) (by k_asm) (by k_updF) (by (simp only [List.length_append, List.length_cons, List.length_nil]; omega)) ?_)); intro h' F' N'; (try dsimp only at N'); (try dsimp only)))
  (k_with "LeaveK" => ((try ((rename RestIn _ _ _ _ => rI); (rename Fr _ _ _ _ => lF'); (have rJ := RestIn.keeps rI lF'); (try ((rename News _ _ _ _ => lN'); (have rK := RestIn.apart rI lN'))))); (k_dflt ((first | with_reducible refine leaveK_ (by k_dflt (k_asm)) (by k_dflt (k_asm)) ?_ | refine leaveK_ (by k_asm) (by k_asm) ?_); k_whole); intro kF kN; ground_anew kF; (have kX := kFor kF (by k_asm)); (try dsimp only [InitBack, CmpBack, LenBack, StrBack, BoolBack]); (try refine ⟨rfl, ?_⟩); (try dsimp only [CmpBack, LenBack, StrBack, BoolBack]); (try (refine ⟨⟨by omega, by omega⟩, ?_⟩)); (try (refine handed_on rfl ?_; try dsimp only)))))
  (k_with "setAttr ref" => (k_here; k_dflt ((first | with_reducible refine exc_set (K := Mine.hd.heap_1 _) (by k_dflt (k_asm)) (by k_dflt (k_asm)) (by k_dflt (k_asm)) (by k_dflt ((intro p hp; first | exact nomatch hp))) (by k_dflt (k_is)) (by k_dflt (k_is)) (by k_dflt ((intro self; exact PySem.F.store_Exception.passes self))) (by k_dflt (decide)) (by k_dflt (decide)) (by k_dflt (exact rfl)) (by k_dflt (k_is)) ?_ | refine exc_set (K := Mine.hd.heap_1 _) (by k_asm) (by k_asm) (by k_asm) (by (intro p hp; first | exact nomatch hp)) (by k_is) (by k_is) (by (intro self; exact PySem.F.store_Exception.passes self)) (by decide) (by decide) (by exact rfl) (by k_is) ?_); intro h' D oD tk F' N' hpD hDe); (try dsimp only)))
  trivial
theorem badpack_news {h₀ h : Heap} {L : Addr} {d e t : Addr × Obj} {news : List (Addr × Obj)} (kN : News h₀ L h [d, e]) (rJ : RestIn h₀ L h (t :: news)) : News h₀ L h (e :: t :: d :: news) := fun p hp => by
  rcases List.mem_cons.mp hp with q | hp
  · exact kN p (by rw [q]; exact .tail _ (.head _))
  rcases List.mem_cons.mp hp with q | hp
  · exact rJ.news p (by rw [q]; exact .head _)
  rcases List.mem_cons.mp hp with q | hp
  · exact kN p (by rw [q]; exact .head _)
  · exact rJ.news p (.tail _ hp)
section
variable {w : World} {p : Program} {loose : List Str} {mean : ExcName → Option Value} {mg mb : Str → Option Value}
  {dp un : Nat} {gd : Option (List Code)} {cn : Str} {cs : Scope} {a : Addr} {ccd : Value} {cl : List (Str × Addr)} {outer : List Env} {A₀ : Around} {base h₀ : Heap} {L : Addr} {m : Str → Option Value} {s : Shared} {Q E : Value → Shared → Prop}

theorem badpack {news : List (Addr × Obj)} {x : Str} {tx : Tok}
    (B : Below A₀ base outer h₀) (F : Fr h₀ L s.heap m) (X : (hd.heap_1 w.params).In h₀) (T : Top p loose mean mg mb h₀) (hk : cs.kind = .function)
    (hd : dp + 5 < recursionLimit) (hu : un + 100 < cLine)
    (N : News h₀ L s.heap (news))
    (ret : ∀ (e t D : Addr) (oD : Obj) (h' : Heap) (tk' : Nat), Fr h₀ L h' m → News h₀ L h' ((e, excObjD 64 t D) :: (t, tupObj [.str x tx]) :: (D, oD) :: news) → Q (.ref e) { s with heap := h', toks := tk' }) :
    wpAny (model PySem.Challenge.rw_nt0280_01.row.prog w) (ktrTop dp un gd cn cs L a ccd cl outer) (call (.ref 64) [.str x tx]) Q E s := by
  revert X; k_fill; intro X
  refine wpAny_call ?_
  refine exc_K X F N (by k_is) PySem.F.excBase_Exception (fI := 36) (by k_is) (by k_is) (by k_is) (by decide) (by decide) (by decide) (by exact Nat.le_of_ble_eq_true rfl) fun e t h' F' N' hl hl' => ?_
  k_dflt (refine code_defR B F' X (rel := [(e, excObj 64 t)]) (fun p hp => N' p (by rw [List.mem_singleton.mp hp]; exact .head _)) (rest := (t, tupObj [.str x tx]) :: news) (fun p hp => N' p (.tail _ hp)) ?hx T rfl rfl hk (by k_is) (by k_is) ?room (by first | exact BindsTo.of_eq rfl | exact binds_K (by k_in) rfl (by k_is) rfl rfl rfl) (locs rfl) ?_ rfl rfl rfl (by decide))
  case room => ktr_room
  case hx =>
    refine Apart.mk1 fun p hp => ?_
    rcases List.mem_cons.mp hp with q | q
    · rw [q]; exact Nat.ne_of_lt hl'
    · exact Nat.ne_of_lt (Nat.lt_trans (hl p q) hl')
  intro g L' h₁ FG' F₁ N₁ B₁ X₁ T₁ R₁ hlt
  try dsimp only
  w_strict (k_steps; (all_goals (try k_data)); skip)
  rename RestIn _ _ _ _ => rJ
  rename Fr _ _ _ _ => kF
  rename News _ _ _ _ => kN
  dsimp only [InitBack]
  exact ⟨rfl, ret e t _ _ _ _ kF (badpack_news kN rJ)⟩
end

end

section
theorem wordsRaiseRb : True := by
  w_top off
  k_with_none
  (k_with "exec For Name Subscript cons nil" => (k_here; (rename Fr _ _ _ _ => lF'); (with_unfolding_all refine For_invVF lF' (by exact rfl) (by exact rfl) ?_; k_whole)))
  (k_with "call ref" => (k_here; k_dflt (first | (refine call_meth (by k_asm) (by k_mem) ?_; k_whole; (first | ((first | with_reducible refine code_defO (by k_dflt (exact rfl)) (by k_dflt (exact rfl)) (by k_dflt (first | exact rfl | assumption)) (by k_dflt (k_asm)) (by k_dflt (k_asm)) (by k_dflt (k_asm)) (by k_dflt (k_asm)) (by k_dflt (k_asm)) (by k_dflt (k_is)) (by k_dflt (k_is)) (by k_dflt (ktr_room)) (by k_dflt (first | exact BindsTo.of_eq rfl | exact binds_K (by k_in) rfl (by k_is) rfl rfl rfl)) (by k_dflt (decide)) (by k_dflt (exact locs rfl)) (by k_dflt (exact rfl)) (by k_dflt (exact rfl)) (by k_dflt (exact rfl)) ?_ | refine code_defO (by exact rfl) (by exact rfl) (by first | exact rfl | assumption) (by k_asm) (by k_asm) (by k_asm) (by k_asm) (by k_asm) (by k_is) (by k_is) (by ktr_room) (by first | exact BindsTo.of_eq rfl | exact binds_K (by k_in) rfl (by k_is) rfl rfl rfl) (by decide) (by exact locs rfl) (by exact rfl) (by exact rfl) (by exact rfl) ?_); k_whole; intro g' L' h' FG' F' N' B' X' T'; (try dsimp only); (try k_lift B'); (try k_fold)) | ((first | with_reducible refine code_defCO (by k_dflt (exact rfl)) (by k_dflt (exact rfl)) (by k_dflt (first | exact rfl | assumption)) (by k_dflt (k_asm)) (by k_dflt (k_asm)) (by k_dflt (k_asm)) (by k_dflt (k_asm)) (by k_dflt (k_asm)) (by k_dflt (k_is)) (by k_dflt (k_is)) (by k_dflt (ktr_room)) (by k_dflt (first | exact BindsTo.of_eq rfl | exact binds_K (by k_in) rfl (by k_is) rfl rfl rfl)) (by k_dflt (exact rfl)) (by k_dflt (decide +kernel)) (by k_dflt (exact rfl)) (by k_dflt (exact rfl)) (by k_dflt (exact rfl)) ?_ | refine code_defCO (by exact rfl) (by exact rfl) (by first | exact rfl | assumption) (by k_asm) (by k_asm) (by k_asm) (by k_asm) (by k_asm) (by k_is) (by k_is) (by ktr_room) (by first | exact BindsTo.of_eq rfl | exact binds_K (by k_in) rfl (by k_is) rfl rfl rfl) (by exact rfl) (by decide +kernel) (by exact rfl) (by exact rfl) (by exact rfl) ?_); k_whole; intro g' L' h' tk' cells' FG' F' N' Y' B' X' T' l1; (try k_lt l1); k_cells Y'; (try simp only [List.cons_append, List.nil_append] at N'); (try dsimp only); (try k_lift B'); (try k_fold)))) | ((first | with_reducible refine call_cls (by k_dflt (k_asm)) (by k_dflt (k_asm)) (by k_dflt (k_asm)) (by k_dflt (k_is)) (by k_dflt (k_is)) (by k_dflt (k_is)) ?_ | refine call_cls (by k_asm) (by k_asm) (by k_asm) (by k_is) (by k_is) (by k_is) ?_); k_whole; intro x' d' h' F' N' l1 l2; (try k_lt l1); (try k_lt2 l2); (try k_sweep); (first | ((first | with_reducible refine code_defO (by k_dflt (exact rfl)) (by k_dflt (exact rfl)) (by k_dflt (first | exact rfl | assumption)) (by k_dflt (k_asm)) (by k_dflt (k_asm)) (by k_dflt (k_asm)) (by k_dflt (k_asm)) (by k_dflt (k_asm)) (by k_dflt (k_is)) (by k_dflt (k_is)) (by k_dflt (ktr_room)) (by k_dflt (first | exact BindsTo.of_eq rfl | exact binds_K (by k_in) rfl (by k_is) rfl rfl rfl)) (by k_dflt (decide)) (by k_dflt (exact locs rfl)) (by k_dflt (exact rfl)) (by k_dflt (exact rfl)) (by k_dflt (exact rfl)) ?_ | refine code_defO (by exact rfl) (by exact rfl) (by first | exact rfl | assumption) (by k_asm) (by k_asm) (by k_asm) (by k_asm) (by k_asm) (by k_is) (by k_is) (by ktr_room) (by first | exact BindsTo.of_eq rfl | exact binds_K (by k_in) rfl (by k_is) rfl rfl rfl) (by decide) (by exact locs rfl) (by exact rfl) (by exact rfl) (by exact rfl) ?_); k_whole; intro g' L' h' FG' F' N' B' X' T'; (try dsimp only); (try k_lift B'); (try k_fold)) | ((first | with_reducible refine code_defCO (by k_dflt (exact rfl)) (by k_dflt (exact rfl)) (by k_dflt (first | exact rfl | assumption)) (by k_dflt (k_asm)) (by k_dflt (k_asm)) (by k_dflt (k_asm)) (by k_dflt (k_asm)) (by k_dflt (k_asm)) (by k_dflt (k_is)) (by k_dflt (k_is)) (by k_dflt (ktr_room)) (by k_dflt (first | exact BindsTo.of_eq rfl | exact binds_K (by k_in) rfl (by k_is) rfl rfl rfl)) (by k_dflt (exact rfl)) (by k_dflt (decide +kernel)) (by k_dflt (exact rfl)) (by k_dflt (exact rfl)) (by k_dflt (exact rfl)) ?_ | refine code_defCO (by exact rfl) (by exact rfl) (by first | exact rfl | assumption) (by k_asm) (by k_asm) (by k_asm) (by k_asm) (by k_asm) (by k_is) (by k_is) (by ktr_room) (by first | exact BindsTo.of_eq rfl | exact binds_K (by k_in) rfl (by k_is) rfl rfl rfl) (by exact rfl) (by decide +kernel) (by exact rfl) (by exact rfl) (by exact rfl) ?_); k_whole; intro g' L' h' tk' cells' FG' F' N' Y' B' X' T' l1; (try k_lt l1); k_cells Y'; (try simp only [List.cons_append, List.nil_append] at N'); (try dsimp only); (try k_lift B'); (try k_fold)))) | ((first | with_reducible refine wpAny_call ?_ | refine wpAny_call ?_); (first | ((first | with_reducible refine code_defO (by k_dflt (exact rfl)) (by k_dflt (exact rfl)) (by k_dflt (first | exact rfl | assumption)) (by k_dflt (k_asm)) (by k_dflt (k_asm)) (by k_dflt (k_asm)) (by k_dflt (k_asm)) (by k_dflt (k_asm)) (by k_dflt (k_is)) (by k_dflt (k_is)) (by k_dflt (ktr_room)) (by k_dflt (first | exact BindsTo.of_eq rfl | exact binds_K (by k_in) rfl (by k_is) rfl rfl rfl)) (by k_dflt (decide)) (by k_dflt (exact locs rfl)) (by k_dflt (exact rfl)) (by k_dflt (exact rfl)) (by k_dflt (exact rfl)) ?_ | refine code_defO (by exact rfl) (by exact rfl) (by first | exact rfl | assumption) (by k_asm) (by k_asm) (by k_asm) (by k_asm) (by k_asm) (by k_is) (by k_is) (by ktr_room) (by first | exact BindsTo.of_eq rfl | exact binds_K (by k_in) rfl (by k_is) rfl rfl rfl) (by decide) (by exact locs rfl) (by exact rfl) (by exact rfl) (by exact rfl) ?_); k_whole; intro g' L' h' FG' F' N' B' X' T'; (try dsimp only); (try k_lift B'); (try k_fold)) | ((first | with_reducible refine code_defCO (by k_dflt (exact rfl)) (by k_dflt (exact rfl)) (by k_dflt (first | exact rfl | assumption)) (by k_dflt (k_asm)) (by k_dflt (k_asm)) (by k_dflt (k_asm)) (by k_dflt (k_asm)) (by k_dflt (k_asm)) (by k_dflt (k_is)) (by k_dflt (k_is)) (by k_dflt (ktr_room)) (by k_dflt (first | exact BindsTo.of_eq rfl | exact binds_K (by k_in) rfl (by k_is) rfl rfl rfl)) (by k_dflt (exact rfl)) (by k_dflt (decide +kernel)) (by k_dflt (exact rfl)) (by k_dflt (exact rfl)) (by k_dflt (exact rfl)) ?_ | refine code_defCO (by exact rfl) (by exact rfl) (by first | exact rfl | assumption) (by k_asm) (by k_asm) (by k_asm) (by k_asm) (by k_asm) (by k_is) (by k_is) (by ktr_room) (by first | exact BindsTo.of_eq rfl | exact binds_K (by k_in) rfl (by k_is) rfl rfl rfl) (by exact rfl) (by decide +kernel) (by exact rfl) (by exact rfl) (by exact rfl) ?_); k_whole; intro g' L' h' tk' cells' FG' F' N' Y' B' X' T' l1; (try k_lt l1); k_cells Y'; (try simp only [List.cons_append, List.nil_append] at N'); (try dsimp only); (try k_lift B'); (try k_fold)))))))
  (k_with "execs cons" => (k_here; (with_reducible (refine gen_toks ?_)); intro tk))
  (k_with "execs nil" => (k_here; (with_reducible (refine gen_toks ?_)); intro tk))
  (k_with "setAttr ref" => (k_here; k_dflt ((first | with_reducible refine exc_set (K := Mine.hd.heap_1 _) (by k_dflt (k_asm)) (by k_dflt (k_asm)) (by k_dflt (k_asm)) (by k_dflt ((intro p hp; first | exact nomatch hp))) (by k_dflt (k_is)) (by k_dflt (k_is)) (by k_dflt ((intro self; exact PySem.F.store_Exception.passes self))) (by k_dflt (decide)) (by k_dflt (decide)) (by k_dflt (exact rfl)) (by k_dflt (k_is)) ?_ | refine exc_set (K := Mine.hd.heap_1 _) (by k_asm) (by k_asm) (by k_asm) (by (intro p hp; first | exact nomatch hp)) (by k_is) (by k_is) (by (intro self; exact PySem.F.store_Exception.passes self)) (by decide) (by decide) (by exact rfl) (by k_is) ?_); intro h' D oD tk F' N' hpD hDe); (try dsimp only)))
  trivial
def RaisableX (h₀ : Heap) (C : Addr) (E : Value → Shared → Prop) (v : Value) (s₁ : Shared) : Prop :=
  ∃ a t D, v = .ref a ∧ s₁.heap.get? a = some { cls := .ref C, dict := some D, data := .fields #[.ref t, .none, .none, .none, .bool false, .none] } ∧ (∀ b o, h₀.get? b = some o → s₁.heap.get? b = some o) ∧ E (.ref a) s₁
section
variable {M : Model} {A : Around} {K : Frag} {C : Addr} {s : Shared} {h₀ : Heap} {E : Value → Shared → Prop} {env : Env} {e : Expr} {pos : Pos} {Q : Flow → Shared → Prop}
variable {nm q : Str} {N : Addr} {bs bm : List Value} {hdct : Bool} {sn : List Str} {sub : List Value} {ab : Bool} {col : Option Bool} {dd : Option Addr} {k0 k1 k2 k3 k5 : Option Value} {newId : String}
theorem Raise_x (X₀ : K.In h₀) (hC₀ : K.lookup C = some (excClassObj nm q C N bs bm hdct sn sub ab col dd k0 k1 k2 k3 k5 newId)) (hbase : bm.contains (.type "BaseException") = true) (hh : A.handled = none)
    (h : wpAny M A (eval e env) (RaisableX h₀ C E) E s) : wpAny M A (exec (.Raise (some e) none pos) env) Q E s := by
  have hcB : (Value.ref C :: bm).contains (.type "BaseException") = true := by rw [List.contains_cons, hbase, Bool.or_true]
  show wpAny M A (do standAt pos; raiseStmt env (some (do let v ← eval e env; standAt pos; pure v)) none) Q E s
  refine wpAny_bind (wpAny_standAt ?_)
  unfold raiseStmt
  dsimp only
  refine wpAny_bind (wpAny_bind (wpAny_mono h (fun v s₁ h₁ => wpAny_bind (wpAny_standAt (wpAny_pure ?_))) fun _ _ x => x))
  obtain ⟨a, t, D, rfl, he, hk, hE⟩ := h₁
  obtain ⟨hp, g, d, tk, os⟩ := s₁
  have hC := hk _ _ (X₀ _ _ hC₀)
  repeat (first | with_reducible refine wpAny_loadPart_at he ?_ | with_reducible refine wpAny_loadPart_at hC ?_ | (with_reducible refine wpAny_isSubtype_exc hC ?_; rw [hcB]) | wp_step)
  exact wpAny_raiseNew_none hh hE
end
section
variable {h₀ : Heap} {L C e t D : Addr} {m : Str → Option Value} {news : List (Addr × Obj)} {vs : List Value} {E : Value → Shared → Prop} {s : Shared}
theorem raisable_x (F : Fr h₀ L s.heap m) (N : News h₀ L s.heap ((e, excObjD C t D) :: news)) (h : E (.ref e) s) : RaisableX h₀ C E (.ref e) s :=
  ⟨e, t, D, rfl, (N _ (.head _)).1, F.keep, h⟩
end
section
variable {M : Model} {A : Around} {E : Value → Shared → Prop} {s' : Shared} {base g : Heap} {outer : List Env} {L C D a e t : Addr} {m : Str → Option Value} {name : Str} {scope : Scope} {cd : Value} {Q : Unit → Shared → Prop} {rest : List (Addr × Obj)} {vs : List Value}
theorem leave_X (K : Below A base outer g) (F : Fr g L s'.heap m) (N : News g L s'.heap ((e, excObjD C t D) :: (t, tupObj vs) :: rest))
    (hQ : ∀ h', RaisedS base g outer e (.ref C) t vs [] h' → g.UpToSlots h' → Q () { s' with heap := h' }) (hk : scope.kind = .function) :
    wpAny M (A.deeper (envOf name scope L a cd)) (leaving (envOf name scope L a cd) (.ref e)) Q E s' := by
  have K' := K.push (name := name) (a := a) (cd := cd) F hk
  have fe := fresh_of_stays K.stays (N _ (.head _)).2.2
  have ft := fresh_of_stays K.stays (N _ (.tail _ (.head _))).2.2
  have st : base.StaysIn (hideAll s'.heap (e :: t :: (envOf name scope L a cd :: outer).filterMap (·.frame))) := fun b o q => hideAll_get _ (K'.stays b o q) fun hm => by
    rcases List.mem_cons.mp hm with z | hm
    · rw [z, fe] at q; cases q
    rcases List.mem_cons.mp hm with z | hm
    · rw [z, ft] at q; cases q
    · rw [(K'.frames.mem hm).1] at q; cases q
  have sg : ∀ b o, g.get? b = some o → b ∉ outer.filterMap (·.frame) → (hideAll s'.heap (e :: t :: (envOf name scope L a cd :: outer).filterMap (·.frame))).get? b = some o := fun b o q nm => hideAll_get _ (F.keep b o q) fun hm => by
    rcases List.mem_cons.mp hm with z | hm
    · rw [z, (N _ (.head _)).2.2] at q; cases q
    rcases List.mem_cons.mp hm with z | hm
    · rw [z, (N _ (.tail _ (.head _))).2.2] at q; cases q
    rcases kts_mem hm with z | z
    · rw [z, kts_self F] at q; cases q
    · exact nm z
  refine wpAny_leaving_firstW (base := hideAll s'.heap (e :: t :: (envOf name scope L a cd :: outer).filterMap (·.frame))) (a0 := .ref t) K'.stack (funFrames_hide K'.frames fun env he b hb => .tail _ (.tail _ (List.mem_filterMap.mpr ⟨env, he, hb⟩))) rfl (N _ (.head _)).1 (fun b o q => of_hideAll _ q) (hideAll_none _ (.head _)) rfl rfl rfl fun h' hL => ?_
  obtain ⟨k1, ⟨_, _, k2⟩, k3, k4⟩ := hL
  exact hQ h' ⟨⟨_, st, sg, (fun q hq => by cases hq), ⟨k1, hideAll_none _ (.head _), k2, k3⟩, hideAll_none _ (.tail _ (.head _))⟩, Heap.TupAt.of_slots ⟨_, _, (N _ (.tail _ (.head _))).1, rfl, rfl⟩ k4⟩ ((Heap.UpToSlots.of_keeps F.keep).trans k4)
end

end

section
theorem wordsChkRb : True := by
  w_top off
  k_with_none
  (k_with "exec For Name Subscript cons nil" => (k_here; (rename Fr _ _ _ _ => lF'); (with_unfolding_all refine For_invVF lF' (by exact rfl) (by exact rfl) ?_; k_whole)))
  (k_with "call ref" => (k_here; k_dflt (first | (refine call_meth (by k_asm) (by k_mem) ?_; k_whole; (first | ((first | with_reducible refine code_defO (by k_dflt (exact rfl)) (by k_dflt (exact rfl)) (by k_dflt (first | exact rfl | assumption)) (by k_dflt (k_asm)) (by k_dflt (k_asm)) (by k_dflt (k_asm)) (by k_dflt (k_asm)) (by k_dflt (k_asm)) (by k_dflt (k_is)) (by k_dflt (k_is)) (by k_dflt (ktr_room)) (by k_dflt (first | exact BindsTo.of_eq rfl | exact binds_K (by k_in) rfl (by k_is) rfl rfl rfl)) (by k_dflt (decide)) (by k_dflt (exact locs rfl)) (by k_dflt (exact rfl)) (by k_dflt (exact rfl)) (by k_dflt (exact rfl)) ?_ | refine code_defO (by exact rfl) (by exact rfl) (by first | exact rfl | assumption) (by k_asm) (by k_asm) (by k_asm) (by k_asm) (by k_asm) (by k_is) (by k_is) (by ktr_room) (by first | exact BindsTo.of_eq rfl | exact binds_K (by k_in) rfl (by k_is) rfl rfl rfl) (by decide) (by exact locs rfl) (by exact rfl) (by exact rfl) (by exact rfl) ?_); k_whole; intro g' L' h' FG' F' N' B' X' T'; (try dsimp only); (try k_lift B'); (try k_fold)) | ((first | with_reducible refine code_defCO (by k_dflt (exact rfl)) (by k_dflt (exact rfl)) (by k_dflt (first | exact rfl | assumption)) (by k_dflt (k_asm)) (by k_dflt (k_asm)) (by k_dflt (k_asm)) (by k_dflt (k_asm)) (by k_dflt (k_asm)) (by k_dflt (k_is)) (by k_dflt (k_is)) (by k_dflt (ktr_room)) (by k_dflt (first | exact BindsTo.of_eq rfl | exact binds_K (by k_in) rfl (by k_is) rfl rfl rfl)) (by k_dflt (exact rfl)) (by k_dflt (decide +kernel)) (by k_dflt (exact rfl)) (by k_dflt (exact rfl)) (by k_dflt (exact rfl)) ?_ | refine code_defCO (by exact rfl) (by exact rfl) (by first | exact rfl | assumption) (by k_asm) (by k_asm) (by k_asm) (by k_asm) (by k_asm) (by k_is) (by k_is) (by ktr_room) (by first | exact BindsTo.of_eq rfl | exact binds_K (by k_in) rfl (by k_is) rfl rfl rfl) (by exact rfl) (by decide +kernel) (by exact rfl) (by exact rfl) (by exact rfl) ?_); k_whole; intro g' L' h' tk' cells' FG' F' N' Y' B' X' T' l1; (try k_lt l1); k_cells Y'; (try simp only [List.cons_append, List.nil_append] at N'); (try dsimp only); (try k_lift B'); (try k_fold)))) | ((first | with_reducible refine call_cls (by k_dflt (k_asm)) (by k_dflt (k_asm)) (by k_dflt (k_asm)) (by k_dflt (k_is)) (by k_dflt (k_is)) (by k_dflt (k_is)) ?_ | refine call_cls (by k_asm) (by k_asm) (by k_asm) (by k_is) (by k_is) (by k_is) ?_); k_whole; intro x' d' h' F' N' l1 l2; (try k_lt l1); (try k_lt2 l2); (try k_sweep); (first | ((first | with_reducible refine code_defO (by k_dflt (exact rfl)) (by k_dflt (exact rfl)) (by k_dflt (first | exact rfl | assumption)) (by k_dflt (k_asm)) (by k_dflt (k_asm)) (by k_dflt (k_asm)) (by k_dflt (k_asm)) (by k_dflt (k_asm)) (by k_dflt (k_is)) (by k_dflt (k_is)) (by k_dflt (ktr_room)) (by k_dflt (first | exact BindsTo.of_eq rfl | exact binds_K (by k_in) rfl (by k_is) rfl rfl rfl)) (by k_dflt (decide)) (by k_dflt (exact locs rfl)) (by k_dflt (exact rfl)) (by k_dflt (exact rfl)) (by k_dflt (exact rfl)) ?_ | refine code_defO (by exact rfl) (by exact rfl) (by first | exact rfl | assumption) (by k_asm) (by k_asm) (by k_asm) (by k_asm) (by k_asm) (by k_is) (by k_is) (by ktr_room) (by first | exact BindsTo.of_eq rfl | exact binds_K (by k_in) rfl (by k_is) rfl rfl rfl) (by decide) (by exact locs rfl) (by exact rfl) (by exact rfl) (by exact rfl) ?_); k_whole; intro g' L' h' FG' F' N' B' X' T'; (try dsimp only); (try k_lift B'); (try k_fold)) | ((first | with_reducible refine code_defCO (by k_dflt (exact rfl)) (by k_dflt (exact rfl)) (by k_dflt (first | exact rfl | assumption)) (by k_dflt (k_asm)) (by k_dflt (k_asm)) (by k_dflt (k_asm)) (by k_dflt (k_asm)) (by k_dflt (k_asm)) (by k_dflt (k_is)) (by k_dflt (k_is)) (by k_dflt (ktr_room)) (by k_dflt (first | exact BindsTo.of_eq rfl | exact binds_K (by k_in) rfl (by k_is) rfl rfl rfl)) (by k_dflt (exact rfl)) (by k_dflt (decide +kernel)) (by k_dflt (exact rfl)) (by k_dflt (exact rfl)) (by k_dflt (exact rfl)) ?_ | refine code_defCO (by exact rfl) (by exact rfl) (by first | exact rfl | assumption) (by k_asm) (by k_asm) (by k_asm) (by k_asm) (by k_asm) (by k_is) (by k_is) (by ktr_room) (by first | exact BindsTo.of_eq rfl | exact binds_K (by k_in) rfl (by k_is) rfl rfl rfl) (by exact rfl) (by decide +kernel) (by exact rfl) (by exact rfl) (by exact rfl) ?_); k_whole; intro g' L' h' tk' cells' FG' F' N' Y' B' X' T' l1; (try k_lt l1); k_cells Y'; (try simp only [List.cons_append, List.nil_append] at N'); (try dsimp only); (try k_lift B'); (try k_fold)))) | ((first | with_reducible refine wpAny_call ?_ | refine wpAny_call ?_); (first | ((first | with_reducible refine code_defO (by k_dflt (exact rfl)) (by k_dflt (exact rfl)) (by k_dflt (first | exact rfl | assumption)) (by k_dflt (k_asm)) (by k_dflt (k_asm)) (by k_dflt (k_asm)) (by k_dflt (k_asm)) (by k_dflt (k_asm)) (by k_dflt (k_is)) (by k_dflt (k_is)) (by k_dflt (ktr_room)) (by k_dflt (first | exact BindsTo.of_eq rfl | exact binds_K (by k_in) rfl (by k_is) rfl rfl rfl)) (by k_dflt (decide)) (by k_dflt (exact locs rfl)) (by k_dflt (exact rfl)) (by k_dflt (exact rfl)) (by k_dflt (exact rfl)) ?_ | refine code_defO (by exact rfl) (by exact rfl) (by first | exact rfl | assumption) (by k_asm) (by k_asm) (by k_asm) (by k_asm) (by k_asm) (by k_is) (by k_is) (by ktr_room) (by first | exact BindsTo.of_eq rfl | exact binds_K (by k_in) rfl (by k_is) rfl rfl rfl) (by decide) (by exact locs rfl) (by exact rfl) (by exact rfl) (by exact rfl) ?_); k_whole; intro g' L' h' FG' F' N' B' X' T'; (try dsimp only); (try k_lift B'); (try k_fold)) | ((first | with_reducible refine code_defCO (by k_dflt (exact rfl)) (by k_dflt (exact rfl)) (by k_dflt (first | exact rfl | assumption)) (by k_dflt (k_asm)) (by k_dflt (k_asm)) (by k_dflt (k_asm)) (by k_dflt (k_asm)) (by k_dflt (k_asm)) (by k_dflt (k_is)) (by k_dflt (k_is)) (by k_dflt (ktr_room)) (by k_dflt (first | exact BindsTo.of_eq rfl | exact binds_K (by k_in) rfl (by k_is) rfl rfl rfl)) (by k_dflt (exact rfl)) (by k_dflt (decide +kernel)) (by k_dflt (exact rfl)) (by k_dflt (exact rfl)) (by k_dflt (exact rfl)) ?_ | refine code_defCO (by exact rfl) (by exact rfl) (by first | exact rfl | assumption) (by k_asm) (by k_asm) (by k_asm) (by k_asm) (by k_asm) (by k_is) (by k_is) (by ktr_room) (by first | exact BindsTo.of_eq rfl | exact binds_K (by k_in) rfl (by k_is) rfl rfl rfl) (by exact rfl) (by decide +kernel) (by exact rfl) (by exact rfl) (by exact rfl) ?_); k_whole; intro g' L' h' tk' cells' FG' F' N' Y' B' X' T' l1; (try k_lt l1); k_cells Y'; (try simp only [List.cons_append, List.nil_append] at N'); (try dsimp only); (try k_lift B'); (try k_fold)))))))
  (k_with "execs cons" => (k_here; (with_reducible (refine gen_toks ?_)); intro tk))
  (k_with "execs nil" => (k_here; (with_reducible (refine gen_toks ?_)); intro tk))
  (k_with "call builtin:list.append" => (k_here; k_dflt ((first | with_reducible refine app_K (by k_dflt (k_asm)) (by k_dflt (k_asm)) (by k_dflt (k_updF)) (by k_dflt ((simp only [List.length_append, List.length_cons, List.length_nil]; omega))) ?_ | refine app_K (by k_asm) (by k_asm) (by k_updF) (by (simp only [List.length_append, List.length_cons, List.length_nil]; omega)) ?_)); intro h' F' N'; (try dsimp only at N'); (try dsimp only)))
  trivial
def cnt (c : Int) : List Int := (List.replicate 256 0).set 1 c
def fanL (n : Int) : List Int := 0 :: List.replicate 255 n
theorem cnt_len (c : Int) : (cnt c).length = 256 := by rw [cnt, List.length_set, List.length_replicate]
theorem fan_len (c : Int) : (fanL c).length = 256 := by rw [fanL, List.length_cons, List.length_replicate]
theorem cnt_zero : List.replicate 256 (0 : Int) = cnt 0 := by decide +kernel
theorem rep_set (N : Nat) (c : Int) {j : Nat} (h : j < N) (e : j ≠ 1) : ((List.replicate N (0 : Int)).set 1 c).getD j 0 = 0 := by
  have e' : 1 ≠ j := fun q => e q.symm
  rw [List.getD_eq_getElem?_getD, List.getElem?_set, if_neg e', List.getElem?_replicate, if_pos h]
  rfl
theorem rep_set1 (N : Nat) (c : Int) (h : 1 < N) : ((List.replicate N (0 : Int)).set 1 c).getD 1 0 = c := by
  rw [List.getD_eq_getElem?_getD, List.getElem?_set, if_pos rfl, if_pos (by rw [List.length_replicate]; exact h)]
  rfl
theorem rep_at (N : Nat) (c : Int) {j : Nat} (h : j < N) : (List.replicate N c).getD j 0 = c := by
  rw [List.getD_eq_getElem?_getD, List.getElem?_replicate, if_pos h]
  rfl
theorem cnt_fact (c : Int) {j : Nat} (h : j < 256) : (j = 1 ∧ (cnt c).getD j 0 = c) ∨ (j ≠ 1 ∧ (cnt c).getD j 0 = 0) := by
  by_cases e : j = 1
  · subst e
    exact .inl ⟨rfl, rep_set1 256 c (by decide)⟩
  · exact .inr ⟨e, rep_set 256 c h e⟩
theorem fan_fact (c : Int) {j : Nat} (h : j < 256) : (j = 0 ∧ (fanL c).getD j 0 = 0) ∨ (j ≠ 0 ∧ (fanL c).getD j 0 = c) := by
  cases j with
  | zero => exact .inl ⟨rfl, rfl⟩
  | succ j => exact .inr ⟨Nat.succ_ne_zero _, rep_at 255 c (by omega)⟩
theorem cnt_get (c : Int) : (cnt c).getD (Int.toNat 1) 0 = c := rep_set1 256 c (by decide)
theorem cnt_set (c x : Int) : (cnt c).set (Int.toNat 1) x = cnt x := List.set_set ..
theorem updF_upd {d : Addr} {o o' : Obj} {l : List (Addr × Obj)} {g : Obj → List (Addr × Obj)} (U : UpdF d o l g) : Upd d o o' l (g o') := by
  induction U with
  | head h => exact .head h
  | tail h _ ih => exact .tail h ih
section
variable {prog : Program} {w : World} {A : Around} {E : Value → Shared → Prop} {s : Shared} {h₀ : Heap} {L D : Addr} {m : Str → Option Value} {news : List (Addr × Obj)} {vs : List Value} {ns : List Int} {n : Nat} {k : Int} {t u : Tok}
theorem ints_rep (v : Int) (t : Tok) : ∀ j : Nat, IntsAre (List.replicate j [Value.int v t]).flatten (List.replicate j v)
  | 0 => .nil
  | j + 1 => by
    rw [List.replicate_succ, List.flatten_cons, List.replicate_succ]
    exact .cons v t (ints_rep v t j)
theorem zeros_K {l : Addr} {Q : Value → Shared → Prop} (F : Fr h₀ L s.heap m) (N : News h₀ L s.heap news) (hm : (l, listOf #[Value.int 0 t] n) ∈ news)
    (h : ∀ D h' ws, Fr h₀ L h' m → News h₀ L h' ((D, listOf ws.toArray 0) :: news) → (∀ p ∈ news, p.1 < D) → IntsAre ws (cnt 0) → Q (.ref D) { s with heap := h' }) :
    wpAny (model prog w) A (binaryOp .Mult (.ref l) (.int 256 u)) Q E s :=
  KMa.mul (vs := [Value.int 0 t]) F N (News.isList N hm) (by decide) (by decide) (by simp) rfl fun D h' F' N' l1 => h D h' _ F' N' l1 (cnt_zero ▸ ints_rep 0 t 256)
theorem cnt_item {c : Int} {Q : Value → Shared → Prop} (N : News h₀ L s.heap news) (hm : (D, listOf vs.toArray n) ∈ news) (hi : IntsAre vs (cnt c)) (h : ∀ t, Q (.int c t) s) :
    wpAny (model prog w) A (getItem (.ref D) (.int 1 u)) Q E s :=
  ksa_get N hm hi (by decide) (by rw [cnt_len]; decide) (by decide) fun t => cnt_get c ▸ h t
theorem cnt_store {c x : Int} {g : Obj → List (Addr × Obj)} {Q : Unit → Shared → Prop} (F : Fr h₀ L s.heap m) (N : News h₀ L s.heap news) (U : UpdF D (listOf vs.toArray n) news g) (hi : IntsAre vs (cnt c))
    (h : ∀ h' ws, Fr h₀ L h' m → News h₀ L h' (g (listOf ws.toArray n)) → IntsAre ws (cnt x) → Q () { s with heap := h' }) :
    wpAny (model prog w) A (setItem (.ref D) (.int 1 t) (.int x u)) Q E s :=
  ksa_set F N (updF_upd U) hi (by decide) (by rw [cnt_len]; decide) (by decide) fun h' F' N' hi' _ _ => h h' _ F' N' (cnt_set c x ▸ hi')
theorem cnt_sub {c : Int} {value slice : PySem.Expr} {Q : Value → Shared → Prop} (N : News h₀ L s.heap news) (hm : (D, listOf vs.toArray n) ∈ news) (hi : IntsAre vs (cnt c)) (h0 : 0 ≤ k) (h1 : k < 256) (h : ∀ t x, (k = 1 ∧ x = c) ∨ (k ≠ 1 ∧ x = 0) → Q (.int x t) s)
    (hs : subscripted slice false (.ref D) (.int k u) = operate [.ref D, .int k u] (getItem (.ref D) (.int k u)) := by with_unfolding_all rfl) :
    wpAny (model prog w) A (subscriptTail value slice (.ref D) (.int k u)) Q E s :=
  ksa_sub N hm hi h0 (by rw [cnt_len]; omega) (by omega) (fun t => h t _ (by have := cnt_fact c (j := k.toNat) (by omega); omega)) hs
theorem fan_sub {c : Int} {value slice : PySem.Expr} {Q : Value → Shared → Prop} (N : News h₀ L s.heap news) (hm : (D, listOf vs.toArray n) ∈ news) (hi : IntsAre vs (fanL c)) (h0 : 0 ≤ k) (h1 : k < 256) (h : ∀ t x, (k = 0 ∧ x = 0) ∨ (k ≠ 0 ∧ x = c) → Q (.int x t) s)
    (hs : subscripted slice false (.ref D) (.int k u) = operate [.ref D, .int k u] (getItem (.ref D) (.int k u)) := by with_unfolding_all rfl) :
    wpAny (model prog w) A (subscriptTail value slice (.ref D) (.int k u)) Q E s :=
  ksa_sub N hm hi h0 (by rw [fan_len]; omega) (by omega) (fun t => h t _ (by have := fan_fact c (j := k.toNat) (by omega); omega)) hs
theorem oid0 {value slice : PySem.Expr} {c : UInt8} {Q : Value → Shared → Prop} (h : ∀ t' k, Q (.int 1 t') { s with toks := k })
    (hs : subscripted slice false (.bytes #[1, 0, 0, c] t) (.int 0 u) = operate [.bytes #[1, 0, 0, c] t, .int 0 u] (getItem (.bytes #[1, 0, 0, c] t) (.int 0 u)) := by with_unfolding_all rfl)
    (ht : ∀ r, letTemporaryGo value (.bytes #[1, 0, 0, c] t) r = pure () := by intro _; with_unfolding_all rfl) :
    wpAny (model prog w) A (subscriptTail value slice (.bytes #[1, 0, 0, c] t) (.int 0 u)) Q E s :=
  KBw.item_K (ks := [1, 0, 0, (c.toNat : Int)]) rfl (by simp) (by decide) (by simp) (fun t' k _ _ => h t' k) hs ht
end

end

section
theorem wordsSBeb : True := by
  w_top off
  k_with_none
  (k_with "exec For Name Subscript cons nil" => (k_here; (rename Fr _ _ _ _ => lF'); (with_unfolding_all refine For_invVF lF' (by exact rfl) (by exact rfl) ?_; k_whole)))
  (k_with "call ref" => (k_here; k_dflt (first | (refine call_meth (by k_asm) (by k_mem) ?_; k_whole; (first | ((first | with_reducible refine code_defO (by k_dflt (exact rfl)) (by k_dflt (exact rfl)) (by k_dflt (first | exact rfl | assumption)) (by k_dflt (k_asm)) (by k_dflt (k_asm)) (by k_dflt (k_asm)) (by k_dflt (k_asm)) (by k_dflt (k_asm)) (by k_dflt (k_is)) (by k_dflt (k_is)) (by k_dflt (ktr_room)) (by k_dflt (first | exact BindsTo.of_eq rfl | exact binds_K (by k_in) rfl (by k_is) rfl rfl rfl)) (by k_dflt (decide)) (by k_dflt (exact locs rfl)) (by k_dflt (exact rfl)) (by k_dflt (exact rfl)) (by k_dflt (exact rfl)) ?_ | refine code_defO (by exact rfl) (by exact rfl) (by first | exact rfl | assumption) (by k_asm) (by k_asm) (by k_asm) (by k_asm) (by k_asm) (by k_is) (by k_is) (by ktr_room) (by first | exact BindsTo.of_eq rfl | exact binds_K (by k_in) rfl (by k_is) rfl rfl rfl) (by decide) (by exact locs rfl) (by exact rfl) (by exact rfl) (by exact rfl) ?_); k_whole; intro g' L' h' FG' F' N' B' X' T'; (try dsimp only); (try k_lift B'); (try k_fold)) | ((first | with_reducible refine code_defCO (by k_dflt (exact rfl)) (by k_dflt (exact rfl)) (by k_dflt (first | exact rfl | assumption)) (by k_dflt (k_asm)) (by k_dflt (k_asm)) (by k_dflt (k_asm)) (by k_dflt (k_asm)) (by k_dflt (k_asm)) (by k_dflt (k_is)) (by k_dflt (k_is)) (by k_dflt (ktr_room)) (by k_dflt (first | exact BindsTo.of_eq rfl | exact binds_K (by k_in) rfl (by k_is) rfl rfl rfl)) (by k_dflt (exact rfl)) (by k_dflt (decide +kernel)) (by k_dflt (exact rfl)) (by k_dflt (exact rfl)) (by k_dflt (exact rfl)) ?_ | refine code_defCO (by exact rfl) (by exact rfl) (by first | exact rfl | assumption) (by k_asm) (by k_asm) (by k_asm) (by k_asm) (by k_asm) (by k_is) (by k_is) (by ktr_room) (by first | exact BindsTo.of_eq rfl | exact binds_K (by k_in) rfl (by k_is) rfl rfl rfl) (by exact rfl) (by decide +kernel) (by exact rfl) (by exact rfl) (by exact rfl) ?_); k_whole; intro g' L' h' tk' cells' FG' F' N' Y' B' X' T' l1; (try k_lt l1); k_cells Y'; (try simp only [List.cons_append, List.nil_append] at N'); (try dsimp only); (try k_lift B'); (try k_fold)))) | ((first | with_reducible refine call_cls (by k_dflt (k_asm)) (by k_dflt (k_asm)) (by k_dflt (k_asm)) (by k_dflt (k_is)) (by k_dflt (k_is)) (by k_dflt (k_is)) ?_ | refine call_cls (by k_asm) (by k_asm) (by k_asm) (by k_is) (by k_is) (by k_is) ?_); k_whole; intro x' d' h' F' N' l1 l2; (try k_lt l1); (try k_lt2 l2); (try k_sweep); (first | ((first | with_reducible refine code_defO (by k_dflt (exact rfl)) (by k_dflt (exact rfl)) (by k_dflt (first | exact rfl | assumption)) (by k_dflt (k_asm)) (by k_dflt (k_asm)) (by k_dflt (k_asm)) (by k_dflt (k_asm)) (by k_dflt (k_asm)) (by k_dflt (k_is)) (by k_dflt (k_is)) (by k_dflt (ktr_room)) (by k_dflt (first | exact BindsTo.of_eq rfl | exact binds_K (by k_in) rfl (by k_is) rfl rfl rfl)) (by k_dflt (decide)) (by k_dflt (exact locs rfl)) (by k_dflt (exact rfl)) (by k_dflt (exact rfl)) (by k_dflt (exact rfl)) ?_ | refine code_defO (by exact rfl) (by exact rfl) (by first | exact rfl | assumption) (by k_asm) (by k_asm) (by k_asm) (by k_asm) (by k_asm) (by k_is) (by k_is) (by ktr_room) (by first | exact BindsTo.of_eq rfl | exact binds_K (by k_in) rfl (by k_is) rfl rfl rfl) (by decide) (by exact locs rfl) (by exact rfl) (by exact rfl) (by exact rfl) ?_); k_whole; intro g' L' h' FG' F' N' B' X' T'; (try dsimp only); (try k_lift B'); (try k_fold)) | ((first | with_reducible refine code_defCO (by k_dflt (exact rfl)) (by k_dflt (exact rfl)) (by k_dflt (first | exact rfl | assumption)) (by k_dflt (k_asm)) (by k_dflt (k_asm)) (by k_dflt (k_asm)) (by k_dflt (k_asm)) (by k_dflt (k_asm)) (by k_dflt (k_is)) (by k_dflt (k_is)) (by k_dflt (ktr_room)) (by k_dflt (first | exact BindsTo.of_eq rfl | exact binds_K (by k_in) rfl (by k_is) rfl rfl rfl)) (by k_dflt (exact rfl)) (by k_dflt (decide +kernel)) (by k_dflt (exact rfl)) (by k_dflt (exact rfl)) (by k_dflt (exact rfl)) ?_ | refine code_defCO (by exact rfl) (by exact rfl) (by first | exact rfl | assumption) (by k_asm) (by k_asm) (by k_asm) (by k_asm) (by k_asm) (by k_is) (by k_is) (by ktr_room) (by first | exact BindsTo.of_eq rfl | exact binds_K (by k_in) rfl (by k_is) rfl rfl rfl) (by exact rfl) (by decide +kernel) (by exact rfl) (by exact rfl) (by exact rfl) ?_); k_whole; intro g' L' h' tk' cells' FG' F' N' Y' B' X' T' l1; (try k_lt l1); k_cells Y'; (try simp only [List.cons_append, List.nil_append] at N'); (try dsimp only); (try k_lift B'); (try k_fold)))) | ((first | with_reducible refine wpAny_call ?_ | refine wpAny_call ?_); (first | ((first | with_reducible refine code_defO (by k_dflt (exact rfl)) (by k_dflt (exact rfl)) (by k_dflt (first | exact rfl | assumption)) (by k_dflt (k_asm)) (by k_dflt (k_asm)) (by k_dflt (k_asm)) (by k_dflt (k_asm)) (by k_dflt (k_asm)) (by k_dflt (k_is)) (by k_dflt (k_is)) (by k_dflt (ktr_room)) (by k_dflt (first | exact BindsTo.of_eq rfl | exact binds_K (by k_in) rfl (by k_is) rfl rfl rfl)) (by k_dflt (decide)) (by k_dflt (exact locs rfl)) (by k_dflt (exact rfl)) (by k_dflt (exact rfl)) (by k_dflt (exact rfl)) ?_ | refine code_defO (by exact rfl) (by exact rfl) (by first | exact rfl | assumption) (by k_asm) (by k_asm) (by k_asm) (by k_asm) (by k_asm) (by k_is) (by k_is) (by ktr_room) (by first | exact BindsTo.of_eq rfl | exact binds_K (by k_in) rfl (by k_is) rfl rfl rfl) (by decide) (by exact locs rfl) (by exact rfl) (by exact rfl) (by exact rfl) ?_); k_whole; intro g' L' h' FG' F' N' B' X' T'; (try dsimp only); (try k_lift B'); (try k_fold)) | ((first | with_reducible refine code_defCO (by k_dflt (exact rfl)) (by k_dflt (exact rfl)) (by k_dflt (first | exact rfl | assumption)) (by k_dflt (k_asm)) (by k_dflt (k_asm)) (by k_dflt (k_asm)) (by k_dflt (k_asm)) (by k_dflt (k_asm)) (by k_dflt (k_is)) (by k_dflt (k_is)) (by k_dflt (ktr_room)) (by k_dflt (first | exact BindsTo.of_eq rfl | exact binds_K (by k_in) rfl (by k_is) rfl rfl rfl)) (by k_dflt (exact rfl)) (by k_dflt (decide +kernel)) (by k_dflt (exact rfl)) (by k_dflt (exact rfl)) (by k_dflt (exact rfl)) ?_ | refine code_defCO (by exact rfl) (by exact rfl) (by first | exact rfl | assumption) (by k_asm) (by k_asm) (by k_asm) (by k_asm) (by k_asm) (by k_is) (by k_is) (by ktr_room) (by first | exact BindsTo.of_eq rfl | exact binds_K (by k_in) rfl (by k_is) rfl rfl rfl) (by exact rfl) (by decide +kernel) (by exact rfl) (by exact rfl) (by exact rfl) ?_); k_whole; intro g' L' h' tk' cells' FG' F' N' Y' B' X' T' l1; (try k_lt l1); k_cells Y'; (try simp only [List.cons_append, List.nil_append] at N'); (try dsimp only); (try k_lift B'); (try k_fold)))))))
  (k_with "execs cons" => (k_here; (with_reducible (refine gen_toks ?_)); intro tk))
  (k_with "execs nil" => (k_here; (with_reducible (refine gen_toks ?_)); intro tk))
  (k_with "call builtin:list.append" => (k_here; k_dflt ((first | with_reducible refine app_K (by k_dflt (k_asm)) (by k_dflt (k_asm)) (by k_dflt (k_updF)) (by k_dflt ((simp only [List.length_append, List.length_cons, List.length_nil]; omega))) ?_ | refine app_K (by k_asm) (by k_asm) (by k_updF) (by (simp only [List.length_append, List.length_cons, List.length_nil]; omega)) ?_)); intro h' F' N'; (try dsimp only at N'); (try dsimp only)))
  (k_with "call ref" => (k_here; k_dflt (((with_reducible show wpAny _ _ (call (Value.ref 85) _) _ _ _); first | with_reducible refine abe (by k_dflt (k_asm)) (by k_dflt (k_asm)) (by k_dflt (k_asm)) (by k_dflt (k_asm)) (by k_dflt (k_asm)) (by k_dflt (first | exact rfl | assumption)) (by k_dflt (ktr_room)) (by k_dflt (ktr_units)) (by k_dflt (assumption)) (by k_dflt (omega)) (by k_dflt (omega)) (by k_dflt (omega)) (by k_dflt (omega)) ?_ | refine abe (by k_asm) (by k_asm) (by k_asm) (by k_asm) (by k_asm) (by first | exact rfl | assumption) (by ktr_room) (by ktr_units) (by assumption) (by omega) (by omega) (by omega) (by omega) ?_); k_whole); intro t9 h9 tk9 F9 N9; (try dsimp only); (try k_fold)))
  (k_with "compareOp Lt bytes bytes" => refine lt_bytes ?_)
  (k_with "compareOp LtE bytes bytes" => refine le_bytes ?_)
  trivial
theorem wordsSBec : True := by
  (k_with "call type:bytes" => (k_here; (with_reducible show wpAny _ _ (call (Value.type "bytes") [Value.ref _]) _ _ _); k_dflt ((first | with_reducible refine KBa.make_K (by k_dflt (k_asm)) (by k_dflt (k_asm)) (by k_dflt (rfl)) (by k_dflt (kba_isList)) (by k_dflt (assumption)) (by k_dflt ((unfold KBa.In; decide +kernel))) (by k_dflt (decide +kernel)) ?_ | refine KBa.make_K (by k_asm) (by k_asm) (by rfl) (by kba_isList) (by assumption) (by (unfold KBa.In; decide +kernel)) (by decide +kernel) ?_)); intro _ _ _ F' N' kbaIn))
  trivial

section
variable {w : World} {p : Program} {loose : List Str} {mean : ExcName → Option Value} {mg mb : Str → Option Value}
  {dp un : Nat} {gd : Option (List Code)} {cn : Str} {cs : Scope} {a : Addr} {ccd : Value} {cl : List (Str × Addr)} {outer : List Env} {A₀ : Around} {base h₀ : Heap} {L : Addr} {m : Str → Option Value} {s : Shared} {Q E : Value → Shared → Prop}

theorem be4 {news : List (Addr × Obj)} {x : Int} {t1 t2 : Tok}
    (B : Below A₀ base outer h₀) (F : Fr h₀ L s.heap m) (X : (hd.heap_1 w.params).In h₀) (N : News h₀ L s.heap news) (T : Top p loose mean mg mb h₀) (hk : cs.kind = .function)
    (hd : dp + 2 < recursionLimit) (hu : un + 16 < cLine) (hx : x = 0 ∨ x = 1)
    (ret : ∀ (b : Array UInt8) (t : Tok) (h' : Heap) (tk' : Nat), KBw.bInts b = [0, 0, 0, x] → Fr h₀ L h' m → News h₀ L h' news → Q (.bytes b t) { s with heap := h', toks := tk' }) :
    wpAny (model PySem.Challenge.rw_nt0280_01.row.prog w) (ktrTop dp un gd cn cs L a ccd cl outer) (call (.ref 71) [.int x t1, .int 4 t2]) Q E s := by
  revert X; k_fill; intro X
  rcases hx with rfl | rfl
  · refine wpAny_call ?_
    k_dflt (first   | (refine' code_def ?k1 ?k2 ?k3 ?k4 ?k5 ?kA ?kF ?kK ?k6 ?k7 ?k8 ?k9 ?kB ?_ ?c2 ?c3 ?c4 ?c5; (case kA => exact rfl); (case kF => exact rfl); (case kK => first | exact rfl | assumption); (case k1 => k_asm); (case k2 => k_asm); (case k3 => k_asm); (case k4 => k_asm); (case k5 => k_asm); (case k6 => k_is); (case k7 => k_is); (case k8 => ktr_room); (case k9 => first | exact BindsTo.of_eq rfl | exact binds_K (by k_in) rfl (by k_is) rfl rfl rfl); (case c5 => decide); (case kB => exact locs rfl); (case c2 => exact rfl); (case c3 => exact rfl); (case c4 => exact rfl); k_whole; intro g' L' h' FG' F' N' B' X' T'; (try dsimp only); (try k_lift B'); (try k_fold))   | (refine' code_defC ?k1 ?k2 ?k3 ?k4 ?k5 ?kA ?kF ?kK ?k6 ?k7 ?k8 ?k9 ?kB ?kD ?_ ?c2 ?c3 ?c4; (case kA => exact rfl); (case kF => exact rfl); (case kK => first | exact rfl | assumption); (case k1 => k_asm); (case k2 => k_asm); (case k3 => k_asm); (case k4 => k_asm); (case k5 => k_asm); (case k6 => k_is); (case k7 => k_is); (case k8 => ktr_room); (case k9 => first | exact BindsTo.of_eq rfl | exact binds_K (by k_in) rfl (by k_is) rfl rfl rfl); (case kB => exact rfl); (case kD => decide +kernel); (case c2 => exact rfl); (case c3 => exact rfl); (case c4 => exact rfl); k_whole; intro g' L' h' tk' cells' FG' F' N' Y' B' X' T' l1; (try k_lt l1); k_cells Y'; (try simp only [List.cons_append, List.nil_append] at N'); (try dsimp only); (try k_lift B'); (try k_fold)))
    w_strict (k_steps; (all_goals (try k_data)))
    exact ret _ _ _ _ ((KBa.ints_make (by assumption)).trans (by decide +kernel)) (by k_asm) (news_tail (news_tail (news_tail (by k_asm))))
  · refine wpAny_call ?_
    k_dflt (first   | (refine' code_def ?k1 ?k2 ?k3 ?k4 ?k5 ?kA ?kF ?kK ?k6 ?k7 ?k8 ?k9 ?kB ?_ ?c2 ?c3 ?c4 ?c5; (case kA => exact rfl); (case kF => exact rfl); (case kK => first | exact rfl | assumption); (case k1 => k_asm); (case k2 => k_asm); (case k3 => k_asm); (case k4 => k_asm); (case k5 => k_asm); (case k6 => k_is); (case k7 => k_is); (case k8 => ktr_room); (case k9 => first | exact BindsTo.of_eq rfl | exact binds_K (by k_in) rfl (by k_is) rfl rfl rfl); (case c5 => decide); (case kB => exact locs rfl); (case c2 => exact rfl); (case c3 => exact rfl); (case c4 => exact rfl); k_whole; intro g' L' h' FG' F' N' B' X' T'; (try dsimp only); (try k_lift B'); (try k_fold))   | (refine' code_defC ?k1 ?k2 ?k3 ?k4 ?k5 ?kA ?kF ?kK ?k6 ?k7 ?k8 ?k9 ?kB ?kD ?_ ?c2 ?c3 ?c4; (case kA => exact rfl); (case kF => exact rfl); (case kK => first | exact rfl | assumption); (case k1 => k_asm); (case k2 => k_asm); (case k3 => k_asm); (case k4 => k_asm); (case k5 => k_asm); (case k6 => k_is); (case k7 => k_is); (case k8 => ktr_room); (case k9 => first | exact BindsTo.of_eq rfl | exact binds_K (by k_in) rfl (by k_is) rfl rfl rfl); (case kB => exact rfl); (case kD => decide +kernel); (case c2 => exact rfl); (case c3 => exact rfl); (case c4 => exact rfl); k_whole; intro g' L' h' tk' cells' FG' F' N' Y' B' X' T' l1; (try k_lt l1); k_cells Y'; (try simp only [List.cons_append, List.nil_append] at N'); (try dsimp only); (try k_lift B'); (try k_fold)))
    w_strict (k_steps; (all_goals (try k_data)))
    exact ret _ _ _ _ ((KBa.ints_make (by assumption)).trans (by decide +kernel)) (by k_asm) (news_tail (news_tail (news_tail (by k_asm))))
end

end

section
theorem wordsSFanLb : True := by
  w_top off
  k_with_none
  (k_with "exec For Name Subscript cons nil" => (k_here; (rename Fr _ _ _ _ => lF'); (with_unfolding_all refine For_invVF lF' (by exact rfl) (by exact rfl) ?_; k_whole)))
  (k_with "call ref" => (k_here; k_dflt (first | (refine call_meth (by k_asm) (by k_mem) ?_; k_whole; (first | ((first | with_reducible refine code_defO (by k_dflt (exact rfl)) (by k_dflt (exact rfl)) (by k_dflt (first | exact rfl | assumption)) (by k_dflt (k_asm)) (by k_dflt (k_asm)) (by k_dflt (k_asm)) (by k_dflt (k_asm)) (by k_dflt (k_asm)) (by k_dflt (k_is)) (by k_dflt (k_is)) (by k_dflt (ktr_room)) (by k_dflt (first | exact BindsTo.of_eq rfl | exact binds_K (by k_in) rfl (by k_is) rfl rfl rfl)) (by k_dflt (decide)) (by k_dflt (exact locs rfl)) (by k_dflt (exact rfl)) (by k_dflt (exact rfl)) (by k_dflt (exact rfl)) ?_ | refine code_defO (by exact rfl) (by exact rfl) (by first | exact rfl | assumption) (by k_asm) (by k_asm) (by k_asm) (by k_asm) (by k_asm) (by k_is) (by k_is) (by ktr_room) (by first | exact BindsTo.of_eq rfl | exact binds_K (by k_in) rfl (by k_is) rfl rfl rfl) (by decide) (by exact locs rfl) (by exact rfl) (by exact rfl) (by exact rfl) ?_); k_whole; intro g' L' h' FG' F' N' B' X' T'; (try dsimp only); (try k_lift B'); (try k_fold)) | ((first | with_reducible refine code_defCO (by k_dflt (exact rfl)) (by k_dflt (exact rfl)) (by k_dflt (first | exact rfl | assumption)) (by k_dflt (k_asm)) (by k_dflt (k_asm)) (by k_dflt (k_asm)) (by k_dflt (k_asm)) (by k_dflt (k_asm)) (by k_dflt (k_is)) (by k_dflt (k_is)) (by k_dflt (ktr_room)) (by k_dflt (first | exact BindsTo.of_eq rfl | exact binds_K (by k_in) rfl (by k_is) rfl rfl rfl)) (by k_dflt (exact rfl)) (by k_dflt (decide +kernel)) (by k_dflt (exact rfl)) (by k_dflt (exact rfl)) (by k_dflt (exact rfl)) ?_ | refine code_defCO (by exact rfl) (by exact rfl) (by first | exact rfl | assumption) (by k_asm) (by k_asm) (by k_asm) (by k_asm) (by k_asm) (by k_is) (by k_is) (by ktr_room) (by first | exact BindsTo.of_eq rfl | exact binds_K (by k_in) rfl (by k_is) rfl rfl rfl) (by exact rfl) (by decide +kernel) (by exact rfl) (by exact rfl) (by exact rfl) ?_); k_whole; intro g' L' h' tk' cells' FG' F' N' Y' B' X' T' l1; (try k_lt l1); k_cells Y'; (try simp only [List.cons_append, List.nil_append] at N'); (try dsimp only); (try k_lift B'); (try k_fold)))) | ((first | with_reducible refine call_cls (by k_dflt (k_asm)) (by k_dflt (k_asm)) (by k_dflt (k_asm)) (by k_dflt (k_is)) (by k_dflt (k_is)) (by k_dflt (k_is)) ?_ | refine call_cls (by k_asm) (by k_asm) (by k_asm) (by k_is) (by k_is) (by k_is) ?_); k_whole; intro x' d' h' F' N' l1 l2; (try k_lt l1); (try k_lt2 l2); (try k_sweep); (first | ((first | with_reducible refine code_defO (by k_dflt (exact rfl)) (by k_dflt (exact rfl)) (by k_dflt (first | exact rfl | assumption)) (by k_dflt (k_asm)) (by k_dflt (k_asm)) (by k_dflt (k_asm)) (by k_dflt (k_asm)) (by k_dflt (k_asm)) (by k_dflt (k_is)) (by k_dflt (k_is)) (by k_dflt (ktr_room)) (by k_dflt (first | exact BindsTo.of_eq rfl | exact binds_K (by k_in) rfl (by k_is) rfl rfl rfl)) (by k_dflt (decide)) (by k_dflt (exact locs rfl)) (by k_dflt (exact rfl)) (by k_dflt (exact rfl)) (by k_dflt (exact rfl)) ?_ | refine code_defO (by exact rfl) (by exact rfl) (by first | exact rfl | assumption) (by k_asm) (by k_asm) (by k_asm) (by k_asm) (by k_asm) (by k_is) (by k_is) (by ktr_room) (by first | exact BindsTo.of_eq rfl | exact binds_K (by k_in) rfl (by k_is) rfl rfl rfl) (by decide) (by exact locs rfl) (by exact rfl) (by exact rfl) (by exact rfl) ?_); k_whole; intro g' L' h' FG' F' N' B' X' T'; (try dsimp only); (try k_lift B'); (try k_fold)) | ((first | with_reducible refine code_defCO (by k_dflt (exact rfl)) (by k_dflt (exact rfl)) (by k_dflt (first | exact rfl | assumption)) (by k_dflt (k_asm)) (by k_dflt (k_asm)) (by k_dflt (k_asm)) (by k_dflt (k_asm)) (by k_dflt (k_asm)) (by k_dflt (k_is)) (by k_dflt (k_is)) (by k_dflt (ktr_room)) (by k_dflt (first | exact BindsTo.of_eq rfl | exact binds_K (by k_in) rfl (by k_is) rfl rfl rfl)) (by k_dflt (exact rfl)) (by k_dflt (decide +kernel)) (by k_dflt (exact rfl)) (by k_dflt (exact rfl)) (by k_dflt (exact rfl)) ?_ | refine code_defCO (by exact rfl) (by exact rfl) (by first | exact rfl | assumption) (by k_asm) (by k_asm) (by k_asm) (by k_asm) (by k_asm) (by k_is) (by k_is) (by ktr_room) (by first | exact BindsTo.of_eq rfl | exact binds_K (by k_in) rfl (by k_is) rfl rfl rfl) (by exact rfl) (by decide +kernel) (by exact rfl) (by exact rfl) (by exact rfl) ?_); k_whole; intro g' L' h' tk' cells' FG' F' N' Y' B' X' T' l1; (try k_lt l1); k_cells Y'; (try simp only [List.cons_append, List.nil_append] at N'); (try dsimp only); (try k_lift B'); (try k_fold)))) | ((first | with_reducible refine wpAny_call ?_ | refine wpAny_call ?_); (first | ((first | with_reducible refine code_defO (by k_dflt (exact rfl)) (by k_dflt (exact rfl)) (by k_dflt (first | exact rfl | assumption)) (by k_dflt (k_asm)) (by k_dflt (k_asm)) (by k_dflt (k_asm)) (by k_dflt (k_asm)) (by k_dflt (k_asm)) (by k_dflt (k_is)) (by k_dflt (k_is)) (by k_dflt (ktr_room)) (by k_dflt (first | exact BindsTo.of_eq rfl | exact binds_K (by k_in) rfl (by k_is) rfl rfl rfl)) (by k_dflt (decide)) (by k_dflt (exact locs rfl)) (by k_dflt (exact rfl)) (by k_dflt (exact rfl)) (by k_dflt (exact rfl)) ?_ | refine code_defO (by exact rfl) (by exact rfl) (by first | exact rfl | assumption) (by k_asm) (by k_asm) (by k_asm) (by k_asm) (by k_asm) (by k_is) (by k_is) (by ktr_room) (by first | exact BindsTo.of_eq rfl | exact binds_K (by k_in) rfl (by k_is) rfl rfl rfl) (by decide) (by exact locs rfl) (by exact rfl) (by exact rfl) (by exact rfl) ?_); k_whole; intro g' L' h' FG' F' N' B' X' T'; (try dsimp only); (try k_lift B'); (try k_fold)) | ((first | with_reducible refine code_defCO (by k_dflt (exact rfl)) (by k_dflt (exact rfl)) (by k_dflt (first | exact rfl | assumption)) (by k_dflt (k_asm)) (by k_dflt (k_asm)) (by k_dflt (k_asm)) (by k_dflt (k_asm)) (by k_dflt (k_asm)) (by k_dflt (k_is)) (by k_dflt (k_is)) (by k_dflt (ktr_room)) (by k_dflt (first | exact BindsTo.of_eq rfl | exact binds_K (by k_in) rfl (by k_is) rfl rfl rfl)) (by k_dflt (exact rfl)) (by k_dflt (decide +kernel)) (by k_dflt (exact rfl)) (by k_dflt (exact rfl)) (by k_dflt (exact rfl)) ?_ | refine code_defCO (by exact rfl) (by exact rfl) (by first | exact rfl | assumption) (by k_asm) (by k_asm) (by k_asm) (by k_asm) (by k_asm) (by k_is) (by k_is) (by ktr_room) (by first | exact BindsTo.of_eq rfl | exact binds_K (by k_in) rfl (by k_is) rfl rfl rfl) (by exact rfl) (by decide +kernel) (by exact rfl) (by exact rfl) (by exact rfl) ?_); k_whole; intro g' L' h' tk' cells' FG' F' N' Y' B' X' T' l1; (try k_lt l1); k_cells Y'; (try simp only [List.cons_append, List.nil_append] at N'); (try dsimp only); (try k_lift B'); (try k_fold)))))))
  (k_with "execs cons" => (k_here; (with_reducible (refine gen_toks ?_)); intro tk))
  (k_with "execs nil" => (k_here; (with_reducible (refine gen_toks ?_)); intro tk))
  (k_with "call builtin:list.append" => (k_here; k_dflt ((first | with_reducible refine app_K (by k_dflt (k_asm)) (by k_dflt (k_asm)) (by k_dflt (k_updF)) (by k_dflt ((simp only [List.length_append, List.length_cons, List.length_nil]; omega))) ?_ | refine app_K (by k_asm) (by k_asm) (by k_updF) (by (simp only [List.length_append, List.length_cons, List.length_nil]; omega)) ?_)); intro h' F' N'; (try dsimp only at N'); (try dsimp only)))
  (k_with "compareOp Lt bytes bytes" => refine lt_bytes ?_)
  (k_with "compareOp LtE bytes bytes" => refine le_bytes ?_)
  (k_with "LeaveK" => ((try ((rename RestIn _ _ _ _ => rI); (rename Fr _ _ _ _ => lF'); (have rJ := RestIn.keeps rI lF'); (try ((rename News _ _ _ _ => lN'); (have rK := RestIn.apart rI lN'))))); (k_dflt ((first | with_reducible refine leaveK_ (by k_dflt (k_asm)) (by k_dflt (k_asm)) ?_ | refine leaveK_ (by k_asm) (by k_asm) ?_); k_whole); intro kF kN; ground_anew kF; (have kX := kFor kF (by k_asm)); (try dsimp only [InitBack, CmpBack, LenBack, StrBack, BoolBack]); (try refine ⟨rfl, ?_⟩); (try dsimp only [CmpBack, LenBack, StrBack, BoolBack]); (try (refine ⟨⟨by omega, by omega⟩, ?_⟩)); (try (refine handed_on rfl ?_; try dsimp only)))))
  (k_with "binaryOp Mult ref int" => (k_here; (with_reducible show wpAny _ _ (binaryOp Operator.Mult (Value.ref _) (Value.int _ _)) _ _ _); k_dflt ((first | with_reducible refine zeros_K (by k_dflt (k_asm)) (by k_dflt (k_asm)) (by k_dflt (k_mem)) ?_ | refine zeros_K (by k_asm) (by k_asm) (by k_mem) ?_)); intro D' h' ws' F' N' l1 i1; (try k_lt l1)))
  (k_with "subscriptTail" => (k_here; (with_reducible show wpAny _ _ (subscriptTail _ _ (Value.bytes _ _) (Value.int 0 _)) _ _ _); k_dflt ((first | with_reducible refine oid0 ?_ | refine oid0 ?_)); intro _ _))
  (k_with "getItem ref int" => (k_here; k_dflt ((first | with_reducible refine cnt_item (by k_dflt (k_asm)) (by k_dflt (k_mem)) (by k_dflt (assumption)) ?_ | refine cnt_item (by k_asm) (by k_mem) (by assumption) ?_)); intro _))
  (k_with "setItem ref int" => (k_here; k_dflt ((first | with_reducible refine cnt_store (by k_dflt (k_asm)) (by k_dflt (k_asm)) (by k_dflt (k_updF)) (by k_dflt (assumption)) ?_ | refine cnt_store (by k_asm) (by k_asm) (by k_updF) (by assumption) ?_)); intro h' ws' F' N' hi'; (try dsimp only at N')))
  (k_with "subscriptTail Name Name ref int" => (k_here; k_dflt (first | ((first | with_reducible refine cnt_sub (by k_dflt (k_asm)) (by k_dflt (k_mem)) (by k_dflt (assumption)) (by k_dflt (omega)) (by k_dflt (omega)) ?_ | refine cnt_sub (by k_asm) (by k_mem) (by assumption) (by omega) (by omega) ?_); intro t9 x9 f9) | ((first | with_reducible refine fan_sub (by k_dflt (k_asm)) (by k_dflt (k_mem)) (by k_dflt (assumption)) (by k_dflt (omega)) (by k_dflt (omega)) ?_ | refine fan_sub (by k_asm) (by k_mem) (by assumption) (by omega) (by omega) ?_); intro t9 x9 f9))))
  trivial
def FanAt (ks : List Int) (n : Int) : Prop := ∀ j : Nat, j < 256 → (ks.drop (8 + 4 * j)).take 4 = [0, 0, 0, if j = 0 then 0 else n]
def fanP (n : Int) : Nat → List Int
  | 0 => []
  | l + 1 => 0 :: List.replicate l n
theorem fanP_snoc (n : Int) (l : Nat) : fanP n (l + 1) = fanP n l ++ [if l = 0 then 0 else n] := by
  cases l with
  | zero => rfl
  | succ l =>
    show 0 :: List.replicate (l + 1) n = (0 :: List.replicate l n) ++ [n]
    rw [List.replicate_succ', List.cons_append]
def FanSt (n : Int) (pre counts : List Int) (last : Int) (known : Array UInt8) : Prop := counts = fanP n pre.length ∧ KBw.bInts known = [0, 0, 0, last]
theorem fanSt_known {n last : Int} {pre counts : List Int} {known : Array UInt8} {Z : Prop} (h : FanSt n pre counts last known ∧ Z) : KBw.bInts known = [0, 0, 0, last] := h.1.2
def FanS (n : Int) (pre counts : List Int) (last : Int) (known : Array UInt8) : Prop := FanSt n pre counts last known ∧ ((pre.length ≤ 1 ∧ last = 0) ∨ (1 < pre.length ∧ last = n))
theorem fst0 {n : Int} {b : Array UInt8} (hb : KBw.bInts b = [0, 0, 0, 0]) : FanSt n [] [] 0 b ∧ ((([] : List Int).length ≤ 1 ∧ (0 : Int) = 0) ∨ (1 < ([] : List Int).length ∧ (0 : Int) = n)) :=
  ⟨⟨rfl, hb⟩, .inl ⟨by decide, rfl⟩⟩
theorem fstA {n k x last : Int} {pre counts : List Int} {known : Array UInt8} (h : FanSt n pre counts last known ∧ ((pre.length ≤ 1 ∧ last = 0) ∨ (1 < pre.length ∧ last = n))) (hx : (k = 0 ∧ x = 0) ∨ (k ≠ 0 ∧ x = n)) (hk : k = (pre.length : Int)) (e : x = last) :
    FanSt n (pre ++ [k]) (counts ++ [last]) last known ∧ (((pre ++ [k]).length ≤ 1 ∧ last = 0) ∨ (1 < (pre ++ [k]).length ∧ last = n)) := by
  obtain ⟨⟨rfl, hb⟩, h2⟩ := h
  have el : (pre ++ [k]).length = pre.length + 1 := by simp
  refine ⟨⟨?_, hb⟩, ?_⟩
  · rw [el, fanP_snoc]
    congr 2
    split <;> omega
  · rw [el]; omega
theorem fstB {n k x last : Int} {pre counts : List Int} {known piece : Array UInt8} (h : FanSt n pre counts last known ∧ ((pre.length ≤ 1 ∧ last = 0) ∨ (1 < pre.length ∧ last = n))) (hx : (k = 0 ∧ x = 0) ∨ (k ≠ 0 ∧ x = n)) (hb' : KBw.bInts piece = [0, 0, 0, x]) (hk : k = (pre.length : Int)) (e : x ≠ last) :
    FanSt n (pre ++ [k]) (counts ++ [x]) x piece ∧ (((pre ++ [k]).length ≤ 1 ∧ x = 0) ∨ (1 < (pre ++ [k]).length ∧ x = n)) := by
  obtain ⟨⟨rfl, hb⟩, h2⟩ := h
  have el : (pre ++ [k]).length = pre.length + 1 := by simp
  refine ⟨⟨?_, hb'⟩, ?_⟩
  · rw [el, fanP_snoc]
    congr 2
    split <;> omega
  · rw [el]; omega
section
variable {prog : Program} {w : World} {A : Around} {E : Value → Shared → Prop} {s : Shared} {h₀ : Heap} {L D : Addr} {m : Str → Option Value} {news : List (Addr × Obj)} {k n lo hi : Int} {t u t1 t2 : Tok} {oct b c : Array UInt8} {ks : List Int} {x y : Int}
theorem fan_slice {value slice : PySem.Expr} {Q : Value → Shared → Prop} (hF : Fr h₀ L s.heap m) (hN : News h₀ L s.heap news) (hk : KBw.bInts oct = ks) (hz : ks.length ≤ 100000) (hfan : FanAt ks n) (hs1 : 1032 ≤ ks.length) (h0 : 0 ≤ k) (h1 : k < 256) (e : lo = 8 + 4 * k) (e' : hi = 8 + 4 * k + 4)
    (h : ∀ h' b' t' x tk, Fr h₀ L h' m → News h₀ L h' news → KBw.bInts b' = [0, 0, 0, x] → ((k = 0 ∧ x = 0) ∨ (k ≠ 0 ∧ x = n)) → Q (.bytes b' t') { s with heap := h', toks := tk })
    (hs : subscripted slice false (.bytes oct t) (.ref s.heap.objs.size) = operate [.ref s.heap.objs.size, .bytes oct t] (getItem (.bytes oct t) (.ref s.heap.objs.size)) := by with_unfolding_all rfl)
    (ht : ∀ r, letTemporaryGo value (.bytes oct t) r = pure () := by intro _; with_unfolding_all rfl) :
    wpAny (model prog w) A (subscriptTail value slice (.bytes oct t) (.ref s.heap.objs.size)) Q E { s with heap := s.heap.push { cls := .type "slice", data := .fields #[.int lo t1, .int hi t2, .none] } } := by
  refine KBc.slice_K hF hN hk (lo := some lo) (hi := some hi) (by constructor) (by constructor) (by omega) (fun h' t' tk F' N' e9 => ?_) hs ht
  have f := hfan k.toNat (by omega)
  refine h h' _ t' (if k.toNat = 0 then 0 else n) tk F' N' ?_ (by split <;> omega)
  rw [e9, ← f]
  show List.take (clipAt ks.length hi - clipAt ks.length lo) (List.drop (clipAt ks.length lo) ks) = _
  rw [clip_in (x := lo) (by omega) (by omega), clip_in (x := hi) (by omega) (by omega)]
  have a1 : lo.toNat = 8 + 4 * k.toNat := by omega
  have a2 : hi.toNat - lo.toNat = 4 := by omega
  rw [a1] at a2 ⊢
  rw [a2]
theorem ne_word {Q : Value → Shared → Prop} (hb : KBw.bInts b = [0, 0, 0, x]) (hc : KBw.bInts c = [0, 0, 0, y]) (h : Q (.bool (decide (x ≠ y))) s) : wpAny (model prog w) A (compareOp .NotEq (.bytes b t) (.bytes c u)) Q E s := by
  refine ne_bytes ?_
  have : (b.toList != c.toList) = decide (x ≠ y) := by
    rw [Bool.eq_iff_iff]
    simp only [bne_iff_ne, decide_eq_true_eq]
    constructor
    · intro h1 h2
      subst h2
      exact h1 (by rw [bInts_inj (hb.trans hc.symm)])
    · intro h1 h2
      have : b = c := Array.toList_inj.mp h2
      subst this
      have := hb.symm.trans hc
      simp at this
      exact h1 this
  rw [this]
  exact h
end
section
variable {prog : Program} {w : World} {A : Around} {E : Value → Shared → Prop} {s : Shared} {env : Env} {h₀ : Heap} {x : Str} {body : List Stmt} {Q : Flow → Shared → Prop}
abbrev FanC := (List Value × List Int × Nat) × (Int × Tok) × (Array UInt8 × Tok)
abbrev fanLed (l : Addr) (c : FanC) : List (Addr × Obj) := [(l, listOf c.1.1.toArray c.1.2.2)]
abbrev fanPs (c : FanC) : List (Str × Value) := [(Str.ofString "last", .int c.2.1.1 c.2.1.2), (Str.ofString "known", .bytes c.2.2.1 c.2.2.2)]
abbrev fanSto : List Str := [Str.ofString "piece", Str.ofString "count"]
def FanP (n : Int) (pre : List Int) (c : FanC) : Prop := FanSt n pre c.1.2.1 c.2.1.1 c.2.2.1 ∧ ((pre.length ≤ 1 ∧ c.2.1.1 = 0) ∨ (1 < pre.length ∧ c.2.1.1 = n))
theorem fan_loop {ks : List Int} {r l : Addr} {t₀ u₀ v₀ tl tb : Tok} {b : Array UInt8} {nn : Nat} {n : Int} {m₀ : Str → Option Value}
    (hfan : FanAt ks n) (hh : A.handled = none) (hr : IsRange s.heap r 0 256 1 t₀ u₀ v₀) (F : Fr h₀ env.locals s.heap m₀) (N : News h₀ env.locals s.heap [(l, listOf #[] nn)])
    (hl : m₀ (Str.ofString "last") = some (.int 0 tl)) (hkn : m₀ (Str.ofString "known") = some (.bytes b tb)) (hb : KBw.bInts b = [0, 0, 0, 0])
    (turn : ∀ (vs : List Value) (counts : List Int) (nn : Nat) (last : Int) (tl : Tok) (known : Array UInt8) (tb : Tok) (pre : List Int) (k : Int) t (u : Str → Option Value) h tk own, k = (pre.length : Int) → 0 ≤ k → k < 256 → OwnOff own [l] → IntsAre vs counts → vs.length < 256 → KBw.bInts known = [0, 0, 0, last] → ((pre.length ≤ 1 ∧ last = 0) ∨ (1 < pre.length ∧ last = n)) →
      Fr h₀ env.locals h (fun y => if y = x then some (.int k t) else kstB (fun z => if fanSto.contains z then u z else m₀ z) (fanPs ((vs, counts, nn), (last, tl), (known, tb))) y) → News h₀ env.locals h ((l, listOf vs.toArray nn) :: own) →
      wpAny (model prog w) A (execs body env) (InvPostN h₀ env.locals (fun m' nx => ∃ vs' counts' nn' last' tl' known' tb', nx = [(l, listOf vs'.toArray nn')] ∧ IntsAre vs' counts' ∧ m' (Str.ofString "last") = some (.int last' tl') ∧ m' (Str.ofString "known") = some (.bytes known' tb') ∧ (∀ z, z ≠ x → z ≠ Str.ofString "last" → z ≠ Str.ofString "known" → fanSto.contains z = false → m' z = m₀ z) ∧
        ∃ y, ((k = 0 ∧ y = 0) ∨ (k ≠ 0 ∧ y = n)) ∧ counts' = counts ++ [y] ∧ last' = y ∧ KBw.bInts known' = [0, 0, 0, y]) own [l] { s with heap := h, toks := tk } Q) E { s with heap := h, toks := tk })
    (done : ∀ (vs : List Value) (nn : Nat) (last : Int) (tl : Tok) (known : Array UInt8) (tb : Tok) (u : Str → Option Value) h tk, IntsAre vs (fanL n) → Fr h₀ env.locals h (fun y => if y = x then u y else kstB (fun z => if fanSto.contains z then u z else m₀ z) [(Str.ofString "last", .int last tl), (Str.ofString "known", .bytes known tb)] y) → News h₀ env.locals h [(l, listOf vs.toArray nn)] → Q .next { s with heap := h, toks := tk }) :
    wpAny (model prog w) A (pyIter (.ref r)) (fun it s₂ => LoopAtV prog w A h₀ env x body Q E it s₂) E s := by
  refine kst_range (σ := FanC) (n := 256) (fanLed l) fanPs (fun c => IntsAre c.1.1 c.1.2.1) fanSto (FanP n) (([], [], nn), (0, tl), (b, tb)) hh hr (by decide) (by decide) F N .nil ?_ ⟨⟨rfl, hb⟩, .inl ⟨by decide, rfl⟩⟩ ?_ ?_
  · intro p hp
    rcases List.mem_cons.mp hp with rfl | hp
    · exact hl
    · rw [List.mem_singleton.mp hp]; exact hkn
  · rintro ⟨⟨vs, counts, nn⟩, ⟨last, tl⟩, ⟨known, tb⟩⟩ pre k t u h tk own ek hlt hoff hi ⟨⟨hc, hkb⟩, hp⟩ F' N'
    have ek' : k = (pre.length : Int) := by rw [ek]; omega
    have hlen : counts.length = pre.length := by
      dsimp only at hc
      rw [hc]
      cases pre with
      | nil => rfl
      | cons a r => simp [fanP]
    refine wpAny_mono (turn vs counts nn last tl known tb pre k t u h tk own ek' (by omega) (by omega) hoff hi (by rw [hi.length]; dsimp only at hlen ⊢; omega) hkb hp F' N') (fun f s₂ q => ?_) fun _ _ e => e
    have up : InvEndN h₀ env.locals (fun m' nx => ∃ vs' counts' nn' last' tl' known' tb', nx = [(l, listOf vs'.toArray nn')] ∧ IntsAre vs' counts' ∧ m' (Str.ofString "last") = some (.int last' tl') ∧ m' (Str.ofString "known") = some (.bytes known' tb') ∧ (∀ z, z ≠ x → z ≠ Str.ofString "last" → z ≠ Str.ofString "known" → fanSto.contains z = false → m' z = m₀ z) ∧
        ∃ y, ((k = 0 ∧ y = 0) ∨ (k ≠ 0 ∧ y = n)) ∧ counts' = counts ++ [y] ∧ last' = y ∧ KBw.bInts known' = [0, 0, 0, y]) own [l] { s with heap := h, toks := tk } s₂ →
        InvEndN h₀ env.locals (KstS (fanLed l) fanPs (fun c => IntsAre c.1.1 c.1.2.1) x fanSto m₀ (FanP n) (pre ++ [k])) own [l] { s with heap := h, toks := tk } s₂ := by
      rintro ⟨h', tk', m', news', nx, e, F₁, N₁, hn₁, ho₁, ha, vs', counts', nn', last', tl', known', tb', rfl, hi', h1, h2, h3, y, hy, rfl, rfl, hkb'⟩
      refine ⟨h', tk', m', news', _, e, F₁, N₁, hn₁, ho₁, ha, ((vs', counts ++ [last'], nn'), (last', tl'), (known', tb')), rfl, hi', ?_, ?_, ?_⟩
      · intro p hp
        rcases List.mem_cons.mp hp with rfl | hp
        · exact h1
        · rw [List.mem_singleton.mp hp]; exact h2
      · intro z hz hz2 hz3
        exact h3 z hz (hz2 _ (.head _)) (hz2 _ (.tail _ (.head _))) hz3
      · have el : (pre ++ [k]).length = pre.length + 1 := by simp
        refine ⟨⟨?_, hkb'⟩, ?_⟩
        · show counts ++ [last'] = fanP n (pre ++ [k]).length
          dsimp only at hc
          rw [el, fanP_snoc, hc]
          congr 2
          split <;> omega
        · show ((pre ++ [k]).length ≤ 1 ∧ last' = 0) ∨ (1 < (pre ++ [k]).length ∧ last' = n)
          rw [el]; omega
    cases f with
    | ret v => exact q
    | brk => exact q
    | next => exact up q
    | cont => exact up q
  · rintro ⟨⟨vs, counts, nn⟩, ⟨last, tl⟩, ⟨known, tb⟩⟩ u h tk hi ⟨⟨hc, _⟩, _⟩ F' N'
    refine done vs nn last tl known tb u h tk ?_ F' N'
    have : counts = fanL n := by
      dsimp only at hc
      rw [hc, rangeKs_length]
      rfl
    exact this ▸ hi
end

end

section
theorem wordsSDigb : True := by
  w_top off
  k_with_none
  (k_with "exec For Name Subscript cons nil" => (k_here; (rename Fr _ _ _ _ => lF'); (with_unfolding_all refine For_invVF lF' (by exact rfl) (by exact rfl) ?_; k_whole)))
  (k_with "call ref" => (k_here; k_dflt (first | (refine call_meth (by k_asm) (by k_mem) ?_; k_whole; (first | ((first | with_reducible refine code_defO (by k_dflt (exact rfl)) (by k_dflt (exact rfl)) (by k_dflt (first | exact rfl | assumption)) (by k_dflt (k_asm)) (by k_dflt (k_asm)) (by k_dflt (k_asm)) (by k_dflt (k_asm)) (by k_dflt (k_asm)) (by k_dflt (k_is)) (by k_dflt (k_is)) (by k_dflt (ktr_room)) (by k_dflt (first | exact BindsTo.of_eq rfl | exact binds_K (by k_in) rfl (by k_is) rfl rfl rfl)) (by k_dflt (decide)) (by k_dflt (exact locs rfl)) (by k_dflt (exact rfl)) (by k_dflt (exact rfl)) (by k_dflt (exact rfl)) ?_ | refine code_defO (by exact rfl) (by exact rfl) (by first | exact rfl | assumption) (by k_asm) (by k_asm) (by k_asm) (by k_asm) (by k_asm) (by k_is) (by k_is) (by ktr_room) (by first | exact BindsTo.of_eq rfl | exact binds_K (by k_in) rfl (by k_is) rfl rfl rfl) (by decide) (by exact locs rfl) (by exact rfl) (by exact rfl) (by exact rfl) ?_); k_whole; intro g' L' h' FG' F' N' B' X' T'; (try dsimp only); (try k_lift B'); (try k_fold)) | ((first | with_reducible refine code_defCO (by k_dflt (exact rfl)) (by k_dflt (exact rfl)) (by k_dflt (first | exact rfl | assumption)) (by k_dflt (k_asm)) (by k_dflt (k_asm)) (by k_dflt (k_asm)) (by k_dflt (k_asm)) (by k_dflt (k_asm)) (by k_dflt (k_is)) (by k_dflt (k_is)) (by k_dflt (ktr_room)) (by k_dflt (first | exact BindsTo.of_eq rfl | exact binds_K (by k_in) rfl (by k_is) rfl rfl rfl)) (by k_dflt (exact rfl)) (by k_dflt (decide +kernel)) (by k_dflt (exact rfl)) (by k_dflt (exact rfl)) (by k_dflt (exact rfl)) ?_ | refine code_defCO (by exact rfl) (by exact rfl) (by first | exact rfl | assumption) (by k_asm) (by k_asm) (by k_asm) (by k_asm) (by k_asm) (by k_is) (by k_is) (by ktr_room) (by first | exact BindsTo.of_eq rfl | exact binds_K (by k_in) rfl (by k_is) rfl rfl rfl) (by exact rfl) (by decide +kernel) (by exact rfl) (by exact rfl) (by exact rfl) ?_); k_whole; intro g' L' h' tk' cells' FG' F' N' Y' B' X' T' l1; (try k_lt l1); k_cells Y'; (try simp only [List.cons_append, List.nil_append] at N'); (try dsimp only); (try k_lift B'); (try k_fold)))) | ((first | with_reducible refine call_cls (by k_dflt (k_asm)) (by k_dflt (k_asm)) (by k_dflt (k_asm)) (by k_dflt (k_is)) (by k_dflt (k_is)) (by k_dflt (k_is)) ?_ | refine call_cls (by k_asm) (by k_asm) (by k_asm) (by k_is) (by k_is) (by k_is) ?_); k_whole; intro x' d' h' F' N' l1 l2; (try k_lt l1); (try k_lt2 l2); (try k_sweep); (first | ((first | with_reducible refine code_defO (by k_dflt (exact rfl)) (by k_dflt (exact rfl)) (by k_dflt (first | exact rfl | assumption)) (by k_dflt (k_asm)) (by k_dflt (k_asm)) (by k_dflt (k_asm)) (by k_dflt (k_asm)) (by k_dflt (k_asm)) (by k_dflt (k_is)) (by k_dflt (k_is)) (by k_dflt (ktr_room)) (by k_dflt (first | exact BindsTo.of_eq rfl | exact binds_K (by k_in) rfl (by k_is) rfl rfl rfl)) (by k_dflt (decide)) (by k_dflt (exact locs rfl)) (by k_dflt (exact rfl)) (by k_dflt (exact rfl)) (by k_dflt (exact rfl)) ?_ | refine code_defO (by exact rfl) (by exact rfl) (by first | exact rfl | assumption) (by k_asm) (by k_asm) (by k_asm) (by k_asm) (by k_asm) (by k_is) (by k_is) (by ktr_room) (by first | exact BindsTo.of_eq rfl | exact binds_K (by k_in) rfl (by k_is) rfl rfl rfl) (by decide) (by exact locs rfl) (by exact rfl) (by exact rfl) (by exact rfl) ?_); k_whole; intro g' L' h' FG' F' N' B' X' T'; (try dsimp only); (try k_lift B'); (try k_fold)) | ((first | with_reducible refine code_defCO (by k_dflt (exact rfl)) (by k_dflt (exact rfl)) (by k_dflt (first | exact rfl | assumption)) (by k_dflt (k_asm)) (by k_dflt (k_asm)) (by k_dflt (k_asm)) (by k_dflt (k_asm)) (by k_dflt (k_asm)) (by k_dflt (k_is)) (by k_dflt (k_is)) (by k_dflt (ktr_room)) (by k_dflt (first | exact BindsTo.of_eq rfl | exact binds_K (by k_in) rfl (by k_is) rfl rfl rfl)) (by k_dflt (exact rfl)) (by k_dflt (decide +kernel)) (by k_dflt (exact rfl)) (by k_dflt (exact rfl)) (by k_dflt (exact rfl)) ?_ | refine code_defCO (by exact rfl) (by exact rfl) (by first | exact rfl | assumption) (by k_asm) (by k_asm) (by k_asm) (by k_asm) (by k_asm) (by k_is) (by k_is) (by ktr_room) (by first | exact BindsTo.of_eq rfl | exact binds_K (by k_in) rfl (by k_is) rfl rfl rfl) (by exact rfl) (by decide +kernel) (by exact rfl) (by exact rfl) (by exact rfl) ?_); k_whole; intro g' L' h' tk' cells' FG' F' N' Y' B' X' T' l1; (try k_lt l1); k_cells Y'; (try simp only [List.cons_append, List.nil_append] at N'); (try dsimp only); (try k_lift B'); (try k_fold)))) | ((first | with_reducible refine wpAny_call ?_ | refine wpAny_call ?_); (first | ((first | with_reducible refine code_defO (by k_dflt (exact rfl)) (by k_dflt (exact rfl)) (by k_dflt (first | exact rfl | assumption)) (by k_dflt (k_asm)) (by k_dflt (k_asm)) (by k_dflt (k_asm)) (by k_dflt (k_asm)) (by k_dflt (k_asm)) (by k_dflt (k_is)) (by k_dflt (k_is)) (by k_dflt (ktr_room)) (by k_dflt (first | exact BindsTo.of_eq rfl | exact binds_K (by k_in) rfl (by k_is) rfl rfl rfl)) (by k_dflt (decide)) (by k_dflt (exact locs rfl)) (by k_dflt (exact rfl)) (by k_dflt (exact rfl)) (by k_dflt (exact rfl)) ?_ | refine code_defO (by exact rfl) (by exact rfl) (by first | exact rfl | assumption) (by k_asm) (by k_asm) (by k_asm) (by k_asm) (by k_asm) (by k_is) (by k_is) (by ktr_room) (by first | exact BindsTo.of_eq rfl | exact binds_K (by k_in) rfl (by k_is) rfl rfl rfl) (by decide) (by exact locs rfl) (by exact rfl) (by exact rfl) (by exact rfl) ?_); k_whole; intro g' L' h' FG' F' N' B' X' T'; (try dsimp only); (try k_lift B'); (try k_fold)) | ((first | with_reducible refine code_defCO (by k_dflt (exact rfl)) (by k_dflt (exact rfl)) (by k_dflt (first | exact rfl | assumption)) (by k_dflt (k_asm)) (by k_dflt (k_asm)) (by k_dflt (k_asm)) (by k_dflt (k_asm)) (by k_dflt (k_asm)) (by k_dflt (k_is)) (by k_dflt (k_is)) (by k_dflt (ktr_room)) (by k_dflt (first | exact BindsTo.of_eq rfl | exact binds_K (by k_in) rfl (by k_is) rfl rfl rfl)) (by k_dflt (exact rfl)) (by k_dflt (decide +kernel)) (by k_dflt (exact rfl)) (by k_dflt (exact rfl)) (by k_dflt (exact rfl)) ?_ | refine code_defCO (by exact rfl) (by exact rfl) (by first | exact rfl | assumption) (by k_asm) (by k_asm) (by k_asm) (by k_asm) (by k_asm) (by k_is) (by k_is) (by ktr_room) (by first | exact BindsTo.of_eq rfl | exact binds_K (by k_in) rfl (by k_is) rfl rfl rfl) (by exact rfl) (by decide +kernel) (by exact rfl) (by exact rfl) (by exact rfl) ?_); k_whole; intro g' L' h' tk' cells' FG' F' N' Y' B' X' T' l1; (try k_lt l1); k_cells Y'; (try simp only [List.cons_append, List.nil_append] at N'); (try dsimp only); (try k_lift B'); (try k_fold)))))))
  (k_with "execs cons" => (k_here; (with_reducible (refine gen_toks ?_)); intro tk))
  (k_with "execs nil" => (k_here; (with_reducible (refine gen_toks ?_)); intro tk))
  (k_with "call builtin:list.append" => (k_here; k_dflt ((first | with_reducible refine app_K (by k_dflt (k_asm)) (by k_dflt (k_asm)) (by k_dflt (k_updF)) (by k_dflt ((simp only [List.length_append, List.length_cons, List.length_nil]; omega))) ?_ | refine app_K (by k_asm) (by k_asm) (by k_updF) (by (simp only [List.length_append, List.length_cons, List.length_nil]; omega)) ?_)); intro h' F' N'; (try dsimp only at N'); (try dsimp only)))
  (k_with "call ref" => (k_here; k_dflt (((with_reducible show wpAny _ _ (call (Value.ref 85) _) _ _ _); first | with_reducible refine abe (by k_dflt (k_asm)) (by k_dflt (k_asm)) (by k_dflt (k_asm)) (by k_dflt (k_asm)) (by k_dflt (k_asm)) (by k_dflt (first | exact rfl | assumption)) (by k_dflt (ktr_room)) (by k_dflt (ktr_units)) (by k_dflt (assumption)) (by k_dflt (omega)) (by k_dflt (omega)) (by k_dflt (omega)) (by k_dflt (omega)) ?_ | refine abe (by k_asm) (by k_asm) (by k_asm) (by k_asm) (by k_asm) (by first | exact rfl | assumption) (by ktr_room) (by ktr_units) (by assumption) (by omega) (by omega) (by omega) (by omega) ?_); k_whole); intro t9 h9 tk9 F9 N9; (try dsimp only); (try k_fold)))
  (k_with "compareOp Lt bytes bytes" => refine lt_bytes ?_)
  (k_with "compareOp LtE bytes bytes" => refine le_bytes ?_)
  (k_with "subscriptTail" => (k_here; (with_reducible show wpAny _ _ (subscriptTail _ _ (Value.ref _) (Value.str _ _)) _ _ _); k_dflt ((first | with_reducible refine kda_item (knd := PySem.strKind _ _) (by k_dflt (k_asm)) (by k_dflt (k_mem)) (by k_dflt (k_asm)) (strKind_is _ _ _ _) (by k_dflt (rfl)) ?_ | refine kda_item (knd := PySem.strKind _ _) (by k_asm) (by k_mem) (by k_asm) (strKind_is _ _ _ _) (by rfl) ?_))))
  (k_with "subscriptTail" => (k_here; (with_reducible show wpAny _ _ (subscriptTail _ _ (Value.ref _) (Value.bytes _ _)) _ _ _); k_dflt ((first | with_reducible refine kda_item (knd := PySem.W.bytesKind _ _) (by k_dflt (k_asm)) (by k_dflt (k_mem)) (by k_dflt (k_asm)) (bytesKind_at _ _ _ _) (by k_dflt (first | exact value_one _ _ | rfl)) ?_ | refine kda_item (knd := PySem.W.bytesKind _ _) (by k_asm) (by k_mem) (by k_asm) (bytesKind_at _ _ _ _) (by first | exact value_one _ _ | rfl) ?_))))
  (k_with "setItem ref str" => (k_here; k_dflt ((first | with_reducible refine kda_set (knd := PySem.strKind _ _) (by k_dflt (k_asm)) (by k_dflt (k_asm)) (by k_dflt (k_updF)) (by k_dflt (k_asm)) (strKind_is _ _ _ _) (by k_dflt (rw [sizeLine_eq]; exact Nat.le_of_ble_eq_true (by with_unfolding_all rfl))) ?_ | refine kda_set (knd := PySem.strKind _ _) (by k_asm) (by k_asm) (by k_updF) (by k_asm) (strKind_is _ _ _ _) (by rw [sizeLine_eq]; exact Nat.le_of_ble_eq_true (by with_unfolding_all rfl)) ?_)); intro h' o' F' N' hd'; (try dsimp only at N'); (try rw [stored_mixed] at hd'); (try rw [stored_nil] at hd')))
  (k_with "compareOp NotIn bytes ref" => (k_here; k_dflt ((first | with_reducible refine notin_bytes (by k_dflt (k_asm)) (by k_dflt (k_mem)) (by k_dflt (k_asm)) (by k_dflt (k_asm)) (by k_dflt (first | rfl | exact value_is _ _)) ?_ | refine notin_bytes (by k_asm) (by k_mem) (by k_asm) (by k_asm) (by first | rfl | exact value_is _ _) ?_))))
  (k_with "setItem ref bytes" => (k_here; k_dflt ((first | with_reducible refine kda_set (knd := PySem.W.bytesKind _ _) (by k_dflt (k_asm)) (by k_dflt (k_asm)) (by k_dflt (k_updF)) (by k_dflt (k_asm)) (bytesKind_at _ _ _ _) (by k_dflt (rw [sizeLine_eq]; exact Nat.le_of_ble_eq_true (by with_unfolding_all rfl))) ?_ | refine kda_set (knd := PySem.W.bytesKind _ _) (by k_asm) (by k_asm) (by k_updF) (by k_asm) (bytesKind_at _ _ _ _) (by rw [sizeLine_eq]; exact Nat.le_of_ble_eq_true (by with_unfolding_all rfl)) ?_)); intro h' o' F' N' hd'; (try dsimp only at N'); (try rw [stored_mixed] at hd'); (try rw [stored_nil] at hd')))
  (k_with "call builtin:len" => (k_here; (with_reducible show wpAny _ _ (call (Value.builtin "len") [Value.ref _]) _ _ _); k_dflt ((first | with_reducible refine kda_len (knd := PySem.W.bytesKind _ _) (by k_dflt (k_asm)) (by k_dflt (k_mem)) (by k_dflt (k_asm)) (by k_dflt (k_asm)) (Nat.le_of_ble_eq_true (by with_unfolding_all rfl)) ?_ | refine kda_len (knd := PySem.W.bytesKind _ _) (by k_asm) (by k_mem) (by k_asm) (by k_asm) (Nat.le_of_ble_eq_true (by with_unfolding_all rfl)) ?_))))
  (k_with "call type:bytes" => (k_here; (with_reducible show wpAny _ _ (call (Value.type "bytes") [Value.bytes _ _]) _ _ _); (refine call_bytesB ?_)))
  (k_with "LeaveK" => ((try ((rename RestIn _ _ _ _ => rI); (rename Fr _ _ _ _ => lF'); (have rJ := RestIn.keeps rI lF'); (try ((rename News _ _ _ _ => lN'); (have rK := RestIn.apart rI lN'))))); (k_dflt ((first | with_reducible refine leaveK_ (by k_dflt (k_asm)) (by k_dflt (k_asm)) ?_ | refine leaveK_ (by k_asm) (by k_asm) ?_); k_whole); intro kF kN; ground_anew kF; (have kX := kFor kF (by k_asm)); (try dsimp only [InitBack, CmpBack, LenBack, StrBack, BoolBack]); (try refine ⟨rfl, ?_⟩); (try dsimp only [CmpBack, LenBack, StrBack, BoolBack]); (try (refine ⟨⟨by omega, by omega⟩, ?_⟩)); (try (refine handed_on rfl ?_; try dsimp only)))))
  (k_with "call ref" => (k_here; k_dflt (((with_reducible show wpAny _ _ (call (Value.ref 71) _) _ _ _); first | with_reducible refine be4 (by k_dflt (k_asm)) (by k_dflt (k_asm)) (by k_dflt (k_asm)) (by k_dflt (k_asm)) (by k_dflt (k_asm)) (by k_dflt (first | exact rfl | assumption)) (by k_dflt (ktr_room)) (by k_dflt (ktr_units)) (by k_dflt (first | exact .inl rfl | exact .inr rfl)) ?_ | refine be4 (by k_asm) (by k_asm) (by k_asm) (by k_asm) (by k_asm) (by first | exact rfl | assumption) (by ktr_room) (by ktr_units) (by first | exact .inl rfl | exact .inr rfl) ?_); k_whole); intro b9 t9 h9 tk9 hb9 F9 N9; (try dsimp only); (try k_fold)))
  trivial
abbrev hashEnts (h1 h2 : Int) (t1 t2 t3 : Tok) (kD : Addr) : List DictEntry := [⟨h1, .str (Str.ofString "size") t1, .int 4 t2⟩, ⟨h2, .str (Str.ofString "known") t3, .ref kD⟩]
abbrev hashRel (hI hD kD : Addr) (h1 h2 : Int) (t1 t2 t3 : Tok) (oK : Obj) : List (Addr × Obj) := [(hI, instObj 124 hD), (hD, dictOf (hashEnts h1 h2 t1 t2 t3 kD) 2), (kD, oK)]
section
variable {w : World} {p : Program} {loose : List Str} {mean : ExcName → Option Value} {mg mb : Str → Option Value}
  {dp un : Nat} {gd : Option (List Code)} {cn : Str} {cs : Scope} {a : Addr} {ccd : Value} {cl : List (Str × Addr)} {outer : List Env} {A₀ : Around} {base h₀ : Heap} {L : Addr} {m : Str → Option Value} {s : Shared} {Q E : Value → Shared → Prop}

theorem dig1 {news : List (Addr × Obj)} {hI hD kD : Addr} {h1 h2 : Int} {t1 t2 t3 tb : Tok} {oK : Obj} {b : Array UInt8}
    (B : Below A₀ base outer h₀) (F : Fr h₀ L s.heap m) (X : (hd.heap_1 w.params).In h₀) (T : Top p loose mean mg mb h₀) (hk : cs.kind = .function)
    (hd : dp + 5 < recursionLimit) (hu : un + 100 < cLine)
    (N : News h₀ L s.heap (hashRel hI hD kD h1 h2 t1 t2 t3 oK)) (NR : News h₀ L s.heap news) (hx : Apart (hashRel hI hD kD h1 h2 t1 t2 t3 oK) news)
    (hne : @Ne Nat hI hD ∧ @Ne Nat hI kD ∧ @Ne Nat hD kD) (hlo : (kD == sysModules) = false) (hK : oK.IsDictOf (PySem.W.bytesKind PySem.Challenge.rw_nt0280_01.row.prog w) [])
    (ret : ∀ (c : Array UInt8) (t t' : Tok) (oK' : Obj) (h' : Heap) (tk' : Nat), KBw.bInts c = [0, 0, 0, 1] → oK'.IsDictOf (PySem.W.bytesKind PySem.Challenge.rw_nt0280_01.row.prog w) [(b.toList, .int 1 t')] → Fr h₀ L h' m → News h₀ L h' (hashRel hI hD kD h1 h2 t1 t2 t3 oK' ++ news) → Q (.bytes c t) { s with heap := h', toks := tk' }) :
    wpAny (model PySem.Challenge.rw_nt0280_01.row.prog w) (ktrTop dp un gd cn cs L a ccd cl outer) (call (.ref 121) [.ref hI, .bytes b tb]) Q E s := by
  revert X; k_fill; intro X
  refine wpAny_call ?_
  k_dflt (first   | (refine' code_defR ?k1 ?k2 ?k3 N NR hx ?k5 ?kA ?kF ?kK ?k6 ?k7 ?k8 ?k9 ?kB ?_ ?c2 ?c3 ?c4 ?c5; (case kA => exact rfl); (case kF => exact rfl); (case kK => first | exact rfl | assumption); (case k1 => k_asm); (case k2 => k_asm); (case k3 => k_asm); (case k5 => k_asm); (case k6 => k_is); (case k7 => k_is); (case k8 => ktr_room); (case k9 => first | exact BindsTo.of_eq rfl | exact binds_K (by k_in) rfl (by k_is) rfl rfl rfl); (case c5 => decide); (case kB => exact locs rfl); (case c2 => exact rfl); (case c3 => exact rfl); (case c4 => exact rfl); k_whole; clear N NR hx; intro g' L' h' FG' F' N' B' X' T' R' l1; (try k_lt l1); (try dsimp only); (try k_lift B'); (try k_fold))   | (refine' code_defCR ?k1 ?k2 ?k3 N NR hx ?k5 ?kA ?kF ?kK ?k6 ?k7 ?k8 ?k9 ?kB ?kD ?_ ?c2 ?c3 ?c4; (case kA => exact rfl); (case kF => exact rfl); (case kK => first | exact rfl | assumption); (case k1 => k_asm); (case k2 => k_asm); (case k3 => k_asm); (case k5 => k_asm); (case k6 => k_is); (case k7 => k_is); (case k8 => ktr_room); (case k9 => first | exact BindsTo.of_eq rfl | exact binds_K (by k_in) rfl (by k_is) rfl rfl rfl); (case kB => exact rfl); (case kD => decide +kernel); (case c2 => exact rfl); (case c3 => exact rfl); (case c4 => exact rfl); k_whole; clear N NR hx; intro g' L' h' tk' cells' FG' F' N' Y' B' X' T' R' l1; (try k_lt l1); k_cells Y'; (try simp only [List.cons_append, List.nil_append] at N'); (try dsimp only); (try k_lift B'); (try k_fold)))
  w_strict (repeat' (first | (k_unfold; (try dsimp only)) | walk1 | (dsimp only; walk1) | (leave1; try dsimp only) | fail "no step"))
  · have a9 := (by assumption : (valueAt ([] : List (List UInt8 × Value)) b.toList).isSome = true)
    cases a9
  · exact ret _ _ _ _ _ _ (by assumption) (by assumption) (by k_asm) ((by assumption : RestIn _ _ _ _).with (by k_asm))
theorem dig2 {news : List (Addr × Obj)} {hI hD kD : Addr} {h1 h2 : Int} {t1 t2 t3 tb t0 : Tok} {oK : Obj} {b : Array UInt8}
    (B : Below A₀ base outer h₀) (F : Fr h₀ L s.heap m) (X : (hd.heap_1 w.params).In h₀) (T : Top p loose mean mg mb h₀) (hk : cs.kind = .function)
    (hd : dp + 5 < recursionLimit) (hu : un + 100 < cLine)
    (N : News h₀ L s.heap (hashRel hI hD kD h1 h2 t1 t2 t3 oK)) (NR : News h₀ L s.heap news) (hx : Apart (hashRel hI hD kD h1 h2 t1 t2 t3 oK) news)
    (hlo : (kD == sysModules) = false) (hK : oK.IsDictOf (PySem.W.bytesKind PySem.Challenge.rw_nt0280_01.row.prog w) [(b.toList, .int 1 t0)])
    (ret : ∀ (c : Array UInt8) (t : Tok) (h' : Heap) (tk' : Nat), KBw.bInts c = [0, 0, 0, 1] → Fr h₀ L h' m → News h₀ L h' (hashRel hI hD kD h1 h2 t1 t2 t3 oK ++ news) → Q (.bytes c t) { s with heap := h', toks := tk' }) :
    wpAny (model PySem.Challenge.rw_nt0280_01.row.prog w) (ktrTop dp un gd cn cs L a ccd cl outer) (call (.ref 121) [.ref hI, .bytes b tb]) Q E s := by
  revert X; k_fill; intro X
  refine wpAny_call ?_
  k_dflt (first   | (refine' code_defR ?k1 ?k2 ?k3 N NR hx ?k5 ?kA ?kF ?kK ?k6 ?k7 ?k8 ?k9 ?kB ?_ ?c2 ?c3 ?c4 ?c5; (case kA => exact rfl); (case kF => exact rfl); (case kK => first | exact rfl | assumption); (case k1 => k_asm); (case k2 => k_asm); (case k3 => k_asm); (case k5 => k_asm); (case k6 => k_is); (case k7 => k_is); (case k8 => ktr_room); (case k9 => first | exact BindsTo.of_eq rfl | exact binds_K (by k_in) rfl (by k_is) rfl rfl rfl); (case c5 => decide); (case kB => exact locs rfl); (case c2 => exact rfl); (case c3 => exact rfl); (case c4 => exact rfl); k_whole; clear N NR hx; intro g' L' h' FG' F' N' B' X' T' R' l1; (try k_lt l1); (try dsimp only); (try k_lift B'); (try k_fold))   | (refine' code_defCR ?k1 ?k2 ?k3 N NR hx ?k5 ?kA ?kF ?kK ?k6 ?k7 ?k8 ?k9 ?kB ?kD ?_ ?c2 ?c3 ?c4; (case kA => exact rfl); (case kF => exact rfl); (case kK => first | exact rfl | assumption); (case k1 => k_asm); (case k2 => k_asm); (case k3 => k_asm); (case k5 => k_asm); (case k6 => k_is); (case k7 => k_is); (case k8 => ktr_room); (case k9 => first | exact BindsTo.of_eq rfl | exact binds_K (by k_in) rfl (by k_is) rfl rfl rfl); (case kB => exact rfl); (case kD => decide +kernel); (case c2 => exact rfl); (case c3 => exact rfl); (case c4 => exact rfl); k_whole; clear N NR hx; intro g' L' h' tk' cells' FG' F' N' Y' B' X' T' R' l1; (try k_lt l1); k_cells Y'; (try simp only [List.cons_append, List.nil_append] at N'); (try dsimp only); (try k_lift B'); (try k_fold)))
  w_strict (repeat' (first | (k_unfold; (try dsimp only)) | walk1 | (dsimp only; walk1) | (leave1; try dsimp only) | fail "no step"))
  · exact ret _ _ _ _ (by assumption) (by k_asm) ((by assumption : RestIn _ _ _ _).with (by k_asm))
  · have a9 := (by assumption : (valueAt [(b.toList, Value.int 1 t0)] b.toList).isSome = false)
    rw [value_one] at a9
    cases a9
theorem dig2c {hI hD kD : Addr} {h1 h2 : Int} {t1 t2 t3 tb t0 : Tok} {oK : Obj} {b c : Array UInt8}
    (B : Below A₀ base outer h₀) (F : Fr h₀ L s.heap m) (X : (hd.heap_1 w.params).In h₀) (N : News h₀ L s.heap (hashRel hI hD kD h1 h2 t1 t2 t3 oK)) (T : Top p loose mean mg mb h₀) (hk : cs.kind = .function)
    (hd : dp + 5 < recursionLimit) (hu : un + 100 < cLine)
    (hlo : (kD == sysModules) = false) (hK : oK.IsDictOf (PySem.W.bytesKind PySem.Challenge.rw_nt0280_01.row.prog w) [(c.toList, .int 1 t0)]) (hbc : KBw.bInts b = KBw.bInts c)
    (ret : ∀ (c : Array UInt8) (t : Tok) (h' : Heap) (tk' : Nat), KBw.bInts c = [0, 0, 0, 1] → Fr h₀ L h' m → News h₀ L h' (hashRel hI hD kD h1 h2 t1 t2 t3 oK) → Q (.bytes c t) { s with heap := h', toks := tk' }) :
    wpAny (model PySem.Challenge.rw_nt0280_01.row.prog w) (ktrTop dp un gd cn cs L a ccd cl outer) (call (.ref 121) [.ref hI, .bytes b tb]) Q E s :=
  dig2 (news := []) B F X T hk hd hu N News.nil (fun _ h => nomatch h) hlo (bInts_inj hbc ▸ hK) fun c t h' tk' hc F' N' => ret c t h' tk' hc F' (by rw [List.append_nil] at N'; exact N')
end

end

section
theorem wordsSSumb : True := by
  w_top off
  k_with_none
  (k_with "exec For Name Subscript cons nil" => (k_here; (rename Fr _ _ _ _ => lF'); (with_unfolding_all refine For_invVF lF' (by exact rfl) (by exact rfl) ?_; k_whole)))
  (k_with "call ref" => (k_here; k_dflt (first | (refine call_meth (by k_asm) (by k_mem) ?_; k_whole; (first | ((first | with_reducible refine code_defO (by k_dflt (exact rfl)) (by k_dflt (exact rfl)) (by k_dflt (first | exact rfl | assumption)) (by k_dflt (k_asm)) (by k_dflt (k_asm)) (by k_dflt (k_asm)) (by k_dflt (k_asm)) (by k_dflt (k_asm)) (by k_dflt (k_is)) (by k_dflt (k_is)) (by k_dflt (ktr_room)) (by k_dflt (first | exact BindsTo.of_eq rfl | exact binds_K (by k_in) rfl (by k_is) rfl rfl rfl)) (by k_dflt (decide)) (by k_dflt (exact locs rfl)) (by k_dflt (exact rfl)) (by k_dflt (exact rfl)) (by k_dflt (exact rfl)) ?_ | refine code_defO (by exact rfl) (by exact rfl) (by first | exact rfl | assumption) (by k_asm) (by k_asm) (by k_asm) (by k_asm) (by k_asm) (by k_is) (by k_is) (by ktr_room) (by first | exact BindsTo.of_eq rfl | exact binds_K (by k_in) rfl (by k_is) rfl rfl rfl) (by decide) (by exact locs rfl) (by exact rfl) (by exact rfl) (by exact rfl) ?_); k_whole; intro g' L' h' FG' F' N' B' X' T'; (try dsimp only); (try k_lift B'); (try k_fold)) | ((first | with_reducible refine code_defCO (by k_dflt (exact rfl)) (by k_dflt (exact rfl)) (by k_dflt (first | exact rfl | assumption)) (by k_dflt (k_asm)) (by k_dflt (k_asm)) (by k_dflt (k_asm)) (by k_dflt (k_asm)) (by k_dflt (k_asm)) (by k_dflt (k_is)) (by k_dflt (k_is)) (by k_dflt (ktr_room)) (by k_dflt (first | exact BindsTo.of_eq rfl | exact binds_K (by k_in) rfl (by k_is) rfl rfl rfl)) (by k_dflt (exact rfl)) (by k_dflt (decide +kernel)) (by k_dflt (exact rfl)) (by k_dflt (exact rfl)) (by k_dflt (exact rfl)) ?_ | refine code_defCO (by exact rfl) (by exact rfl) (by first | exact rfl | assumption) (by k_asm) (by k_asm) (by k_asm) (by k_asm) (by k_asm) (by k_is) (by k_is) (by ktr_room) (by first | exact BindsTo.of_eq rfl | exact binds_K (by k_in) rfl (by k_is) rfl rfl rfl) (by exact rfl) (by decide +kernel) (by exact rfl) (by exact rfl) (by exact rfl) ?_); k_whole; intro g' L' h' tk' cells' FG' F' N' Y' B' X' T' l1; (try k_lt l1); k_cells Y'; (try simp only [List.cons_append, List.nil_append] at N'); (try dsimp only); (try k_lift B'); (try k_fold)))) | ((first | with_reducible refine call_cls (by k_dflt (k_asm)) (by k_dflt (k_asm)) (by k_dflt (k_asm)) (by k_dflt (k_is)) (by k_dflt (k_is)) (by k_dflt (k_is)) ?_ | refine call_cls (by k_asm) (by k_asm) (by k_asm) (by k_is) (by k_is) (by k_is) ?_); k_whole; intro x' d' h' F' N' l1 l2; (try k_lt l1); (try k_lt2 l2); (try k_sweep); (first | ((first | with_reducible refine code_defO (by k_dflt (exact rfl)) (by k_dflt (exact rfl)) (by k_dflt (first | exact rfl | assumption)) (by k_dflt (k_asm)) (by k_dflt (k_asm)) (by k_dflt (k_asm)) (by k_dflt (k_asm)) (by k_dflt (k_asm)) (by k_dflt (k_is)) (by k_dflt (k_is)) (by k_dflt (ktr_room)) (by k_dflt (first | exact BindsTo.of_eq rfl | exact binds_K (by k_in) rfl (by k_is) rfl rfl rfl)) (by k_dflt (decide)) (by k_dflt (exact locs rfl)) (by k_dflt (exact rfl)) (by k_dflt (exact rfl)) (by k_dflt (exact rfl)) ?_ | refine code_defO (by exact rfl) (by exact rfl) (by first | exact rfl | assumption) (by k_asm) (by k_asm) (by k_asm) (by k_asm) (by k_asm) (by k_is) (by k_is) (by ktr_room) (by first | exact BindsTo.of_eq rfl | exact binds_K (by k_in) rfl (by k_is) rfl rfl rfl) (by decide) (by exact locs rfl) (by exact rfl) (by exact rfl) (by exact rfl) ?_); k_whole; intro g' L' h' FG' F' N' B' X' T'; (try dsimp only); (try k_lift B'); (try k_fold)) | ((first | with_reducible refine code_defCO (by k_dflt (exact rfl)) (by k_dflt (exact rfl)) (by k_dflt (first | exact rfl | assumption)) (by k_dflt (k_asm)) (by k_dflt (k_asm)) (by k_dflt (k_asm)) (by k_dflt (k_asm)) (by k_dflt (k_asm)) (by k_dflt (k_is)) (by k_dflt (k_is)) (by k_dflt (ktr_room)) (by k_dflt (first | exact BindsTo.of_eq rfl | exact binds_K (by k_in) rfl (by k_is) rfl rfl rfl)) (by k_dflt (exact rfl)) (by k_dflt (decide +kernel)) (by k_dflt (exact rfl)) (by k_dflt (exact rfl)) (by k_dflt (exact rfl)) ?_ | refine code_defCO (by exact rfl) (by exact rfl) (by first | exact rfl | assumption) (by k_asm) (by k_asm) (by k_asm) (by k_asm) (by k_asm) (by k_is) (by k_is) (by ktr_room) (by first | exact BindsTo.of_eq rfl | exact binds_K (by k_in) rfl (by k_is) rfl rfl rfl) (by exact rfl) (by decide +kernel) (by exact rfl) (by exact rfl) (by exact rfl) ?_); k_whole; intro g' L' h' tk' cells' FG' F' N' Y' B' X' T' l1; (try k_lt l1); k_cells Y'; (try simp only [List.cons_append, List.nil_append] at N'); (try dsimp only); (try k_lift B'); (try k_fold)))) | ((first | with_reducible refine wpAny_call ?_ | refine wpAny_call ?_); (first | ((first | with_reducible refine code_defO (by k_dflt (exact rfl)) (by k_dflt (exact rfl)) (by k_dflt (first | exact rfl | assumption)) (by k_dflt (k_asm)) (by k_dflt (k_asm)) (by k_dflt (k_asm)) (by k_dflt (k_asm)) (by k_dflt (k_asm)) (by k_dflt (k_is)) (by k_dflt (k_is)) (by k_dflt (ktr_room)) (by k_dflt (first | exact BindsTo.of_eq rfl | exact binds_K (by k_in) rfl (by k_is) rfl rfl rfl)) (by k_dflt (decide)) (by k_dflt (exact locs rfl)) (by k_dflt (exact rfl)) (by k_dflt (exact rfl)) (by k_dflt (exact rfl)) ?_ | refine code_defO (by exact rfl) (by exact rfl) (by first | exact rfl | assumption) (by k_asm) (by k_asm) (by k_asm) (by k_asm) (by k_asm) (by k_is) (by k_is) (by ktr_room) (by first | exact BindsTo.of_eq rfl | exact binds_K (by k_in) rfl (by k_is) rfl rfl rfl) (by decide) (by exact locs rfl) (by exact rfl) (by exact rfl) (by exact rfl) ?_); k_whole; intro g' L' h' FG' F' N' B' X' T'; (try dsimp only); (try k_lift B'); (try k_fold)) | ((first | with_reducible refine code_defCO (by k_dflt (exact rfl)) (by k_dflt (exact rfl)) (by k_dflt (first | exact rfl | assumption)) (by k_dflt (k_asm)) (by k_dflt (k_asm)) (by k_dflt (k_asm)) (by k_dflt (k_asm)) (by k_dflt (k_asm)) (by k_dflt (k_is)) (by k_dflt (k_is)) (by k_dflt (ktr_room)) (by k_dflt (first | exact BindsTo.of_eq rfl | exact binds_K (by k_in) rfl (by k_is) rfl rfl rfl)) (by k_dflt (exact rfl)) (by k_dflt (decide +kernel)) (by k_dflt (exact rfl)) (by k_dflt (exact rfl)) (by k_dflt (exact rfl)) ?_ | refine code_defCO (by exact rfl) (by exact rfl) (by first | exact rfl | assumption) (by k_asm) (by k_asm) (by k_asm) (by k_asm) (by k_asm) (by k_is) (by k_is) (by ktr_room) (by first | exact BindsTo.of_eq rfl | exact binds_K (by k_in) rfl (by k_is) rfl rfl rfl) (by exact rfl) (by decide +kernel) (by exact rfl) (by exact rfl) (by exact rfl) ?_); k_whole; intro g' L' h' tk' cells' FG' F' N' Y' B' X' T' l1; (try k_lt l1); k_cells Y'; (try simp only [List.cons_append, List.nil_append] at N'); (try dsimp only); (try k_lift B'); (try k_fold)))))))
  (k_with "execs cons" => (k_here; (with_reducible (refine gen_toks ?_)); intro tk))
  (k_with "execs nil" => (k_here; (with_reducible (refine gen_toks ?_)); intro tk))
  (k_with "call builtin:list.append" => (k_here; k_dflt ((first | with_reducible refine app_K (by k_dflt (k_asm)) (by k_dflt (k_asm)) (by k_dflt (k_updF)) (by k_dflt ((simp only [List.length_append, List.length_cons, List.length_nil]; omega))) ?_ | refine app_K (by k_asm) (by k_asm) (by k_updF) (by (simp only [List.length_append, List.length_cons, List.length_nil]; omega)) ?_)); intro h' F' N'; (try dsimp only at N'); (try dsimp only)))
  (k_with "call ref" => (k_here; k_dflt (((with_reducible show wpAny _ _ (call (Value.ref 85) _) _ _ _); first | with_reducible refine abe (by k_dflt (k_asm)) (by k_dflt (k_asm)) (by k_dflt (k_asm)) (by k_dflt (k_asm)) (by k_dflt (k_asm)) (by k_dflt (first | exact rfl | assumption)) (by k_dflt (ktr_room)) (by k_dflt (ktr_units)) (by k_dflt (assumption)) (by k_dflt (omega)) (by k_dflt (omega)) (by k_dflt (omega)) (by k_dflt (omega)) ?_ | refine abe (by k_asm) (by k_asm) (by k_asm) (by k_asm) (by k_asm) (by first | exact rfl | assumption) (by ktr_room) (by ktr_units) (by assumption) (by omega) (by omega) (by omega) (by omega) ?_); k_whole); intro t9 h9 tk9 F9 N9; (try dsimp only); (try k_fold)))
  (k_with "compareOp Lt bytes bytes" => refine lt_bytes ?_)
  (k_with "compareOp LtE bytes bytes" => refine le_bytes ?_)
  (k_with "subscriptTail" => (k_here; (with_reducible show wpAny _ _ (subscriptTail _ _ (Value.ref _) (Value.str _ _)) _ _ _); k_dflt ((first | with_reducible refine kda_item (knd := PySem.strKind _ _) (by k_dflt (k_asm)) (by k_dflt (k_mem)) (by k_dflt (k_asm)) (strKind_is _ _ _ _) (by k_dflt (rfl)) ?_ | refine kda_item (knd := PySem.strKind _ _) (by k_asm) (by k_mem) (by k_asm) (strKind_is _ _ _ _) (by rfl) ?_))))
  (k_with "subscriptTail" => (k_here; (with_reducible show wpAny _ _ (subscriptTail _ _ (Value.ref _) (Value.bytes _ _)) _ _ _); k_dflt ((first | with_reducible refine kda_item (knd := PySem.W.bytesKind _ _) (by k_dflt (k_asm)) (by k_dflt (k_mem)) (by k_dflt (k_asm)) (bytesKind_at _ _ _ _) (by k_dflt (first | exact value_one _ _ | rfl)) ?_ | refine kda_item (knd := PySem.W.bytesKind _ _) (by k_asm) (by k_mem) (by k_asm) (bytesKind_at _ _ _ _) (by first | exact value_one _ _ | rfl) ?_))))
  (k_with "setItem ref str" => (k_here; k_dflt ((first | with_reducible refine kda_set (knd := PySem.strKind _ _) (by k_dflt (k_asm)) (by k_dflt (k_asm)) (by k_dflt (k_updF)) (by k_dflt (k_asm)) (strKind_is _ _ _ _) (by k_dflt (rw [sizeLine_eq]; exact Nat.le_of_ble_eq_true (by with_unfolding_all rfl))) ?_ | refine kda_set (knd := PySem.strKind _ _) (by k_asm) (by k_asm) (by k_updF) (by k_asm) (strKind_is _ _ _ _) (by rw [sizeLine_eq]; exact Nat.le_of_ble_eq_true (by with_unfolding_all rfl)) ?_)); intro h' o' F' N' hd'; (try dsimp only at N'); (try rw [stored_mixed] at hd'); (try rw [stored_nil] at hd')))
  (k_with "compareOp NotIn bytes ref" => (k_here; k_dflt ((first | with_reducible refine notin_bytes (by k_dflt (k_asm)) (by k_dflt (k_mem)) (by k_dflt (k_asm)) (by k_dflt (k_asm)) (by k_dflt (first | rfl | exact value_is _ _)) ?_ | refine notin_bytes (by k_asm) (by k_mem) (by k_asm) (by k_asm) (by first | rfl | exact value_is _ _) ?_))))
  (k_with "setItem ref bytes" => (k_here; k_dflt ((first | with_reducible refine kda_set (knd := PySem.W.bytesKind _ _) (by k_dflt (k_asm)) (by k_dflt (k_asm)) (by k_dflt (k_updF)) (by k_dflt (k_asm)) (bytesKind_at _ _ _ _) (by k_dflt (rw [sizeLine_eq]; exact Nat.le_of_ble_eq_true (by with_unfolding_all rfl))) ?_ | refine kda_set (knd := PySem.W.bytesKind _ _) (by k_asm) (by k_asm) (by k_updF) (by k_asm) (bytesKind_at _ _ _ _) (by rw [sizeLine_eq]; exact Nat.le_of_ble_eq_true (by with_unfolding_all rfl)) ?_)); intro h' o' F' N' hd'; (try dsimp only at N'); (try rw [stored_mixed] at hd'); (try rw [stored_nil] at hd')))
  (k_with "call builtin:len" => (k_here; (with_reducible show wpAny _ _ (call (Value.builtin "len") [Value.ref _]) _ _ _); k_dflt ((first | with_reducible refine kda_len (knd := PySem.W.bytesKind _ _) (by k_dflt (k_asm)) (by k_dflt (k_mem)) (by k_dflt (k_asm)) (by k_dflt (k_asm)) (Nat.le_of_ble_eq_true (by with_unfolding_all rfl)) ?_ | refine kda_len (knd := PySem.W.bytesKind _ _) (by k_asm) (by k_mem) (by k_asm) (by k_asm) (Nat.le_of_ble_eq_true (by with_unfolding_all rfl)) ?_))))
  (k_with "call type:bytes" => (k_here; (with_reducible show wpAny _ _ (call (Value.type "bytes") [Value.bytes _ _]) _ _ _); (refine call_bytesB ?_)))
  (k_with "LeaveK" => ((try ((rename RestIn _ _ _ _ => rI); (rename Fr _ _ _ _ => lF'); (have rJ := RestIn.keeps rI lF'); (try ((rename News _ _ _ _ => lN'); (have rK := RestIn.apart rI lN'))))); (k_dflt ((first | with_reducible refine leaveK_ (by k_dflt (k_asm)) (by k_dflt (k_asm)) ?_ | refine leaveK_ (by k_asm) (by k_asm) ?_); k_whole); intro kF kN; ground_anew kF; (have kX := kFor kF (by k_asm)); (try dsimp only [InitBack, CmpBack, LenBack, StrBack, BoolBack]); (try refine ⟨rfl, ?_⟩); (try dsimp only [CmpBack, LenBack, StrBack, BoolBack]); (try (refine ⟨⟨by omega, by omega⟩, ?_⟩)); (try (refine handed_on rfl ?_; try dsimp only)))))
  (k_with "call ref" => (k_here; k_dflt (((with_reducible show wpAny _ _ (call (Value.ref 71) _) _ _ _); first | with_reducible refine be4 (by k_dflt (k_asm)) (by k_dflt (k_asm)) (by k_dflt (k_asm)) (by k_dflt (k_asm)) (by k_dflt (k_asm)) (by k_dflt (first | exact rfl | assumption)) (by k_dflt (ktr_room)) (by k_dflt (ktr_units)) (by k_dflt (first | exact .inl rfl | exact .inr rfl)) ?_ | refine be4 (by k_asm) (by k_asm) (by k_asm) (by k_asm) (by k_asm) (by first | exact rfl | assumption) (by ktr_room) (by ktr_units) (by first | exact .inl rfl | exact .inr rfl) ?_); k_whole); intro b9 t9 h9 tk9 hb9 F9 N9; (try dsimp only); (try k_fold)))
  (k_with "call ref" => (k_here; k_dflt (((with_reducible show wpAny _ _ (call (Value.ref 121) _) _ _ _); first | with_reducible refine dig2c (by k_dflt (k_asm)) (by k_dflt (k_asm)) (by k_dflt (k_asm)) (by k_dflt (k_asm)) (by k_dflt (k_asm)) (by k_dflt (first | exact rfl | assumption)) (by k_dflt (ktr_room)) (by k_dflt (ktr_units)) (by k_dflt (assumption)) (by k_dflt (assumption)) (by k_dflt (assumption)) ?_ | refine dig2c (by k_asm) (by k_asm) (by k_asm) (by k_asm) (by k_asm) (by first | exact rfl | assumption) (by ktr_room) (by ktr_units) (by assumption) (by assumption) (by assumption) ?_); k_whole); intro b9 t9 h9 tk9 hb9 F9 N9; (try dsimp only); (try k_fold)))
  trivial
section
variable {prog : Program} {w : World} {A : Around} {E : Value → Shared → Prop} {s : Shared} {h₀ : Heap} {L D : Addr} {m : Str → Option Value} {news : List (Addr × Obj)} {e : Int} {t u t1 t2 : Tok} {oct b c : Array UInt8} {ks : List Int} {x y : Int}
theorem cut_head {value slice : PySem.Expr} {Q : Value → Shared → Prop} (hF : Fr h₀ L s.heap m) (hN : News h₀ L s.heap news) (hk : KBw.bInts oct = ks) (hz : ks.length ≤ 100000) (hks : ks = KBw.bInts c ++ [0, 0, 0, 1]) (he : e = (ks.length : Int) - 4)
    (h : ∀ h' b' t' tk, Fr h₀ L h' m → News h₀ L h' news → KBw.bInts b' = KBw.bInts c → Q (.bytes b' t') { s with heap := h', toks := tk })
    (hs : subscripted slice false (.bytes oct t) (.ref s.heap.objs.size) = operate [.ref s.heap.objs.size, .bytes oct t] (getItem (.bytes oct t) (.ref s.heap.objs.size)) := by with_unfolding_all rfl)
    (ht : ∀ r, letTemporaryGo value (.bytes oct t) r = pure () := by intro _; with_unfolding_all rfl) :
    wpAny (model prog w) A (subscriptTail value slice (.bytes oct t) (.ref s.heap.objs.size)) Q E { s with heap := s.heap.push { cls := .type "slice", data := .fields #[.none, .int e t2, .none] } } := by
  refine KBc.slice_K hF hN hk (lo := none) (hi := some e) (by constructor) (by constructor) (by omega) (fun h' t' tk F' N' e9 => h h' _ t' tk F' N' ?_) hs ht
  rw [e9]
  have el : ks.length = (KBw.bInts c).length + 4 := by rw [hks, List.length_append]; rfl
  show List.take (clipAt ks.length e - 0) (List.drop 0 ks) = _
  rw [clip_in (x := e) (by omega) (by omega), List.drop_zero, Nat.sub_zero]
  have : e.toNat = (KBw.bInts c).length := by omega
  rw [this, hks, List.take_left]
theorem cut_tail {value slice : PySem.Expr} {Q : Value → Shared → Prop} (hF : Fr h₀ L s.heap m) (hN : News h₀ L s.heap news) (hk : KBw.bInts oct = ks) (hz : ks.length ≤ 100000) (hks : ks = KBw.bInts c ++ [0, 0, 0, 1]) (he : e = (ks.length : Int) - 4)
    (h : ∀ h' b' t' tk, Fr h₀ L h' m → News h₀ L h' news → KBw.bInts b' = [0, 0, 0, 1] → Q (.bytes b' t') { s with heap := h', toks := tk })
    (hs : subscripted slice false (.bytes oct t) (.ref s.heap.objs.size) = operate [.ref s.heap.objs.size, .bytes oct t] (getItem (.bytes oct t) (.ref s.heap.objs.size)) := by with_unfolding_all rfl)
    (ht : ∀ r, letTemporaryGo value (.bytes oct t) r = pure () := by intro _; with_unfolding_all rfl) :
    wpAny (model prog w) A (subscriptTail value slice (.bytes oct t) (.ref s.heap.objs.size)) Q E { s with heap := s.heap.push { cls := .type "slice", data := .fields #[.int e t2, .none, .none] } } := by
  refine KBc.slice_K hF hN hk (lo := some e) (hi := none) (by constructor) (by constructor) (by omega) (fun h' t' tk F' N' e9 => h h' _ t' tk F' N' ?_) hs ht
  rw [e9]
  have el : ks.length = (KBw.bInts c).length + 4 := by rw [hks, List.length_append]; rfl
  show List.take (ks.length - clipAt ks.length e) (List.drop (clipAt ks.length e) ks) = _
  rw [clip_in (x := e) (by omega) (by omega)]
  have : e.toNat = (KBw.bInts c).length := by omega
  rw [this, el, hks, List.drop_left]
  simp
end
theorem wordsSSumc : True := by
  (k_with "subscriptTail" => (k_here; (with_reducible show wpAny _ _ (subscriptTail _ (Expr.Slice _ _ none _) (Value.bytes _ _) (Value.ref _)) _ _ _); (with_reducible rename Fr _ _ _ _ => F'); (with_reducible rename News _ _ _ _ => N'); k_dflt (first | (first | with_reducible refine cut_head (s := ⟨_, _, _, _, _⟩) F' N' (by k_dflt (assumption)) (by k_dflt (assumption)) (by k_dflt (assumption)) (by k_dflt (first | rfl | omega)) ?_ | refine cut_head (s := ⟨_, _, _, _, _⟩) F' N' (by assumption) (by assumption) (by assumption) (by first | rfl | omega) ?_) | (first | with_reducible refine cut_tail (s := ⟨_, _, _, _, _⟩) F' N' (by k_dflt (assumption)) (by k_dflt (assumption)) (by k_dflt (assumption)) (by k_dflt (first | rfl | omega)) ?_ | refine cut_tail (s := ⟨_, _, _, _, _⟩) F' N' (by assumption) (by assumption) (by assumption) (by first | rfl | omega) ?_)); intro h' b' t' tk' F' N' hb'; (try dsimp only)))
  trivial

theorem wordsSSumd : True := by
  (k_with "compareOp NotEq bytes bytes" => (k_here; k_dflt ((first | with_reducible refine ne_word (by k_dflt (assumption)) (by k_dflt (assumption)) ?_ | refine ne_word (by assumption) (by assumption) ?_)); (try dsimp only)))
  trivial

theorem wordsSSume : True := by
  (k_with "call builtin:len" => (k_here; (with_reducible show wpAny _ _ (call (Value.builtin "len") [Value.bytes _ _]) _ _ _); k_dflt ((first | with_reducible refine KBw.len_K (by k_dflt (assumption)) (by k_dflt (omega)) ?_ | refine KBw.len_K (by assumption) (by omega) ?_))))
  trivial

section
variable {w : World} {p : Program} {loose : List Str} {mean : ExcName → Option Value} {mg mb : Str → Option Value}
  {dp un : Nat} {gd : Option (List Code)} {cn : Str} {cs : Scope} {a : Addr} {ccd : Value} {cl : List (Str × Addr)} {outer : List Env} {A₀ : Around} {base h₀ : Heap} {L : Addr} {m : Str → Option Value} {s : Shared} {Q E : Value → Shared → Prop}

theorem chksum {news : List (Addr × Obj)} {hI hD kD : Addr} {h1 h2 : Int} {t1 t2 t3 tO t0 : Tok} {oK : Obj} {oct c : Array UInt8} {ks : List Int}
    (B : Below A₀ base outer h₀) (F : Fr h₀ L s.heap m) (X : (hd.heap_1 w.params).In h₀) (T : Top p loose mean mg mb h₀) (hk : cs.kind = .function)
    (hd : dp + 8 < recursionLimit) (hu : un + 200 < cLine)
    (N : News h₀ L s.heap (hashRel hI hD kD h1 h2 t1 t2 t3 oK)) (NR : News h₀ L s.heap news) (hx : Apart (hashRel hI hD kD h1 h2 t1 t2 t3 oK) news)
    (hlo : (kD == sysModules) = false) (hK : oK.IsDictOf (PySem.W.bytesKind PySem.Challenge.rw_nt0280_01.row.prog w) [(c.toList, .int 1 t0)])
    (hb : KBw.bInts oct = ks) (h3 : ks.length ≤ 100000) (hks : ks = KBw.bInts c ++ [0, 0, 0, 1]) (h5 : 4 ≤ ks.length)
    (ret : ∀ (h' : Heap) (tk' : Nat), Fr h₀ L h' m → News h₀ L h' (hashRel hI hD kD h1 h2 t1 t2 t3 oK ++ news) → Q .none { s with heap := h', toks := tk' }) :
    wpAny (model PySem.Challenge.rw_nt0280_01.row.prog w) (ktrTop dp un gd cn cs L a ccd cl outer) (call (.ref 168) [.bytes oct tO, .ref hI]) Q E s := by
  revert X; k_fill; intro X
  refine wpAny_call ?_
  k_dflt (first   | (refine' code_defR ?k1 ?k2 ?k3 N NR hx ?k5 ?kA ?kF ?kK ?k6 ?k7 ?k8 ?k9 ?kB ?_ ?c2 ?c3 ?c4 ?c5; (case kA => exact rfl); (case kF => exact rfl); (case kK => first | exact rfl | assumption); (case k1 => k_asm); (case k2 => k_asm); (case k3 => k_asm); (case k5 => k_asm); (case k6 => k_is); (case k7 => k_is); (case k8 => ktr_room); (case k9 => first | exact BindsTo.of_eq rfl | exact binds_K (by k_in) rfl (by k_is) rfl rfl rfl); (case c5 => decide); (case kB => exact locs rfl); (case c2 => exact rfl); (case c3 => exact rfl); (case c4 => exact rfl); k_whole; clear N NR hx; intro g' L' h' FG' F' N' B' X' T' R' l1; (try k_lt l1); (try dsimp only); (try k_lift B'); (try k_fold))   | (refine' code_defCR ?k1 ?k2 ?k3 N NR hx ?k5 ?kA ?kF ?kK ?k6 ?k7 ?k8 ?k9 ?kB ?kD ?_ ?c2 ?c3 ?c4; (case kA => exact rfl); (case kF => exact rfl); (case kK => first | exact rfl | assumption); (case k1 => k_asm); (case k2 => k_asm); (case k3 => k_asm); (case k5 => k_asm); (case k6 => k_is); (case k7 => k_is); (case k8 => ktr_room); (case k9 => first | exact BindsTo.of_eq rfl | exact binds_K (by k_in) rfl (by k_is) rfl rfl rfl); (case kB => exact rfl); (case kD => decide +kernel); (case c2 => exact rfl); (case c3 => exact rfl); (case c4 => exact rfl); k_whole; clear N NR hx; intro g' L' h' tk' cells' FG' F' N' Y' B' X' T' R' l1; (try k_lt l1); k_cells Y'; (try simp only [List.cons_append, List.nil_append] at N'); (try dsimp only); (try k_lift B'); (try k_fold)))
  w_strict (repeat' (first | (k_unfold; (try dsimp only)) | walk1 | (dsimp only; walk1) | (leave1; try dsimp only) | fail "no step"))
  exact ret _ _ (by k_asm) ((by assumption : RestIn _ _ _ _).with (by k_asm))
end

end

section
theorem wordsSFanb : True := by
  w_top off
  k_with_none
  (k_with "exec For Name Subscript cons nil" => (k_here; (rename Fr _ _ _ _ => lF'); (with_unfolding_all refine For_invVF lF' (by exact rfl) (by exact rfl) ?_; k_whole)))
  (k_with "call ref" => (k_here; k_dflt (first | (refine call_meth (by k_asm) (by k_mem) ?_; k_whole; (first | ((first | with_reducible refine code_defO (by k_dflt (exact rfl)) (by k_dflt (exact rfl)) (by k_dflt (first | exact rfl | assumption)) (by k_dflt (k_asm)) (by k_dflt (k_asm)) (by k_dflt (k_asm)) (by k_dflt (k_asm)) (by k_dflt (k_asm)) (by k_dflt (k_is)) (by k_dflt (k_is)) (by k_dflt (ktr_room)) (by k_dflt (first | exact BindsTo.of_eq rfl | exact binds_K (by k_in) rfl (by k_is) rfl rfl rfl)) (by k_dflt (decide)) (by k_dflt (exact locs rfl)) (by k_dflt (exact rfl)) (by k_dflt (exact rfl)) (by k_dflt (exact rfl)) ?_ | refine code_defO (by exact rfl) (by exact rfl) (by first | exact rfl | assumption) (by k_asm) (by k_asm) (by k_asm) (by k_asm) (by k_asm) (by k_is) (by k_is) (by ktr_room) (by first | exact BindsTo.of_eq rfl | exact binds_K (by k_in) rfl (by k_is) rfl rfl rfl) (by decide) (by exact locs rfl) (by exact rfl) (by exact rfl) (by exact rfl) ?_); k_whole; intro g' L' h' FG' F' N' B' X' T'; (try dsimp only); (try k_lift B'); (try k_fold)) | ((first | with_reducible refine code_defCO (by k_dflt (exact rfl)) (by k_dflt (exact rfl)) (by k_dflt (first | exact rfl | assumption)) (by k_dflt (k_asm)) (by k_dflt (k_asm)) (by k_dflt (k_asm)) (by k_dflt (k_asm)) (by k_dflt (k_asm)) (by k_dflt (k_is)) (by k_dflt (k_is)) (by k_dflt (ktr_room)) (by k_dflt (first | exact BindsTo.of_eq rfl | exact binds_K (by k_in) rfl (by k_is) rfl rfl rfl)) (by k_dflt (exact rfl)) (by k_dflt (decide +kernel)) (by k_dflt (exact rfl)) (by k_dflt (exact rfl)) (by k_dflt (exact rfl)) ?_ | refine code_defCO (by exact rfl) (by exact rfl) (by first | exact rfl | assumption) (by k_asm) (by k_asm) (by k_asm) (by k_asm) (by k_asm) (by k_is) (by k_is) (by ktr_room) (by first | exact BindsTo.of_eq rfl | exact binds_K (by k_in) rfl (by k_is) rfl rfl rfl) (by exact rfl) (by decide +kernel) (by exact rfl) (by exact rfl) (by exact rfl) ?_); k_whole; intro g' L' h' tk' cells' FG' F' N' Y' B' X' T' l1; (try k_lt l1); k_cells Y'; (try simp only [List.cons_append, List.nil_append] at N'); (try dsimp only); (try k_lift B'); (try k_fold)))) | ((first | with_reducible refine call_cls (by k_dflt (k_asm)) (by k_dflt (k_asm)) (by k_dflt (k_asm)) (by k_dflt (k_is)) (by k_dflt (k_is)) (by k_dflt (k_is)) ?_ | refine call_cls (by k_asm) (by k_asm) (by k_asm) (by k_is) (by k_is) (by k_is) ?_); k_whole; intro x' d' h' F' N' l1 l2; (try k_lt l1); (try k_lt2 l2); (try k_sweep); (first | ((first | with_reducible refine code_defO (by k_dflt (exact rfl)) (by k_dflt (exact rfl)) (by k_dflt (first | exact rfl | assumption)) (by k_dflt (k_asm)) (by k_dflt (k_asm)) (by k_dflt (k_asm)) (by k_dflt (k_asm)) (by k_dflt (k_asm)) (by k_dflt (k_is)) (by k_dflt (k_is)) (by k_dflt (ktr_room)) (by k_dflt (first | exact BindsTo.of_eq rfl | exact binds_K (by k_in) rfl (by k_is) rfl rfl rfl)) (by k_dflt (decide)) (by k_dflt (exact locs rfl)) (by k_dflt (exact rfl)) (by k_dflt (exact rfl)) (by k_dflt (exact rfl)) ?_ | refine code_defO (by exact rfl) (by exact rfl) (by first | exact rfl | assumption) (by k_asm) (by k_asm) (by k_asm) (by k_asm) (by k_asm) (by k_is) (by k_is) (by ktr_room) (by first | exact BindsTo.of_eq rfl | exact binds_K (by k_in) rfl (by k_is) rfl rfl rfl) (by decide) (by exact locs rfl) (by exact rfl) (by exact rfl) (by exact rfl) ?_); k_whole; intro g' L' h' FG' F' N' B' X' T'; (try dsimp only); (try k_lift B'); (try k_fold)) | ((first | with_reducible refine code_defCO (by k_dflt (exact rfl)) (by k_dflt (exact rfl)) (by k_dflt (first | exact rfl | assumption)) (by k_dflt (k_asm)) (by k_dflt (k_asm)) (by k_dflt (k_asm)) (by k_dflt (k_asm)) (by k_dflt (k_asm)) (by k_dflt (k_is)) (by k_dflt (k_is)) (by k_dflt (ktr_room)) (by k_dflt (first | exact BindsTo.of_eq rfl | exact binds_K (by k_in) rfl (by k_is) rfl rfl rfl)) (by k_dflt (exact rfl)) (by k_dflt (decide +kernel)) (by k_dflt (exact rfl)) (by k_dflt (exact rfl)) (by k_dflt (exact rfl)) ?_ | refine code_defCO (by exact rfl) (by exact rfl) (by first | exact rfl | assumption) (by k_asm) (by k_asm) (by k_asm) (by k_asm) (by k_asm) (by k_is) (by k_is) (by ktr_room) (by first | exact BindsTo.of_eq rfl | exact binds_K (by k_in) rfl (by k_is) rfl rfl rfl) (by exact rfl) (by decide +kernel) (by exact rfl) (by exact rfl) (by exact rfl) ?_); k_whole; intro g' L' h' tk' cells' FG' F' N' Y' B' X' T' l1; (try k_lt l1); k_cells Y'; (try simp only [List.cons_append, List.nil_append] at N'); (try dsimp only); (try k_lift B'); (try k_fold)))) | ((first | with_reducible refine wpAny_call ?_ | refine wpAny_call ?_); (first | ((first | with_reducible refine code_defO (by k_dflt (exact rfl)) (by k_dflt (exact rfl)) (by k_dflt (first | exact rfl | assumption)) (by k_dflt (k_asm)) (by k_dflt (k_asm)) (by k_dflt (k_asm)) (by k_dflt (k_asm)) (by k_dflt (k_asm)) (by k_dflt (k_is)) (by k_dflt (k_is)) (by k_dflt (ktr_room)) (by k_dflt (first | exact BindsTo.of_eq rfl | exact binds_K (by k_in) rfl (by k_is) rfl rfl rfl)) (by k_dflt (decide)) (by k_dflt (exact locs rfl)) (by k_dflt (exact rfl)) (by k_dflt (exact rfl)) (by k_dflt (exact rfl)) ?_ | refine code_defO (by exact rfl) (by exact rfl) (by first | exact rfl | assumption) (by k_asm) (by k_asm) (by k_asm) (by k_asm) (by k_asm) (by k_is) (by k_is) (by ktr_room) (by first | exact BindsTo.of_eq rfl | exact binds_K (by k_in) rfl (by k_is) rfl rfl rfl) (by decide) (by exact locs rfl) (by exact rfl) (by exact rfl) (by exact rfl) ?_); k_whole; intro g' L' h' FG' F' N' B' X' T'; (try dsimp only); (try k_lift B'); (try k_fold)) | ((first | with_reducible refine code_defCO (by k_dflt (exact rfl)) (by k_dflt (exact rfl)) (by k_dflt (first | exact rfl | assumption)) (by k_dflt (k_asm)) (by k_dflt (k_asm)) (by k_dflt (k_asm)) (by k_dflt (k_asm)) (by k_dflt (k_asm)) (by k_dflt (k_is)) (by k_dflt (k_is)) (by k_dflt (ktr_room)) (by k_dflt (first | exact BindsTo.of_eq rfl | exact binds_K (by k_in) rfl (by k_is) rfl rfl rfl)) (by k_dflt (exact rfl)) (by k_dflt (decide +kernel)) (by k_dflt (exact rfl)) (by k_dflt (exact rfl)) (by k_dflt (exact rfl)) ?_ | refine code_defCO (by exact rfl) (by exact rfl) (by first | exact rfl | assumption) (by k_asm) (by k_asm) (by k_asm) (by k_asm) (by k_asm) (by k_is) (by k_is) (by ktr_room) (by first | exact BindsTo.of_eq rfl | exact binds_K (by k_in) rfl (by k_is) rfl rfl rfl) (by exact rfl) (by decide +kernel) (by exact rfl) (by exact rfl) (by exact rfl) ?_); k_whole; intro g' L' h' tk' cells' FG' F' N' Y' B' X' T' l1; (try k_lt l1); k_cells Y'; (try simp only [List.cons_append, List.nil_append] at N'); (try dsimp only); (try k_lift B'); (try k_fold)))))))
  (k_with "execs cons" => (k_here; (with_reducible (refine gen_toks ?_)); intro tk))
  (k_with "execs nil" => (k_here; (with_reducible (refine gen_toks ?_)); intro tk))
  (k_with "call builtin:list.append" => (k_here; k_dflt ((first | with_reducible refine app_K (by k_dflt (k_asm)) (by k_dflt (k_asm)) (by k_dflt (k_updF)) (by k_dflt ((simp only [List.length_append, List.length_cons, List.length_nil]; omega))) ?_ | refine app_K (by k_asm) (by k_asm) (by k_updF) (by (simp only [List.length_append, List.length_cons, List.length_nil]; omega)) ?_)); intro h' F' N'; (try dsimp only at N'); (try dsimp only)))
  (k_with "call ref" => (k_here; k_dflt (((with_reducible show wpAny _ _ (call (Value.ref 85) _) _ _ _); first | with_reducible refine abe (by k_dflt (k_asm)) (by k_dflt (k_asm)) (by k_dflt (k_asm)) (by k_dflt (k_asm)) (by k_dflt (k_asm)) (by k_dflt (first | exact rfl | assumption)) (by k_dflt (ktr_room)) (by k_dflt (ktr_units)) (by k_dflt (assumption)) (by k_dflt (omega)) (by k_dflt (omega)) (by k_dflt (omega)) (by k_dflt (omega)) ?_ | refine abe (by k_asm) (by k_asm) (by k_asm) (by k_asm) (by k_asm) (by first | exact rfl | assumption) (by ktr_room) (by ktr_units) (by assumption) (by omega) (by omega) (by omega) (by omega) ?_); k_whole); intro t9 h9 tk9 F9 N9; (try dsimp only); (try k_fold)))
  (k_with "compareOp Lt bytes bytes" => refine lt_bytes ?_)
  (k_with "compareOp LtE bytes bytes" => refine le_bytes ?_)
  (k_with "LeaveK" => ((try ((rename RestIn _ _ _ _ => rI); (rename Fr _ _ _ _ => lF'); (have rJ := RestIn.keeps rI lF'); (try ((rename News _ _ _ _ => lN'); (have rK := RestIn.apart rI lN'))))); (k_dflt ((first | with_reducible refine leaveK_ (by k_dflt (k_asm)) (by k_dflt (k_asm)) ?_ | refine leaveK_ (by k_asm) (by k_asm) ?_); k_whole); intro kF kN; ground_anew kF; (have kX := kFor kF (by k_asm)); (try dsimp only [InitBack, CmpBack, LenBack, StrBack, BoolBack]); (try refine ⟨rfl, ?_⟩); (try dsimp only [CmpBack, LenBack, StrBack, BoolBack]); (try (refine ⟨⟨by omega, by omega⟩, ?_⟩)); (try (refine handed_on rfl ?_; try dsimp only)))))
  (k_with "binaryOp Mult ref int" => (k_here; (with_reducible show wpAny _ _ (binaryOp Operator.Mult (Value.ref _) (Value.int _ _)) _ _ _); k_dflt ((first | with_reducible refine zeros_K (by k_dflt (k_asm)) (by k_dflt (k_asm)) (by k_dflt (k_mem)) ?_ | refine zeros_K (by k_asm) (by k_asm) (by k_mem) ?_)); intro D' h' ws' F' N' l1 i1; (try k_lt l1)))
  (k_with "subscriptTail" => (k_here; (with_reducible show wpAny _ _ (subscriptTail _ _ (Value.bytes _ _) (Value.int 0 _)) _ _ _); k_dflt ((first | with_reducible refine oid0 ?_ | refine oid0 ?_)); intro _ _))
  (k_with "getItem ref int" => (k_here; k_dflt ((first | with_reducible refine cnt_item (by k_dflt (k_asm)) (by k_dflt (k_mem)) (by k_dflt (assumption)) ?_ | refine cnt_item (by k_asm) (by k_mem) (by assumption) ?_)); intro _))
  (k_with "setItem ref int" => (k_here; k_dflt ((first | with_reducible refine cnt_store (by k_dflt (k_asm)) (by k_dflt (k_asm)) (by k_dflt (k_updF)) (by k_dflt (assumption)) ?_ | refine cnt_store (by k_asm) (by k_asm) (by k_updF) (by assumption) ?_)); intro h' ws' F' N' hi'; (try dsimp only at N')))
  (k_with "subscriptTail Name Name ref int" => (k_here; k_dflt (first | ((first | with_reducible refine cnt_sub (by k_dflt (k_asm)) (by k_dflt (k_mem)) (by k_dflt (assumption)) (by k_dflt (omega)) (by k_dflt (omega)) ?_ | refine cnt_sub (by k_asm) (by k_mem) (by assumption) (by omega) (by omega) ?_); intro t9 x9 f9) | ((first | with_reducible refine fan_sub (by k_dflt (k_asm)) (by k_dflt (k_mem)) (by k_dflt (assumption)) (by k_dflt (omega)) (by k_dflt (omega)) ?_ | refine fan_sub (by k_asm) (by k_mem) (by assumption) (by omega) (by omega) ?_); intro t9 x9 f9))))
  (k_with "call ref" => (k_here; k_dflt (((with_reducible show wpAny _ _ (call (Value.ref 71) _) _ _ _); first | with_reducible refine be4 (by k_dflt (k_asm)) (by k_dflt (k_asm)) (by k_dflt (k_asm)) (by k_dflt (k_asm)) (by k_dflt (k_asm)) (by k_dflt (first | exact rfl | assumption)) (by k_dflt (ktr_room)) (by k_dflt (ktr_units)) (by k_dflt (first | exact .inl rfl | exact .inr rfl)) ?_ | refine be4 (by k_asm) (by k_asm) (by k_asm) (by k_asm) (by k_asm) (by first | exact rfl | assumption) (by ktr_room) (by ktr_units) (by first | exact .inl rfl | exact .inr rfl) ?_); k_whole); intro b9 t9 h9 tk9 hb9 F9 N9; (try dsimp only); (try k_fold)))
  trivial
section
variable {w : World} {p : Program} {loose : List Str} {mean : ExcName → Option Value} {mg mb : Str → Option Value}
  {dp un : Nat} {gd : Option (List Code)} {cn : Str} {cs : Scope} {a : Addr} {ccd : Value} {cl : List (Str × Addr)} {outer : List Env} {A₀ : Around} {base h₀ : Heap} {L : Addr} {m : Str → Option Value} {s : Shared} {Q E : Value → Shared → Prop}

theorem abe4w {news : List (Addr × Obj)} {b : Array UInt8} {x : Int} {tO ta : Tok}
    (B : Below A₀ base outer h₀) (F : Fr h₀ L s.heap m) (X : (hd.heap_1 w.params).In h₀) (N : News h₀ L s.heap news) (T : Top p loose mean mg mb h₀) (hk : cs.kind = .function)
    (hd : dp + 2 < recursionLimit) (hu : un + 16 < cLine)
    (hb : KBw.bInts b = [0, 0, 0, x])
    (ret : ∀ (t : Tok) (h' : Heap) (tk' : Nat), Fr h₀ L h' m → News h₀ L h' news → Q (.int x t) { s with heap := h', toks := tk' }) :
    wpAny (model PySem.Challenge.rw_nt0280_01.row.prog w) (ktrTop dp un gd cn cs L a ccd cl outer) (call (.ref 92) [.bytes b tO, .int 0 ta]) Q E s :=
  abe4 B F X N T hk hd hu hb (by decide) (by simp) (by simp) fun t h' tk' F' N' => cb_retI ret (by simp [beV]) F' N'
end
theorem wordsSFanc : True := by
  (k_with "call ref" => (k_here; k_dflt (((with_reducible show wpAny _ _ (call (Value.ref 92) _) _ _ _); first | with_reducible refine abe4w (by k_dflt (k_asm)) (by k_dflt (k_asm)) (by k_dflt (k_asm)) (by k_dflt (k_asm)) (by k_dflt (k_asm)) (by k_dflt (first | exact rfl | assumption)) (by k_dflt (ktr_room)) (by k_dflt (ktr_units)) (by k_dflt (assumption)) ?_ | refine abe4w (by k_asm) (by k_asm) (by k_asm) (by k_asm) (by k_asm) (by first | exact rfl | assumption) (by ktr_room) (by ktr_units) (by assumption) ?_); k_whole); intro t9 h9 tk9 F9 N9; (try dsimp only); (try k_fold)))
  trivial

theorem wordsSFand : True := by
  (k_with "compareOp NotEq bytes bytes" => (k_here; k_dflt ((first | with_reducible refine ne_word (by k_dflt (assumption)) (by k_dflt (assumption)) ?_ | refine ne_word (by assumption) (by assumption) ?_)); (try dsimp only)))
  trivial

theorem wordsSFane : True := by
  (k_with "subscriptTail" => (k_here; (with_reducible show wpAny _ _ (subscriptTail _ (Expr.Slice _ _ none _) (Value.bytes _ _) (Value.ref _)) _ _ _); (with_reducible rename Fr _ _ _ _ => F'); (with_reducible rename News _ _ _ _ => N'); (refine fan_slice (s := ⟨_, _, _, _, _⟩) F' N' (by assumption) (by assumption) (by assumption) (by assumption) (by omega) (by omega) rfl rfl ?_); intro h' b' t' x' tk' F' N' hb' hx'; (try dsimp only)))
  trivial

theorem wordsSFanf : True := by
  (k_with "pyIter ref" => ((rename Fr _ _ _ _ => lF'); (rename News _ _ _ _ => lN'); (rename IsRange _ _ _ _ _ _ _ _ => rgX); (with_unfolding_all refine' fan_loop (by assumption) ?h1 rgX lF' (news_tail lN') ?h2 ?h3 ?h4 ?_ ?_); (case h1 => with_unfolding_all exact rfl); (case h2 => with_unfolding_all exact rfl); (case h3 => with_unfolding_all exact rfl); (case h4 => assumption); (clear lF' lN'); (all_goals (intros; (try dsimp only); (try k_fold); skip))))
  trivial

section
variable {w : World} {p : Program} {loose : List Str} {mean : ExcName → Option Value} {mg mb : Str → Option Value}
  {dp un : Nat} {gd : Option (List Code)} {cn : Str} {cs : Scope} {a : Addr} {ccd : Value} {cl : List (Str × Addr)} {outer : List Env} {A₀ : Around} {base h₀ : Heap} {L : Addr} {m : Str → Option Value} {s : Shared} {Q E : Value → Shared → Prop}

theorem fan {news : List (Addr × Obj)} {oct : Array UInt8} {ks : List Int} {tO ta : Tok} {n : Int}
    (B : Below A₀ base outer h₀) (F : Fr h₀ L s.heap m) (X : (hd.heap_1 w.params).In h₀) (T : Top p loose mean mg mb h₀) (hk : cs.kind = .function)
    (hd : dp + 5 < recursionLimit) (hu : un + 100 < cLine)
    (NR : News h₀ L s.heap news) 
    (hb : KBw.bInts oct = ks) (h3 : ks.length ≤ 100000) (h4 : 1032 ≤ ks.length) (hfan : FanAt ks n) (hn : 1 ≤ n)
    (ret : ∀ (D : Addr) (vs : List Value) (nn : Nat) (h' : Heap) (tk' : Nat), Fr h₀ L h' m → News h₀ L h' ((D, listOf vs.toArray nn) :: news) → IntsAre vs (fanL n) → (∀ p ∈ news, p.1 ≠ D) → Q (.ref D) { s with heap := h', toks := tk' }) :
    wpAny (model PySem.Challenge.rw_nt0280_01.row.prog w) (ktrTop dp un gd cn cs L a ccd cl outer) (call (.ref 142) [.bytes oct tO, .int 8 ta]) Q E s := by
  revert X; k_fill; intro X
  refine wpAny_call ?_
  have N : News h₀ L s.heap [] := News.nil
  have hx : Apart [] news := Apart.nil
  k_dflt (first   | (refine' code_defR ?k1 ?k2 ?k3 N NR hx ?k5 ?kA ?kF ?kK ?k6 ?k7 ?k8 ?k9 ?kB ?_ ?c2 ?c3 ?c4 ?c5; (case kA => exact rfl); (case kF => exact rfl); (case kK => first | exact rfl | assumption); (case k1 => k_asm); (case k2 => k_asm); (case k3 => k_asm); (case k5 => k_asm); (case k6 => k_is); (case k7 => k_is); (case k8 => ktr_room); (case k9 => first | exact BindsTo.of_eq rfl | exact binds_K (by k_in) rfl (by k_is) rfl rfl rfl); (case c5 => decide); (case kB => exact locs rfl); (case c2 => exact rfl); (case c3 => exact rfl); (case c4 => exact rfl); k_whole; clear N NR hx; intro g' L' h' FG' F' N' B' X' T' R' l1; (try k_lt l1); (try dsimp only); (try k_lift B'); (try k_fold))   | (refine' code_defCR ?k1 ?k2 ?k3 N NR hx ?k5 ?kA ?kF ?kK ?k6 ?k7 ?k8 ?k9 ?kB ?kD ?_ ?c2 ?c3 ?c4; (case kA => exact rfl); (case kF => exact rfl); (case kK => first | exact rfl | assumption); (case k1 => k_asm); (case k2 => k_asm); (case k3 => k_asm); (case k5 => k_asm); (case k6 => k_is); (case k7 => k_is); (case k8 => ktr_room); (case k9 => first | exact BindsTo.of_eq rfl | exact binds_K (by k_in) rfl (by k_is) rfl rfl rfl); (case kB => exact rfl); (case kD => decide +kernel); (case c2 => exact rfl); (case c3 => exact rfl); (case c4 => exact rfl); k_whole; clear N NR hx; intro g' L' h' tk' cells' FG' F' N' Y' B' X' T' R' l1; (try k_lt l1); k_cells Y'; (try simp only [List.cons_append, List.nil_append] at N'); (try dsimp only); (try k_lift B'); (try k_fold)))
  w_strict (repeat' (first | (k_unfold; (try dsimp only)) | walk1 | (dsimp only; walk1) | fail "no step"))
  · (rename News _ _ _ _ => nE'); (try simp only [List.push_toArray] at nE')
    refine InvEndN.intro (by assumption) nE' ⟨_, _, _, _, _, _, _, rfl, IntsAre.append (by assumption) (.cons _ _ .nil), by with_unfolding_all rfl, by with_unfolding_all rfl, ?_, _, by assumption, rfl, rfl, by assumption⟩ rfl (by k_allIn) (by intro p hp; exact .tail _ (.tail _ hp))
    intro z h1 h2 h3 h4
    have h5 : z ≠ Str.ofString "piece" := fun e => by subst e; exact absurd h4 (by decide)
    have h6 : z ≠ Str.ofString "count" := fun e => by subst e; exact absurd h4 (by decide)
    simp only [kstB, h1, h2, h3, h4, h5, h6, if_false, Bool.false_eq_true]
  · (rename News _ _ _ _ => nE'); (try simp only [List.push_toArray] at nE')
    have e9 := Decidable.not_not.mp (by with_reducible assumption : ¬ ((_ : Int) ≠ _))
    subst e9
    refine InvEndN.intro (by assumption) nE' ⟨_, _, _, _, _, _, _, rfl, IntsAre.append (by assumption) (.cons _ _ .nil), by with_unfolding_all rfl, by with_unfolding_all rfl, ?_, _, by assumption, rfl, rfl, by assumption⟩ rfl (by k_allIn) (by intro p hp; exact .tail _ hp)
    intro z h1 h2 h3 h4
    have h5 : z ≠ Str.ofString "piece" := fun e => by subst e; exact absurd h4 (by decide)
    have h6 : z ≠ Str.ofString "count" := fun e => by subst e; exact absurd h4 (by decide)
    simp only [kstB, h1, h2, h3, h4, h5, h6, if_false, Bool.false_eq_true]
  · exact ret _ _ _ _ _ (by k_asm) ((by assumption : RestIn _ _ _ _).with (by k_asm)) (by assumption) (Apart.one (by assumption))
end

end

section
theorem wordsSIdsb : True := by
  w_top off
  k_with_none
  (k_with "exec For Name Subscript cons nil" => (k_here; (rename Fr _ _ _ _ => lF'); (with_unfolding_all refine For_invVF lF' (by exact rfl) (by exact rfl) ?_; k_whole)))
  (k_with "call ref" => (k_here; k_dflt (first | (refine call_meth (by k_asm) (by k_mem) ?_; k_whole; (first | ((first | with_reducible refine code_defO (by k_dflt (exact rfl)) (by k_dflt (exact rfl)) (by k_dflt (first | exact rfl | assumption)) (by k_dflt (k_asm)) (by k_dflt (k_asm)) (by k_dflt (k_asm)) (by k_dflt (k_asm)) (by k_dflt (k_asm)) (by k_dflt (k_is)) (by k_dflt (k_is)) (by k_dflt (ktr_room)) (by k_dflt (first | exact BindsTo.of_eq rfl | exact binds_K (by k_in) rfl (by k_is) rfl rfl rfl)) (by k_dflt (decide)) (by k_dflt (exact locs rfl)) (by k_dflt (exact rfl)) (by k_dflt (exact rfl)) (by k_dflt (exact rfl)) ?_ | refine code_defO (by exact rfl) (by exact rfl) (by first | exact rfl | assumption) (by k_asm) (by k_asm) (by k_asm) (by k_asm) (by k_asm) (by k_is) (by k_is) (by ktr_room) (by first | exact BindsTo.of_eq rfl | exact binds_K (by k_in) rfl (by k_is) rfl rfl rfl) (by decide) (by exact locs rfl) (by exact rfl) (by exact rfl) (by exact rfl) ?_); k_whole; intro g' L' h' FG' F' N' B' X' T'; (try dsimp only); (try k_lift B'); (try k_fold)) | ((first | with_reducible refine code_defCO (by k_dflt (exact rfl)) (by k_dflt (exact rfl)) (by k_dflt (first | exact rfl | assumption)) (by k_dflt (k_asm)) (by k_dflt (k_asm)) (by k_dflt (k_asm)) (by k_dflt (k_asm)) (by k_dflt (k_asm)) (by k_dflt (k_is)) (by k_dflt (k_is)) (by k_dflt (ktr_room)) (by k_dflt (first | exact BindsTo.of_eq rfl | exact binds_K (by k_in) rfl (by k_is) rfl rfl rfl)) (by k_dflt (exact rfl)) (by k_dflt (decide +kernel)) (by k_dflt (exact rfl)) (by k_dflt (exact rfl)) (by k_dflt (exact rfl)) ?_ | refine code_defCO (by exact rfl) (by exact rfl) (by first | exact rfl | assumption) (by k_asm) (by k_asm) (by k_asm) (by k_asm) (by k_asm) (by k_is) (by k_is) (by ktr_room) (by first | exact BindsTo.of_eq rfl | exact binds_K (by k_in) rfl (by k_is) rfl rfl rfl) (by exact rfl) (by decide +kernel) (by exact rfl) (by exact rfl) (by exact rfl) ?_); k_whole; intro g' L' h' tk' cells' FG' F' N' Y' B' X' T' l1; (try k_lt l1); k_cells Y'; (try simp only [List.cons_append, List.nil_append] at N'); (try dsimp only); (try k_lift B'); (try k_fold)))) | ((first | with_reducible refine call_cls (by k_dflt (k_asm)) (by k_dflt (k_asm)) (by k_dflt (k_asm)) (by k_dflt (k_is)) (by k_dflt (k_is)) (by k_dflt (k_is)) ?_ | refine call_cls (by k_asm) (by k_asm) (by k_asm) (by k_is) (by k_is) (by k_is) ?_); k_whole; intro x' d' h' F' N' l1 l2; (try k_lt l1); (try k_lt2 l2); (try k_sweep); (first | ((first | with_reducible refine code_defO (by k_dflt (exact rfl)) (by k_dflt (exact rfl)) (by k_dflt (first | exact rfl | assumption)) (by k_dflt (k_asm)) (by k_dflt (k_asm)) (by k_dflt (k_asm)) (by k_dflt (k_asm)) (by k_dflt (k_asm)) (by k_dflt (k_is)) (by k_dflt (k_is)) (by k_dflt (ktr_room)) (by k_dflt (first | exact BindsTo.of_eq rfl | exact binds_K (by k_in) rfl (by k_is) rfl rfl rfl)) (by k_dflt (decide)) (by k_dflt (exact locs rfl)) (by k_dflt (exact rfl)) (by k_dflt (exact rfl)) (by k_dflt (exact rfl)) ?_ | refine code_defO (by exact rfl) (by exact rfl) (by first | exact rfl | assumption) (by k_asm) (by k_asm) (by k_asm) (by k_asm) (by k_asm) (by k_is) (by k_is) (by ktr_room) (by first | exact BindsTo.of_eq rfl | exact binds_K (by k_in) rfl (by k_is) rfl rfl rfl) (by decide) (by exact locs rfl) (by exact rfl) (by exact rfl) (by exact rfl) ?_); k_whole; intro g' L' h' FG' F' N' B' X' T'; (try dsimp only); (try k_lift B'); (try k_fold)) | ((first | with_reducible refine code_defCO (by k_dflt (exact rfl)) (by k_dflt (exact rfl)) (by k_dflt (first | exact rfl | assumption)) (by k_dflt (k_asm)) (by k_dflt (k_asm)) (by k_dflt (k_asm)) (by k_dflt (k_asm)) (by k_dflt (k_asm)) (by k_dflt (k_is)) (by k_dflt (k_is)) (by k_dflt (ktr_room)) (by k_dflt (first | exact BindsTo.of_eq rfl | exact binds_K (by k_in) rfl (by k_is) rfl rfl rfl)) (by k_dflt (exact rfl)) (by k_dflt (decide +kernel)) (by k_dflt (exact rfl)) (by k_dflt (exact rfl)) (by k_dflt (exact rfl)) ?_ | refine code_defCO (by exact rfl) (by exact rfl) (by first | exact rfl | assumption) (by k_asm) (by k_asm) (by k_asm) (by k_asm) (by k_asm) (by k_is) (by k_is) (by ktr_room) (by first | exact BindsTo.of_eq rfl | exact binds_K (by k_in) rfl (by k_is) rfl rfl rfl) (by exact rfl) (by decide +kernel) (by exact rfl) (by exact rfl) (by exact rfl) ?_); k_whole; intro g' L' h' tk' cells' FG' F' N' Y' B' X' T' l1; (try k_lt l1); k_cells Y'; (try simp only [List.cons_append, List.nil_append] at N'); (try dsimp only); (try k_lift B'); (try k_fold)))) | ((first | with_reducible refine wpAny_call ?_ | refine wpAny_call ?_); (first | ((first | with_reducible refine code_defO (by k_dflt (exact rfl)) (by k_dflt (exact rfl)) (by k_dflt (first | exact rfl | assumption)) (by k_dflt (k_asm)) (by k_dflt (k_asm)) (by k_dflt (k_asm)) (by k_dflt (k_asm)) (by k_dflt (k_asm)) (by k_dflt (k_is)) (by k_dflt (k_is)) (by k_dflt (ktr_room)) (by k_dflt (first | exact BindsTo.of_eq rfl | exact binds_K (by k_in) rfl (by k_is) rfl rfl rfl)) (by k_dflt (decide)) (by k_dflt (exact locs rfl)) (by k_dflt (exact rfl)) (by k_dflt (exact rfl)) (by k_dflt (exact rfl)) ?_ | refine code_defO (by exact rfl) (by exact rfl) (by first | exact rfl | assumption) (by k_asm) (by k_asm) (by k_asm) (by k_asm) (by k_asm) (by k_is) (by k_is) (by ktr_room) (by first | exact BindsTo.of_eq rfl | exact binds_K (by k_in) rfl (by k_is) rfl rfl rfl) (by decide) (by exact locs rfl) (by exact rfl) (by exact rfl) (by exact rfl) ?_); k_whole; intro g' L' h' FG' F' N' B' X' T'; (try dsimp only); (try k_lift B'); (try k_fold)) | ((first | with_reducible refine code_defCO (by k_dflt (exact rfl)) (by k_dflt (exact rfl)) (by k_dflt (first | exact rfl | assumption)) (by k_dflt (k_asm)) (by k_dflt (k_asm)) (by k_dflt (k_asm)) (by k_dflt (k_asm)) (by k_dflt (k_asm)) (by k_dflt (k_is)) (by k_dflt (k_is)) (by k_dflt (ktr_room)) (by k_dflt (first | exact BindsTo.of_eq rfl | exact binds_K (by k_in) rfl (by k_is) rfl rfl rfl)) (by k_dflt (exact rfl)) (by k_dflt (decide +kernel)) (by k_dflt (exact rfl)) (by k_dflt (exact rfl)) (by k_dflt (exact rfl)) ?_ | refine code_defCO (by exact rfl) (by exact rfl) (by first | exact rfl | assumption) (by k_asm) (by k_asm) (by k_asm) (by k_asm) (by k_asm) (by k_is) (by k_is) (by ktr_room) (by first | exact BindsTo.of_eq rfl | exact binds_K (by k_in) rfl (by k_is) rfl rfl rfl) (by exact rfl) (by decide +kernel) (by exact rfl) (by exact rfl) (by exact rfl) ?_); k_whole; intro g' L' h' tk' cells' FG' F' N' Y' B' X' T' l1; (try k_lt l1); k_cells Y'; (try simp only [List.cons_append, List.nil_append] at N'); (try dsimp only); (try k_lift B'); (try k_fold)))))))
  (k_with "execs cons" => (k_here; (with_reducible (refine gen_toks ?_)); intro tk))
  (k_with "execs nil" => (k_here; (with_reducible (refine gen_toks ?_)); intro tk))
  (k_with "call builtin:list.append" => (k_here; k_dflt ((first | with_reducible refine app_K (by k_dflt (k_asm)) (by k_dflt (k_asm)) (by k_dflt (k_updF)) (by k_dflt ((simp only [List.length_append, List.length_cons, List.length_nil]; omega))) ?_ | refine app_K (by k_asm) (by k_asm) (by k_updF) (by (simp only [List.length_append, List.length_cons, List.length_nil]; omega)) ?_)); intro h' F' N'; (try dsimp only at N'); (try dsimp only)))
  (k_with "compareOp Lt bytes bytes" => refine lt_bytes ?_)
  (k_with "compareOp LtE bytes bytes" => refine le_bytes ?_)
  (k_with "LeaveK" => ((try ((rename RestIn _ _ _ _ => rI); (rename Fr _ _ _ _ => lF'); (have rJ := RestIn.keeps rI lF'); (try ((rename News _ _ _ _ => lN'); (have rK := RestIn.apart rI lN'))))); (k_dflt ((first | with_reducible refine leaveK_ (by k_dflt (k_asm)) (by k_dflt (k_asm)) ?_ | refine leaveK_ (by k_asm) (by k_asm) ?_); k_whole); intro kF kN; ground_anew kF; (have kX := kFor kF (by k_asm)); (try dsimp only [InitBack, CmpBack, LenBack, StrBack, BoolBack]); (try refine ⟨rfl, ?_⟩); (try dsimp only [CmpBack, LenBack, StrBack, BoolBack]); (try (refine ⟨⟨by omega, by omega⟩, ?_⟩)); (try (refine handed_on rfl ?_; try dsimp only)))))
  trivial
def IdRel (ks : List Int) (i : Int) (k : Int) (y : Value) : Prop := ∃ b t, y = Value.bytes b t ∧ KBw.bInts b = (ks.drop (i + 4 * k).toNat).take 4
theorem cut4 {ks : List Int} {i : Int} (h0 : 0 ≤ i) (h1 : i + 4 ≤ ks.length) : List.take (clipAt ks.length (i + 4) - clipAt ks.length i) (List.drop (clipAt ks.length i) ks) = (ks.drop i.toNat).take 4 := by
  rw [clip_in (x := i + 4) (by omega) h1, clip_in (x := i) h0 (by omega)]
  have : (i + 4).toNat - i.toNat = 4 := by omega
  rw [this]
theorem wordsSIdsc : True := by
  (k_with "CompSrc" => (k_here; k_dflt ((first | with_reducible refine LCg.CompSrc.range (by k_dflt (rfl)) (by k_dflt (k_asm)) (by k_dflt (k_asm)) (by k_dflt (assumption)) (by k_dflt (first | exact small_one (by omega) (by omega) (by omega) (by omega) | decide)) (by k_dflt (first | exact rangeSize_nat _ _ | rfl)) (by k_dflt (rw [PySem.sizeLine_eq]; omega)) ?_ | refine LCg.CompSrc.range (by rfl) (by k_asm) (by k_asm) (by assumption) (by first | exact small_one (by omega) (by omega) (by omega) (by omega) | decide) (by first | exact rangeSize_nat _ _ | rfl) (by rw [PySem.sizeLine_eq]; omega) ?_)); intro g'; refine comp_relR (IdRel ks at_) ?_ ?_))
  trivial

section
variable {w : World} {p : Program} {loose : List Str} {mean : ExcName → Option Value} {mg mb : Str → Option Value}
  {dp un : Nat} {gd : Option (List Code)} {cn : Str} {cs : Scope} {a : Addr} {ccd : Value} {cl : List (Str × Addr)} {outer : List Env} {A₀ : Around} {base h₀ : Heap} {L : Addr} {m : Str → Option Value} {s : Shared} {Q E : Value → Shared → Prop}

theorem ids {news : List (Addr × Obj)} {oct : Array UInt8} {ks : List Int} {tO ta tb tc td: Tok} {at_ n : Int}
    (B : Below A₀ base outer h₀) (F : Fr h₀ L s.heap m) (X : (hd.heap_1 w.params).In h₀) (NR : News h₀ L s.heap news) (T : Top p loose mean mg mb h₀) (hk : cs.kind = .function)
    (hd : dp + 2 < recursionLimit) (hu : un + 16 < cLine)
    (hb : KBw.bInts oct = ks) (h3 : ks.length ≤ 100000) (hn0 : 0 ≤ n) (hn3 : n ≤ 3) (h4 : at_ + 4 * n ≤ ks.length) (h5 : 0 ≤ at_)
    (ret : ∀ (D : Addr) (ys : List Value) (h' : Heap) (tk' : Nat), RelL (IdRel ks at_) (rangeKs 0 n.toNat) ys → (∀ p ∈ news, p.1 ≠ D) → Fr h₀ L h' m → News h₀ L h' ((D, LCg.lst ys) :: news) → Q (.ref D) { s with heap := h', toks := tk' }) :
    wpAny (model PySem.Challenge.rw_nt0280_01.row.prog w) (ktrTop dp un gd cn cs L a ccd cl outer) (call (.ref 147) [.bytes oct tO, .int at_ ta, .int 4 tb, .int n tc, .int 4 td]) Q E s := by
  revert X; k_fill; intro X
  have N : News h₀ L s.heap [] := News.nil
  have hx : Apart [] news := Apart.nil
  refine wpAny_call ?_
  k_dflt (first   | (refine' code_defR ?k1 ?k2 ?k3 N NR hx ?k5 ?kA ?kF ?kK ?k6 ?k7 ?k8 ?k9 ?kB ?_ ?c2 ?c3 ?c4 ?c5; (case kA => exact rfl); (case kF => exact rfl); (case kK => first | exact rfl | assumption); (case k1 => k_asm); (case k2 => k_asm); (case k3 => k_asm); (case k5 => k_asm); (case k6 => k_is); (case k7 => k_is); (case k8 => ktr_room); (case k9 => first | exact BindsTo.of_eq rfl | exact binds_K (by k_in) rfl (by k_is) rfl rfl rfl); (case c5 => decide); (case kB => exact locs rfl); (case c2 => exact rfl); (case c3 => exact rfl); (case c4 => exact rfl); k_whole; clear N NR hx; intro g' L' h' FG' F' N' B' X' T' R' l1; (try k_lt l1); (try dsimp only); (try k_lift B'); (try k_fold))   | (refine' code_defCR ?k1 ?k2 ?k3 N NR hx ?k5 ?kA ?kF ?kK ?k6 ?k7 ?k8 ?k9 ?kB ?kD ?_ ?c2 ?c3 ?c4; (case kA => exact rfl); (case kF => exact rfl); (case kK => first | exact rfl | assumption); (case k1 => k_asm); (case k2 => k_asm); (case k3 => k_asm); (case k5 => k_asm); (case k6 => k_is); (case k7 => k_is); (case k8 => ktr_room); (case k9 => first | exact BindsTo.of_eq rfl | exact binds_K (by k_in) rfl (by k_is) rfl rfl rfl); (case kB => exact rfl); (case kD => decide +kernel); (case c2 => exact rfl); (case c3 => exact rfl); (case c4 => exact rfl); k_whole; clear N NR hx; intro g' L' h' tk' cells' FG' F' N' Y' B' X' T' R' l1; (try k_lt l1); k_cells Y'; (try simp only [List.cons_append, List.nil_append] at N'); (try dsimp only); (try k_lift B'); (try k_fold)))
  w_strict (repeat' (first | (k_unfold; (try dsimp only)) | walk1 | (dsimp only; walk1) | (leave1; try dsimp only) | fail "no step"))
  · refine' LCg.CompEnd.intro (by assumption) (by assumption) _ ?sub ?off trivial ⟨rfl, _, _, rfl, ?bb⟩
    case sub => kcf_all
    case off => assumption
    case bb => exact (by assumption : KBw.bInts (KBy.picked _ _ _) = _).trans (cut4 (by omega) (by omega))
  · have e9 : (n - 0).toNat = n.toNat := by rw [Int.sub_zero]
    refine ret _ _ _ _ ?r1 (Apart.one (by assumption)) (by k_asm) ((by assumption : RestIn _ _ _ _).with (l := [_]) fun q hq => (by assumption : News _ _ _ _) q (by rw [List.mem_singleton.mp hq]; exact .head _))
    case r1 => rw [← e9]; assumption
end

end

section
theorem wordsLoopBb : True := by
  w_top off
  k_with_none
  (k_with "exec For Name Subscript cons nil" => (k_here; (rename Fr _ _ _ _ => lF'); (with_unfolding_all refine For_invVF lF' (by exact rfl) (by exact rfl) ?_; k_whole)))
  (k_with "call ref" => (k_here; k_dflt (first | (refine call_meth (by k_asm) (by k_mem) ?_; k_whole; (first | ((first | with_reducible refine code_defO (by k_dflt (exact rfl)) (by k_dflt (exact rfl)) (by k_dflt (first | exact rfl | assumption)) (by k_dflt (k_asm)) (by k_dflt (k_asm)) (by k_dflt (k_asm)) (by k_dflt (k_asm)) (by k_dflt (k_asm)) (by k_dflt (k_is)) (by k_dflt (k_is)) (by k_dflt (ktr_room)) (by k_dflt (first | exact BindsTo.of_eq rfl | exact binds_K (by k_in) rfl (by k_is) rfl rfl rfl)) (by k_dflt (decide)) (by k_dflt (exact locs rfl)) (by k_dflt (exact rfl)) (by k_dflt (exact rfl)) (by k_dflt (exact rfl)) ?_ | refine code_defO (by exact rfl) (by exact rfl) (by first | exact rfl | assumption) (by k_asm) (by k_asm) (by k_asm) (by k_asm) (by k_asm) (by k_is) (by k_is) (by ktr_room) (by first | exact BindsTo.of_eq rfl | exact binds_K (by k_in) rfl (by k_is) rfl rfl rfl) (by decide) (by exact locs rfl) (by exact rfl) (by exact rfl) (by exact rfl) ?_); k_whole; intro g' L' h' FG' F' N' B' X' T'; (try dsimp only); (try k_lift B'); (try k_fold)) | ((first | with_reducible refine code_defCO (by k_dflt (exact rfl)) (by k_dflt (exact rfl)) (by k_dflt (first | exact rfl | assumption)) (by k_dflt (k_asm)) (by k_dflt (k_asm)) (by k_dflt (k_asm)) (by k_dflt (k_asm)) (by k_dflt (k_asm)) (by k_dflt (k_is)) (by k_dflt (k_is)) (by k_dflt (ktr_room)) (by k_dflt (first | exact BindsTo.of_eq rfl | exact binds_K (by k_in) rfl (by k_is) rfl rfl rfl)) (by k_dflt (exact rfl)) (by k_dflt (decide +kernel)) (by k_dflt (exact rfl)) (by k_dflt (exact rfl)) (by k_dflt (exact rfl)) ?_ | refine code_defCO (by exact rfl) (by exact rfl) (by first | exact rfl | assumption) (by k_asm) (by k_asm) (by k_asm) (by k_asm) (by k_asm) (by k_is) (by k_is) (by ktr_room) (by first | exact BindsTo.of_eq rfl | exact binds_K (by k_in) rfl (by k_is) rfl rfl rfl) (by exact rfl) (by decide +kernel) (by exact rfl) (by exact rfl) (by exact rfl) ?_); k_whole; intro g' L' h' tk' cells' FG' F' N' Y' B' X' T' l1; (try k_lt l1); k_cells Y'; (try simp only [List.cons_append, List.nil_append] at N'); (try dsimp only); (try k_lift B'); (try k_fold)))) | ((first | with_reducible refine call_cls (by k_dflt (k_asm)) (by k_dflt (k_asm)) (by k_dflt (k_asm)) (by k_dflt (k_is)) (by k_dflt (k_is)) (by k_dflt (k_is)) ?_ | refine call_cls (by k_asm) (by k_asm) (by k_asm) (by k_is) (by k_is) (by k_is) ?_); k_whole; intro x' d' h' F' N' l1 l2; (try k_lt l1); (try k_lt2 l2); (try k_sweep); (first | ((first | with_reducible refine code_defO (by k_dflt (exact rfl)) (by k_dflt (exact rfl)) (by k_dflt (first | exact rfl | assumption)) (by k_dflt (k_asm)) (by k_dflt (k_asm)) (by k_dflt (k_asm)) (by k_dflt (k_asm)) (by k_dflt (k_asm)) (by k_dflt (k_is)) (by k_dflt (k_is)) (by k_dflt (ktr_room)) (by k_dflt (first | exact BindsTo.of_eq rfl | exact binds_K (by k_in) rfl (by k_is) rfl rfl rfl)) (by k_dflt (decide)) (by k_dflt (exact locs rfl)) (by k_dflt (exact rfl)) (by k_dflt (exact rfl)) (by k_dflt (exact rfl)) ?_ | refine code_defO (by exact rfl) (by exact rfl) (by first | exact rfl | assumption) (by k_asm) (by k_asm) (by k_asm) (by k_asm) (by k_asm) (by k_is) (by k_is) (by ktr_room) (by first | exact BindsTo.of_eq rfl | exact binds_K (by k_in) rfl (by k_is) rfl rfl rfl) (by decide) (by exact locs rfl) (by exact rfl) (by exact rfl) (by exact rfl) ?_); k_whole; intro g' L' h' FG' F' N' B' X' T'; (try dsimp only); (try k_lift B'); (try k_fold)) | ((first | with_reducible refine code_defCO (by k_dflt (exact rfl)) (by k_dflt (exact rfl)) (by k_dflt (first | exact rfl | assumption)) (by k_dflt (k_asm)) (by k_dflt (k_asm)) (by k_dflt (k_asm)) (by k_dflt (k_asm)) (by k_dflt (k_asm)) (by k_dflt (k_is)) (by k_dflt (k_is)) (by k_dflt (ktr_room)) (by k_dflt (first | exact BindsTo.of_eq rfl | exact binds_K (by k_in) rfl (by k_is) rfl rfl rfl)) (by k_dflt (exact rfl)) (by k_dflt (decide +kernel)) (by k_dflt (exact rfl)) (by k_dflt (exact rfl)) (by k_dflt (exact rfl)) ?_ | refine code_defCO (by exact rfl) (by exact rfl) (by first | exact rfl | assumption) (by k_asm) (by k_asm) (by k_asm) (by k_asm) (by k_asm) (by k_is) (by k_is) (by ktr_room) (by first | exact BindsTo.of_eq rfl | exact binds_K (by k_in) rfl (by k_is) rfl rfl rfl) (by exact rfl) (by decide +kernel) (by exact rfl) (by exact rfl) (by exact rfl) ?_); k_whole; intro g' L' h' tk' cells' FG' F' N' Y' B' X' T' l1; (try k_lt l1); k_cells Y'; (try simp only [List.cons_append, List.nil_append] at N'); (try dsimp only); (try k_lift B'); (try k_fold)))) | ((first | with_reducible refine wpAny_call ?_ | refine wpAny_call ?_); (first | ((first | with_reducible refine code_defO (by k_dflt (exact rfl)) (by k_dflt (exact rfl)) (by k_dflt (first | exact rfl | assumption)) (by k_dflt (k_asm)) (by k_dflt (k_asm)) (by k_dflt (k_asm)) (by k_dflt (k_asm)) (by k_dflt (k_asm)) (by k_dflt (k_is)) (by k_dflt (k_is)) (by k_dflt (ktr_room)) (by k_dflt (first | exact BindsTo.of_eq rfl | exact binds_K (by k_in) rfl (by k_is) rfl rfl rfl)) (by k_dflt (decide)) (by k_dflt (exact locs rfl)) (by k_dflt (exact rfl)) (by k_dflt (exact rfl)) (by k_dflt (exact rfl)) ?_ | refine code_defO (by exact rfl) (by exact rfl) (by first | exact rfl | assumption) (by k_asm) (by k_asm) (by k_asm) (by k_asm) (by k_asm) (by k_is) (by k_is) (by ktr_room) (by first | exact BindsTo.of_eq rfl | exact binds_K (by k_in) rfl (by k_is) rfl rfl rfl) (by decide) (by exact locs rfl) (by exact rfl) (by exact rfl) (by exact rfl) ?_); k_whole; intro g' L' h' FG' F' N' B' X' T'; (try dsimp only); (try k_lift B'); (try k_fold)) | ((first | with_reducible refine code_defCO (by k_dflt (exact rfl)) (by k_dflt (exact rfl)) (by k_dflt (first | exact rfl | assumption)) (by k_dflt (k_asm)) (by k_dflt (k_asm)) (by k_dflt (k_asm)) (by k_dflt (k_asm)) (by k_dflt (k_asm)) (by k_dflt (k_is)) (by k_dflt (k_is)) (by k_dflt (ktr_room)) (by k_dflt (first | exact BindsTo.of_eq rfl | exact binds_K (by k_in) rfl (by k_is) rfl rfl rfl)) (by k_dflt (exact rfl)) (by k_dflt (decide +kernel)) (by k_dflt (exact rfl)) (by k_dflt (exact rfl)) (by k_dflt (exact rfl)) ?_ | refine code_defCO (by exact rfl) (by exact rfl) (by first | exact rfl | assumption) (by k_asm) (by k_asm) (by k_asm) (by k_asm) (by k_asm) (by k_is) (by k_is) (by ktr_room) (by first | exact BindsTo.of_eq rfl | exact binds_K (by k_in) rfl (by k_is) rfl rfl rfl) (by exact rfl) (by decide +kernel) (by exact rfl) (by exact rfl) (by exact rfl) ?_); k_whole; intro g' L' h' tk' cells' FG' F' N' Y' B' X' T' l1; (try k_lt l1); k_cells Y'; (try simp only [List.cons_append, List.nil_append] at N'); (try dsimp only); (try k_lift B'); (try k_fold)))))))
  (k_with "execs cons" => (k_here; (with_reducible (refine gen_toks ?_)); intro tk))
  (k_with "execs nil" => (k_here; (with_reducible (refine gen_toks ?_)); intro tk))
  (k_with "call builtin:list.append" => (k_here; k_dflt ((first | with_reducible refine app_K (by k_dflt (k_asm)) (by k_dflt (k_asm)) (by k_dflt (k_updF)) (by k_dflt ((simp only [List.length_append, List.length_cons, List.length_nil]; omega))) ?_ | refine app_K (by k_asm) (by k_asm) (by k_updF) (by (simp only [List.length_append, List.length_cons, List.length_nil]; omega)) ?_)); intro h' F' N'; (try dsimp only at N'); (try dsimp only)))
  trivial
section
variable {prog : Program} {w : World} {A : Around} {E : Value → Shared → Prop} {s : Shared} {env : Env} {h₀ : Heap} {x : Str} {px : Pos} {body : List Stmt} {Q : Flow → Shared → Prop}
def TurnB (h₀ : Heap) (L I : Addr) (oI : Obj) (Led : Obj → List (Addr × Obj)) (Ok : Obj → Prop) (m₀ : Str → Option Value) (xf xn : Str) (bs : List Int) (s₁ : Shared) (f : Flow) (s₂ : Shared) : Prop :=
  f = .next ∧ ∃ h' tk m' o' b' tb', s₂ = { s₁ with heap := h', toks := tk } ∧ Fr h₀ L h' m' ∧ News h₀ L h' ((I, oI) :: Led o') ∧ Ok o' ∧ m' xf = some (.bytes b' tb') ∧ KBw.bInts b' = bs ∧ ∀ y, y ≠ xf → y ≠ xn → m' y = m₀ y
theorem TurnB.intro {L I : Addr} {oI o' : Obj} {Led : Obj → List (Addr × Obj)} {Ok : Obj → Prop} {m₀ m' : Str → Option Value} {xf xn : Str} {bs : List Int} {s₁ : Shared} {h' : Heap} {tk : Nat} {b' : Array UInt8} {tb' : Tok}
    (F : Fr h₀ L h' m') (N : News h₀ L h' ((I, oI) :: Led o')) (ho : Ok o') (hf : m' xf = some (.bytes b' tb')) (hb : KBw.bInts b' = bs) (hm : ∀ y, y ≠ xf → y ≠ xn → m' y = m₀ y) : TurnB h₀ L I oI Led Ok m₀ xf xn bs s₁ .next { s₁ with heap := h', toks := tk } :=
  ⟨rfl, h', tk, m', o', b', tb', rfl, F, N, ho, hf, hb, hm⟩
def Mid (m₀ : Str → Option Value) (xf xn : Str) (b : Array UInt8) (tb : Tok) (u : Option Value) : Str → Option Value := fun y => if y = xf then some (.bytes b tb) else if y = xn then u else m₀ y
theorem mid_of {m₀ m' : Str → Option Value} {xf xn : Str} {b : Array UInt8} {tb : Tok} (hf : m' xf = some (.bytes b tb)) (hm : ∀ y, y ≠ xf → y ≠ xn → m' y = m₀ y) : m' = Mid m₀ xf xn b tb (m' xn) := by
  funext y
  unfold Mid
  by_cases h1 : y = xf
  · rw [if_pos h1, h1, hf]
  · rw [if_neg h1]
    by_cases h2 : y = xn
    · rw [if_pos h2, h2]
    · rw [if_neg h2]; exact hm y h1 h2
theorem loop_found {I : Addr} {fp : List Addr} {n : Nat} {P : Nat → Value → Prop} {St : Nat → Heap → Prop} {Led : Obj → List (Addr × Obj)} {Ok : Obj → Prop} {m₀ : Str → Option Value} {b0 : Array UInt8} {t0 : Tok} {o0 : Obj} (xf xn : Str) (G : Nat → List Int)
    (W : Walks prog w A I fp [I] n P St) (hfp : ∀ b ∈ fp, b = I ∨ ∃ o, ∀ o', Ok o' → (b, o) ∈ Led o') (hLf : env.locals ∉ fp) (hI₀ : h₀.get? I = none) (hoff : ∀ o, Ok o → ∀ p ∈ Led o, p.1 ≠ I)
    (hst : St 0 s.heap) (F : Fr h₀ env.locals s.heap m₀) (N : News h₀ env.locals s.heap (Led o0)) (ho : Ok o0) (hf : m₀ xf = some (.bytes b0 t0)) (hI : ∀ i h, St i h → ∃ o, h.get? I = some o)
    (turn : ∀ i v b tb u o oI (s₁ : Shared), i < n → P i v → Ok o → KBw.bInts b = KBw.bInts b0 ++ ((List.range i).map G).flatten → (∀ p ∈ Led o, p.1 ≠ I) → Fr h₀ env.locals s₁.heap (Mid m₀ xf xn b tb u) → News h₀ env.locals s₁.heap ((I, oI) :: Led o) →
      wpAny (model prog w) A (assign (.Name x px) env v) (fun _ s₃ => wpAny (model prog w) A (execs body env) (TurnB h₀ env.locals I oI Led Ok m₀ xf xn (KBw.bInts b ++ G i) s₁) E s₃) E s₁)
    (done : ∀ h' tk b tb u o, Ok o → KBw.bInts b = KBw.bInts b0 ++ ((List.range n).map G).flatten → Fr h₀ env.locals h' (Mid m₀ xf xn b tb u) → News h₀ env.locals h' (Led o) → Q .next { s with heap := h', toks := tk }) :
    LoopAtT prog w A h₀ env (.Name x px) body Q E (.ref I) s := by
  let J : Nat → (Str → Option Value) → List (Addr × Obj) → Prop := fun i m₁ news₁ => ∃ o b tb u, Ok o ∧ news₁ = Led o ∧ m₁ = Mid m₀ xf xn b tb u ∧ KBw.bInts b = KBw.bInts b0 ++ ((List.range i).map G).flatten
  refine ⟨I, fp, [I], n, P, St, m₀, Led o0, J, rfl, W, hLf, ?_, ?_, hst, F, N, ?_, ⟨o0, b0, t0, m₀ xn, ho, rfl, ?_, by simp⟩, ?_, ?_⟩
  · intro b hb; rw [List.mem_singleton.mp hb]; exact hI₀
  · intro p hp hb; exact hoff o0 ho p hp (List.mem_singleton.mp hb)
  · intro i s' v Q' _ hQ'
    show wpAny _ _ (pure ()) _ _ _
    exact wpAny_pure hQ'
  · exact mid_of hf fun _ _ _ => rfl
  · rintro i v m₁ news₁ s₁ own hi hP ⟨o, b, tb, u, hok, rfl, rfl, hb⟩ hnw hsub hown hall hst₁ F₁ N₁
    obtain ⟨oI, heI⟩ := hI _ _ hst₁
    have hIo : (I, oI) ∈ own := hall I (W.sub I (List.mem_singleton.mpr rfl)) hI₀ oI heI
    refine wpAny_mono (turn i v b tb u o oI s₁ hi hP hok hb (hoff o hok) F₁ fun p hp => ?_) (fun _ s₃ h₃ => wpAny_mono h₃ (fun f s₂ h₂ => ?_) fun _ _ e => e) fun _ _ e => e
    · rcases List.mem_cons.mp hp with e | hp
      · rw [e]; exact N₁ _ (List.mem_append_left _ hIo)
      · exact N₁ _ (List.mem_append_right _ hp)
    · obtain ⟨rfl, h', tk, m', o', b', tb', rfl, F', N', ho', hf', hb', hm'⟩ := h₂
      refine ⟨rfl, h', tk, m', Led o', rfl, F', fun p hp => ?_, fun p hp hb => hoff o' ho' p hp (List.mem_singleton.mp hb), ⟨o', b', tb', m' xn, ho', rfl, mid_of hf' hm', ?_⟩⟩
      · rcases List.mem_append.mp hp with hp | hp
        · have hg := hown p hp
          rcases hfp p.1 (hsub p hp) with e | ⟨o9, h9⟩
          · rw [e, heI] at hg
            have : p = (I, oI) := Prod.ext e (Option.some.inj hg).symm
            rw [this]; exact N' _ (.head _)
          · have q := (N₁ _ (List.mem_append_right _ (h9 o hok))).1
            rw [q] at hg
            have : p = (p.1, o9) := Prod.ext rfl (Option.some.inj hg).symm
            rw [this]; exact N' _ (.tail _ (h9 o' ho'))
        · exact N' _ (.tail _ hp)
      · rw [hb', hb, List.append_assoc]
        congr 1
        rw [List.range_succ, List.map_append, List.flatten_append]
        simp
  · rintro h' tk m' news' F' N' _ ⟨o, b, tb, u, hok, rfl, rfl, hb⟩
    exact done h' tk b tb u o hok hb F' N'
theorem iter_listB {l : Addr} {vs : List Value} {ns : List Int} {nn : Nat} {Led : Obj → List (Addr × Obj)} {Ok : Obj → Prop} {m₀ : Str → Option Value} {b0 : Array UInt8} {t0 : Tok} {o0 : Obj} (xf xn : Str) (G : Int → List Int)
    (hh : A.handled = none) (hm : ∀ o, Ok o → (l, listOf vs.toArray nn) ∈ Led o) (hi : IntsAre vs ns) (hlt : ∀ o, Ok o → ∀ p ∈ Led o, p.1 ∈ (Led o0).map (·.1)) (F : Fr h₀ env.locals s.heap m₀) (N : News h₀ env.locals s.heap (Led o0)) (ho : Ok o0) (hf : m₀ xf = some (.bytes b0 t0))
    (turn : ∀ i n t b tb u o I oI (s₁ : Shared), i < ns.length → n ∈ ns → Ok o → KBw.bInts b = KBw.bInts b0 ++ ((ns.take i).map G).flatten → (∀ p ∈ Led o, p.1 ≠ I) → Fr h₀ env.locals s₁.heap (Mid m₀ xf xn b tb u) → News h₀ env.locals s₁.heap ((I, oI) :: Led o) →
      wpAny (model prog w) A (assign (.Name x px) env (.int n t)) (fun _ s₃ => wpAny (model prog w) A (execs body env) (TurnB h₀ env.locals I oI Led Ok m₀ xf xn (KBw.bInts b ++ G n) s₁) E s₃) E s₁)
    (done : ∀ h' tk b tb u o, Ok o → KBw.bInts b = KBw.bInts b0 ++ (ns.map G).flatten → Fr h₀ env.locals h' (Mid m₀ xf xn b tb u) → News h₀ env.locals h' (Led o) → Q .next { s with heap := h', toks := tk }) :
    wpAny (model prog w) A (pyIter (.ref l)) (fun it s₂ => LoopAtT prog w A h₀ env (.Name x px) body Q E it s₂) E s := by
  have hls : s.heap.IsList l vs.toArray := PySem.IsL.isList (n := nn) (N _ (hm o0 ho)).1
  have hlt' : l < s.heap.objs.size := Heap.lt_size (N _ (hm o0 ho)).1
  have hne : l ≠ s.heap.objs.size := Nat.ne_of_lt hlt'
  have hlen : vs.toArray.size = ns.length := by rw [List.size_toArray]; exact hi.length
  have hG : ∀ i, i ≤ ns.length → (List.range i).map (fun j => G (ns.getD j 0)) = (ns.take i).map G := fun i hi' => by
    apply List.ext_getElem
    · simp [hi']
    · intro j h1 h2
      have : j < ns.length := by simp at h2; omega
      simp [this]
  refine wpAny_pyIter_list hls ?_
  have W := Walks.list (prog := prog) (w := w) hh s.heap.objs.size l hne vs.toArray
  rw [hlen] at W
  refine loop_found xf xn (fun j => G (ns.getD j 0)) W ?_ ?_ (next_is_new F) ?_ ⟨⟨_, Heap.get?_push_size _ rfl, rfl, rfl⟩, hls.push _⟩ (F.push _) (fun p hp => ⟨Heap.get?_push_of_some _ (N p hp).1, (N p hp).2⟩) ho hf ?_ ?_ ?_
  · intro b hb
    rcases List.mem_cons.mp hb with e | hb
    · exact .inl e
    · rw [List.mem_singleton.mp hb]; exact .inr ⟨_, hm⟩
  · intro hm'
    rcases List.mem_cons.mp hm' with e | hm'
    · exact absurd F.ns.lt (e ▸ Nat.lt_irrefl _)
    · exact (N _ (hm o0 ho)).2.1 (List.mem_singleton.mp hm').symm
  · intro o hok p hp e
    obtain ⟨q, hq, e'⟩ := List.mem_map.mp (hlt o hok p hp)
    have := Heap.lt_size (N q hq).1
    rw [e', e] at this
    exact Nat.lt_irrefl _ this
  · intro i h st; obtain ⟨o, e, _⟩ := st.1; exact ⟨o, e⟩
  · intro i v b tb u o oI s₁ hi' hP hok hb hoff F₁ N₁
    obtain ⟨t, hx⟩ := hi.get i ns[i] (by simp [hi'])
    have hP' : vs[i]? = some v := by simpa using hP
    have hv : v = .int ns[i] t := by rw [hx] at hP'; exact (Option.some.inj hP').symm
    subst hv
    rw [hG i (Nat.le_of_lt hi')] at hb
    have e9 : ns.getD i 0 = ns[i] := by simp [hi']
    show wpAny _ _ _ (fun _ s₃ => wpAny _ _ _ (TurnB h₀ env.locals _ oI Led Ok m₀ xf xn (KBw.bInts b ++ G (ns.getD i 0)) s₁) E s₃) E s₁
    rw [e9]
    exact turn i ns[i] t b tb u o _ oI s₁ hi' (List.getElem_mem _) hok hb hoff F₁ N₁
  · intro h' tk b tb u o hok hb F' N'
    rw [hG _ (Nat.le_refl _), List.take_length] at hb
    exact done h' tk b tb u o hok hb F' N'
theorem iter_rangeB {r : Addr} {n : Nat} {e0 : Int} {t₁ t₂ t₃ : Tok} {news : List (Addr × Obj)} {m₀ : Str → Option Value} {b0 : Array UInt8} {t0 : Tok} (xf xn : Str) (G : Int → List Int)
    (hh : A.handled = none) (hr : IsRange s.heap r 0 e0 1 t₁ t₂ t₃) (hen : e0 = (n : Int)) (hn : n ≤ 1000) (F : Fr h₀ env.locals s.heap m₀) (N : News h₀ env.locals s.heap news) (hf : m₀ xf = some (.bytes b0 t0))
    (turn : ∀ (i : Nat) t b tb u I oI (s₁ : Shared), i < n → (∀ p ∈ news, p.1 ≠ I) → KBw.bInts b = KBw.bInts b0 ++ ((List.range i).map fun j : Nat => G (j : Int)).flatten → Fr h₀ env.locals s₁.heap (Mid m₀ xf xn b tb u) → News h₀ env.locals s₁.heap ((I, oI) :: news) →
      wpAny (model prog w) A (assign (.Name x px) env (.int (i : Int) t)) (fun _ s₃ => wpAny (model prog w) A (execs body env) (TurnB h₀ env.locals I oI (fun _ => news) (fun _ => True) m₀ xf xn (KBw.bInts b ++ G (i : Int)) s₁) E s₃) E s₁)
    (done : ∀ h' tk b tb u, KBw.bInts b = KBw.bInts b0 ++ ((List.range n).map fun j : Nat => G (j : Int)).flatten → Fr h₀ env.locals h' (Mid m₀ xf xn b tb u) → News h₀ env.locals h' news → Q .next { s with heap := h', toks := tk }) :
    wpAny (model prog w) A (pyIter (.ref r)) (fun it s₂ => LoopAtT prog w A h₀ env (.Name x px) body Q E it s₂) E s := by
  subst hen
  refine wpAny_pyIter_range hr (small_one (by decide) (by decide) (by omega) (by omega)) ?_
  refine loop_found (Led := fun _ => news) (Ok := fun _ => True) (o0 := emptyDict) xf xn (fun j : Nat => G (j : Int)) (LCg.range_walks hh 0 n) ?_ ?_ (next_is_new F) ?_ ?_ (F.push _) (fun p hp => ⟨Heap.get?_push_of_some _ (N p hp).1, (N p hp).2⟩) trivial hf ?_ ?_ ?_
  · intro b hb; exact .inl (List.mem_singleton.mp hb)
  · intro hm'; exact absurd F.ns.lt ((List.mem_singleton.mp hm') ▸ Nat.lt_irrefl _)
  · intro o _ p hp e
    have := Heap.lt_size (N p hp).1
    rw [e] at this
    exact Nat.lt_irrefl _ this
  · have e9 : Builtin.Range.rangeSize 0 (n : Int) 1 = (n : Int) := by
      have := rangeSize_nat 0 (n : Int)
      rw [this]; omega
    show IsRangeIter _ _ _ _ _
    rw [e9]; simpa using Heap.get?_push_size _ rfl
  · intro i h st; exact ⟨_, st⟩
  · intro i v b tb u o oI s₁ hi' hP hok hb hoff F₁ N₁
    obtain ⟨t, rfl⟩ := hP
    have e9 : (0 : Int) + (i : Int) = i := by omega
    rw [e9]
    exact turn i t b tb u _ oI s₁ hi' hoff hb F₁ N₁
  · intro h' tk b tb u o hok hb F' N'
    exact done h' tk b tb u hb F' N'
end
section
variable {prog : Program} {w : World} {A : Around} {E : Value → Shared → Prop} {s : Shared} {env : Env} {h₀ : Heap} {x : Str} {px : Pos} {body : List Stmt} {Q : Flow → Shared → Prop}
def Mid2 (m₀ : Str → Option Value) (x1 x2 : Str) (u1 u2 : Option Value) : Str → Option Value := fun y => if y = x1 then u1 else if y = x2 then u2 else m₀ y
theorem mid2_of {m₀ m' : Str → Option Value} {x1 x2 : Str} (hm : ∀ y, y ≠ x1 → y ≠ x2 → m' y = m₀ y) : m' = Mid2 m₀ x1 x2 (m' x1) (m' x2) := by
  funext y
  unfold Mid2
  by_cases h1 : y = x1
  · rw [if_pos h1, h1]
  · rw [if_neg h1]
    by_cases h2 : y = x2
    · rw [if_pos h2, h2]
    · rw [if_neg h2]; exact hm y h1 h2
def TurnL (h₀ : Heap) (L I : Addr) (oI : Obj) (J : List (Addr × Obj) → Prop) (m₀ : Str → Option Value) (x1 x2 : Str) (s₁ : Shared) (f : Flow) (s₂ : Shared) : Prop :=
  f = .next ∧ ∃ h' tk m' news', s₂ = { s₁ with heap := h', toks := tk } ∧ Fr h₀ L h' m' ∧ News h₀ L h' ((I, oI) :: news') ∧ J news' ∧ ∀ y, y ≠ x1 → y ≠ x2 → m' y = m₀ y
theorem iter_rangeL {r : Addr} {n : Nat} {e0 : Int} {t₁ t₂ t₃ : Tok} {news0 : List (Addr × Obj)} {m₀ : Str → Option Value} (x1 x2 : Str) (J : Nat → List (Addr × Obj) → Prop)
    (hh : A.handled = none) (hr : IsRange s.heap r 0 e0 1 t₁ t₂ t₃) (hen : e0 = (n : Int)) (hn : n ≤ 1000) (F : Fr h₀ env.locals s.heap m₀) (N : News h₀ env.locals s.heap news0) (h0 : J 0 news0)
    (haddr : ∀ i news₁, J i news₁ → ∀ p ∈ news₁, p.1 ∈ news0.map (·.1))
    (turn : ∀ (i : Nat) t u1 u2 I oI news₁ (s₁ : Shared), i < n → J i news₁ → (∀ p ∈ news₁, p.1 ≠ I) → Fr h₀ env.locals s₁.heap (Mid2 m₀ x1 x2 u1 u2) → News h₀ env.locals s₁.heap ((I, oI) :: news₁) →
      wpAny (model prog w) A (assign (.Name x px) env (.int (i : Int) t)) (fun _ s₃ => wpAny (model prog w) A (execs body env) (TurnL h₀ env.locals I oI (J (i + 1)) m₀ x1 x2 s₁) E s₃) E s₁)
    (done : ∀ h' tk u1 u2 news', J n news' → Fr h₀ env.locals h' (Mid2 m₀ x1 x2 u1 u2) → News h₀ env.locals h' news' → Q .next { s with heap := h', toks := tk }) :
    wpAny (model prog w) A (pyIter (.ref r)) (fun it s₂ => LoopAtT prog w A h₀ env (.Name x px) body Q E it s₂) E s := by
  subst hen
  refine wpAny_pyIter_range hr (small_one (by decide) (by decide) (by omega) (by omega)) ?_
  have W := LCg.range_walks (prog := prog) (w := w) (A := A) (I := s.heap.objs.size) hh 0 n
  have hoff : ∀ i news₁, J i news₁ → ∀ p ∈ news₁, p.1 ≠ s.heap.objs.size := fun i news₁ hj p hp e => by
    obtain ⟨q, hq, e'⟩ := List.mem_map.mp (haddr i news₁ hj p hp)
    have := Heap.lt_size (N q hq).1
    rw [e', e] at this
    exact Nat.lt_irrefl _ this
  let J' : Nat → (Str → Option Value) → List (Addr × Obj) → Prop := fun i m₁ news₁ => J i news₁ ∧ ∃ u1 u2, m₁ = Mid2 m₀ x1 x2 u1 u2
  refine ⟨s.heap.objs.size, [s.heap.objs.size], [s.heap.objs.size], n, _, _, m₀, news0, J', rfl, W, ?_, ?_, ?_, ?_, F.push _, (fun p hp => ⟨Heap.get?_push_of_some _ (N p hp).1, (N p hp).2⟩), ?_, ⟨h0, m₀ x1, m₀ x2, mid2_of fun _ _ _ => rfl⟩, ?_, ?_⟩
  · intro hm'; exact absurd F.ns.lt ((List.mem_singleton.mp hm') ▸ Nat.lt_irrefl _)
  · intro b hb; rw [List.mem_singleton.mp hb]; exact next_is_new F
  · intro p hp hb; exact hoff 0 news0 h0 p hp (List.mem_singleton.mp hb)
  · have e9 : Builtin.Range.rangeSize 0 (n : Int) 1 = (n : Int) := by
      have := rangeSize_nat 0 (n : Int)
      rw [this]; omega
    show IsRangeIter _ _ _ _ _
    rw [e9]; simpa using Heap.get?_push_size _ rfl
  · intro i s' v Q' _ hQ'
    show wpAny _ _ (pure ()) _ _ _
    exact wpAny_pure hQ'
  · rintro i v m₁ news₁ s₁ own hi hP ⟨hj, u1, u2, rfl⟩ hnw hsub hown hall hst₁ F₁ N₁
    obtain ⟨t, rfl⟩ := hP
    have e9 : (0 : Int) + (i : Int) = i := by omega
    rw [e9]
    obtain ⟨oI, heI⟩ : ∃ oI : Obj, s₁.heap.get? s.heap.objs.size = some oI := ⟨_, hst₁⟩
    have hIo : (s.heap.objs.size, oI) ∈ own := hall _ (W.sub _ (List.mem_singleton.mpr rfl)) (next_is_new F) oI heI
    refine wpAny_mono (turn i t u1 u2 s.heap.objs.size oI news₁ s₁ hi hj (hoff i news₁ hj) F₁ fun p hp => ?_) (fun _ s₃ h₃ => wpAny_mono h₃ (fun f s₂ h₂ => ?_) fun _ _ e => e) fun _ _ e => e
    · rcases List.mem_cons.mp hp with e | hp
      · rw [e]; exact N₁ _ (List.mem_append_left _ hIo)
      · exact N₁ _ (List.mem_append_right _ hp)
    · obtain ⟨rfl, h', tk, m', news', rfl, F', N', hj', hm'⟩ := h₂
      refine ⟨rfl, h', tk, m', news', rfl, F', fun p hp => ?_, fun p hp hb => hoff _ _ hj' p hp (List.mem_singleton.mp hb), ⟨hj', m' x1, m' x2, mid2_of hm'⟩⟩
      rcases List.mem_append.mp hp with hp | hp
      · have hg := hown p hp
        have e : p.1 = s.heap.objs.size := List.mem_singleton.mp (hsub p hp)
        rw [e, heI] at hg
        have : p = (s.heap.objs.size, oI) := Prod.ext e (Option.some.inj hg).symm
        rw [this]; exact N' _ (.head _)
      · exact N' _ (.tail _ hp)
  · rintro h' tk m' news' F' N' _ ⟨hj, u1, u2, rfl⟩
    exact done h' tk u1 u2 news' hj F' N'
def JL (D : Addr) (pf : Nat → Option Int) (i : Nat) (news : List (Addr × Obj)) : Prop := ∃ vs nn xs, news = [(D, listOf vs.toArray nn)] ∧ IntsAre vs xs ∧ (List.range i).map pf = xs.map some
theorem ints_snoc {vs : List Value} {ps : List Int} (h : IntsAre vs ps) (p : Int) (t : Tok) : IntsAre (vs ++ [.int p t]) (ps ++ [p]) := by
  induction h with
  | nil => exact .cons _ _ .nil
  | cons n t _ ih => exact .cons n t ih
theorem TurnPl.intro {L I D : Addr} {oI : Obj} {vs : List Value} {nn i : Nat} {xs : List Int} {pf : Nat → Option Int} {m₀ m' : Str → Option Value} {x1 x2 : Str} {s₁ : Shared} {h' : Heap} {tk : Nat} {p : Int} {t : Tok}
    (F : Fr h₀ L h' m') (N : News h₀ L h' [(I, oI), (D, listOf (vs ++ [Value.int p t]).toArray nn)]) (hi : IntsAre vs xs) (hp : (List.range i).map pf = xs.map some) (hx : pf i = some p) (hm : ∀ y, y ≠ x1 → y ≠ x2 → m' y = m₀ y) :
    TurnL h₀ L I oI (JL D pf (i + 1)) m₀ x1 x2 s₁ .next { s₁ with heap := h', toks := tk } :=
  ⟨rfl, h', tk, m', _, rfl, F, N, ⟨_, _, _, rfl, ints_snoc hi p t, by rw [List.range_succ, List.map_append, List.map_append, hp, List.map_singleton, List.map_singleton, hx]⟩, hm⟩
end

end

section
theorem wordsLoopRb : True := by
  w_top off
  k_with_none
  (k_with "exec For Name Subscript cons nil" => (k_here; (rename Fr _ _ _ _ => lF'); (with_unfolding_all refine For_invVF lF' (by exact rfl) (by exact rfl) ?_; k_whole)))
  (k_with "call ref" => (k_here; k_dflt (first | (refine call_meth (by k_asm) (by k_mem) ?_; k_whole; (first | ((first | with_reducible refine code_defO (by k_dflt (exact rfl)) (by k_dflt (exact rfl)) (by k_dflt (first | exact rfl | assumption)) (by k_dflt (k_asm)) (by k_dflt (k_asm)) (by k_dflt (k_asm)) (by k_dflt (k_asm)) (by k_dflt (k_asm)) (by k_dflt (k_is)) (by k_dflt (k_is)) (by k_dflt (ktr_room)) (by k_dflt (first | exact BindsTo.of_eq rfl | exact binds_K (by k_in) rfl (by k_is) rfl rfl rfl)) (by k_dflt (decide)) (by k_dflt (exact locs rfl)) (by k_dflt (exact rfl)) (by k_dflt (exact rfl)) (by k_dflt (exact rfl)) ?_ | refine code_defO (by exact rfl) (by exact rfl) (by first | exact rfl | assumption) (by k_asm) (by k_asm) (by k_asm) (by k_asm) (by k_asm) (by k_is) (by k_is) (by ktr_room) (by first | exact BindsTo.of_eq rfl | exact binds_K (by k_in) rfl (by k_is) rfl rfl rfl) (by decide) (by exact locs rfl) (by exact rfl) (by exact rfl) (by exact rfl) ?_); k_whole; intro g' L' h' FG' F' N' B' X' T'; (try dsimp only); (try k_lift B'); (try k_fold)) | ((first | with_reducible refine code_defCO (by k_dflt (exact rfl)) (by k_dflt (exact rfl)) (by k_dflt (first | exact rfl | assumption)) (by k_dflt (k_asm)) (by k_dflt (k_asm)) (by k_dflt (k_asm)) (by k_dflt (k_asm)) (by k_dflt (k_asm)) (by k_dflt (k_is)) (by k_dflt (k_is)) (by k_dflt (ktr_room)) (by k_dflt (first | exact BindsTo.of_eq rfl | exact binds_K (by k_in) rfl (by k_is) rfl rfl rfl)) (by k_dflt (exact rfl)) (by k_dflt (decide +kernel)) (by k_dflt (exact rfl)) (by k_dflt (exact rfl)) (by k_dflt (exact rfl)) ?_ | refine code_defCO (by exact rfl) (by exact rfl) (by first | exact rfl | assumption) (by k_asm) (by k_asm) (by k_asm) (by k_asm) (by k_asm) (by k_is) (by k_is) (by ktr_room) (by first | exact BindsTo.of_eq rfl | exact binds_K (by k_in) rfl (by k_is) rfl rfl rfl) (by exact rfl) (by decide +kernel) (by exact rfl) (by exact rfl) (by exact rfl) ?_); k_whole; intro g' L' h' tk' cells' FG' F' N' Y' B' X' T' l1; (try k_lt l1); k_cells Y'; (try simp only [List.cons_append, List.nil_append] at N'); (try dsimp only); (try k_lift B'); (try k_fold)))) | ((first | with_reducible refine call_cls (by k_dflt (k_asm)) (by k_dflt (k_asm)) (by k_dflt (k_asm)) (by k_dflt (k_is)) (by k_dflt (k_is)) (by k_dflt (k_is)) ?_ | refine call_cls (by k_asm) (by k_asm) (by k_asm) (by k_is) (by k_is) (by k_is) ?_); k_whole; intro x' d' h' F' N' l1 l2; (try k_lt l1); (try k_lt2 l2); (try k_sweep); (first | ((first | with_reducible refine code_defO (by k_dflt (exact rfl)) (by k_dflt (exact rfl)) (by k_dflt (first | exact rfl | assumption)) (by k_dflt (k_asm)) (by k_dflt (k_asm)) (by k_dflt (k_asm)) (by k_dflt (k_asm)) (by k_dflt (k_asm)) (by k_dflt (k_is)) (by k_dflt (k_is)) (by k_dflt (ktr_room)) (by k_dflt (first | exact BindsTo.of_eq rfl | exact binds_K (by k_in) rfl (by k_is) rfl rfl rfl)) (by k_dflt (decide)) (by k_dflt (exact locs rfl)) (by k_dflt (exact rfl)) (by k_dflt (exact rfl)) (by k_dflt (exact rfl)) ?_ | refine code_defO (by exact rfl) (by exact rfl) (by first | exact rfl | assumption) (by k_asm) (by k_asm) (by k_asm) (by k_asm) (by k_asm) (by k_is) (by k_is) (by ktr_room) (by first | exact BindsTo.of_eq rfl | exact binds_K (by k_in) rfl (by k_is) rfl rfl rfl) (by decide) (by exact locs rfl) (by exact rfl) (by exact rfl) (by exact rfl) ?_); k_whole; intro g' L' h' FG' F' N' B' X' T'; (try dsimp only); (try k_lift B'); (try k_fold)) | ((first | with_reducible refine code_defCO (by k_dflt (exact rfl)) (by k_dflt (exact rfl)) (by k_dflt (first | exact rfl | assumption)) (by k_dflt (k_asm)) (by k_dflt (k_asm)) (by k_dflt (k_asm)) (by k_dflt (k_asm)) (by k_dflt (k_asm)) (by k_dflt (k_is)) (by k_dflt (k_is)) (by k_dflt (ktr_room)) (by k_dflt (first | exact BindsTo.of_eq rfl | exact binds_K (by k_in) rfl (by k_is) rfl rfl rfl)) (by k_dflt (exact rfl)) (by k_dflt (decide +kernel)) (by k_dflt (exact rfl)) (by k_dflt (exact rfl)) (by k_dflt (exact rfl)) ?_ | refine code_defCO (by exact rfl) (by exact rfl) (by first | exact rfl | assumption) (by k_asm) (by k_asm) (by k_asm) (by k_asm) (by k_asm) (by k_is) (by k_is) (by ktr_room) (by first | exact BindsTo.of_eq rfl | exact binds_K (by k_in) rfl (by k_is) rfl rfl rfl) (by exact rfl) (by decide +kernel) (by exact rfl) (by exact rfl) (by exact rfl) ?_); k_whole; intro g' L' h' tk' cells' FG' F' N' Y' B' X' T' l1; (try k_lt l1); k_cells Y'; (try simp only [List.cons_append, List.nil_append] at N'); (try dsimp only); (try k_lift B'); (try k_fold)))) | ((first | with_reducible refine wpAny_call ?_ | refine wpAny_call ?_); (first | ((first | with_reducible refine code_defO (by k_dflt (exact rfl)) (by k_dflt (exact rfl)) (by k_dflt (first | exact rfl | assumption)) (by k_dflt (k_asm)) (by k_dflt (k_asm)) (by k_dflt (k_asm)) (by k_dflt (k_asm)) (by k_dflt (k_asm)) (by k_dflt (k_is)) (by k_dflt (k_is)) (by k_dflt (ktr_room)) (by k_dflt (first | exact BindsTo.of_eq rfl | exact binds_K (by k_in) rfl (by k_is) rfl rfl rfl)) (by k_dflt (decide)) (by k_dflt (exact locs rfl)) (by k_dflt (exact rfl)) (by k_dflt (exact rfl)) (by k_dflt (exact rfl)) ?_ | refine code_defO (by exact rfl) (by exact rfl) (by first | exact rfl | assumption) (by k_asm) (by k_asm) (by k_asm) (by k_asm) (by k_asm) (by k_is) (by k_is) (by ktr_room) (by first | exact BindsTo.of_eq rfl | exact binds_K (by k_in) rfl (by k_is) rfl rfl rfl) (by decide) (by exact locs rfl) (by exact rfl) (by exact rfl) (by exact rfl) ?_); k_whole; intro g' L' h' FG' F' N' B' X' T'; (try dsimp only); (try k_lift B'); (try k_fold)) | ((first | with_reducible refine code_defCO (by k_dflt (exact rfl)) (by k_dflt (exact rfl)) (by k_dflt (first | exact rfl | assumption)) (by k_dflt (k_asm)) (by k_dflt (k_asm)) (by k_dflt (k_asm)) (by k_dflt (k_asm)) (by k_dflt (k_asm)) (by k_dflt (k_is)) (by k_dflt (k_is)) (by k_dflt (ktr_room)) (by k_dflt (first | exact BindsTo.of_eq rfl | exact binds_K (by k_in) rfl (by k_is) rfl rfl rfl)) (by k_dflt (exact rfl)) (by k_dflt (decide +kernel)) (by k_dflt (exact rfl)) (by k_dflt (exact rfl)) (by k_dflt (exact rfl)) ?_ | refine code_defCO (by exact rfl) (by exact rfl) (by first | exact rfl | assumption) (by k_asm) (by k_asm) (by k_asm) (by k_asm) (by k_asm) (by k_is) (by k_is) (by ktr_room) (by first | exact BindsTo.of_eq rfl | exact binds_K (by k_in) rfl (by k_is) rfl rfl rfl) (by exact rfl) (by decide +kernel) (by exact rfl) (by exact rfl) (by exact rfl) ?_); k_whole; intro g' L' h' tk' cells' FG' F' N' Y' B' X' T' l1; (try k_lt l1); k_cells Y'; (try simp only [List.cons_append, List.nil_append] at N'); (try dsimp only); (try k_lift B'); (try k_fold)))))))
  (k_with "execs cons" => (k_here; (with_reducible (refine gen_toks ?_)); intro tk))
  (k_with "execs nil" => (k_here; (with_reducible (refine gen_toks ?_)); intro tk))
  (k_with "call builtin:list.append" => (k_here; k_dflt ((first | with_reducible refine app_K (by k_dflt (k_asm)) (by k_dflt (k_asm)) (by k_dflt (k_updF)) (by k_dflt ((simp only [List.length_append, List.length_cons, List.length_nil]; omega))) ?_ | refine app_K (by k_asm) (by k_asm) (by k_updF) (by (simp only [List.length_append, List.length_cons, List.length_nil]; omega)) ?_)); intro h' F' N'; (try dsimp only at N'); (try dsimp only)))
  trivial
section
variable {prog : Program} {w : World} {A : Around} {E : Value → Shared → Prop} {s : Shared} {env : Env} {h₀ : Heap} {x : Str} {px : Pos} {body : List Stmt} {Q : Flow → Shared → Prop}
def LoopAtR (prog : Program) (w : World) (A : Around) (env : Env) (x : Str) (px : Pos) (body : List Stmt) (Q : Flow → Shared → Prop) (E : Value → Shared → Prop) (it : Value) (s₂ : Shared) : Prop :=
  codeAny (model prog w) A (.forLoop (.Name x px) it body [] env) (fun r s' => match r with | .ok f => Q f s' | .error e => cameBackBy (model prog w) A env E e s') s₂
theorem For_R {iter : PySem.Expr} {pos : Pos} (h : wpAny (model prog w) A (eval iter env) (fun xv s₁ => wpAny (model prog w) A (pyIter xv) (fun it s₂ => LoopAtR prog w A env x px body Q E it s₂) E s₁) E s)
    (hs : ∀ y, foldedSetIterable iter env y = pure y) : wpAny (model prog w) A (exec (.For (.Name x px) iter body [] pos) env) Q E s :=
  wpAny_For (wpAny_mono h (fun _ _ h₁ => wpAny_mono h₁ (fun _ _ h₂ => h₂) fun _ _ e => e) fun _ _ e => e) hs
theorem iter_rangeR {r : Addr} {n : Nat} {e0 : Int} {t₁ t₂ t₃ : Tok} {news0 : List (Addr × Obj)} {m₀ : Str → Option Value} (x1 x2 : Str) (J : Nat → List (Addr × Obj) → Prop)
    (hE : PassesOwn (model prog w) A env E) (hh : A.handled = none) (hr : IsRange s.heap r 0 e0 1 t₁ t₂ t₃) (hen : e0 = (n : Int)) (hn : n ≤ 1000) (F : Fr h₀ env.locals s.heap m₀) (N : News h₀ env.locals s.heap news0) (h0 : J 0 news0)
    (haddr : ∀ i news₁, J i news₁ → ∀ p ∈ news₁, p.1 ∈ news0.map (·.1))
    (turn : ∀ (i : Nat) t u1 u2 I oI news₁ h₁ tk₁, i < n → J i news₁ → (∀ p ∈ news₁, p.1 ≠ I) → Fr h₀ env.locals h₁ (Mid2 m₀ x1 x2 u1 u2) → News h₀ env.locals h₁ ((I, oI) :: news₁) →
      wpAny (model prog w) A (assign (.Name x px) env (.int (i : Int) t)) (fun _ s₃ => wpAny (model prog w) A (execs body env) (TurnL h₀ env.locals I oI (J (i + 1)) m₀ x1 x2 { s with heap := h₁, toks := tk₁ }) E s₃) E { s with heap := h₁, toks := tk₁ })
    (done : ∀ h' tk u1 u2 news', J n news' → Fr h₀ env.locals h' (Mid2 m₀ x1 x2 u1 u2) → News h₀ env.locals h' news' → Q .next { s with heap := h', toks := tk }) :
    wpAny (model prog w) A (pyIter (.ref r)) (fun it s₂ => LoopAtR prog w A env x px body Q E it s₂) E s := by
  subst hen
  refine wpAny_pyIter_range hr (small_one (by decide) (by decide) (by omega) (by omega)) ?_
  have W := LCg.range_walks (prog := prog) (w := w) (A := A) (I := s.heap.objs.size) hh 0 n
  have hI₀ : h₀.get? s.heap.objs.size = none := next_is_new F
  have hLI : env.locals ≠ s.heap.objs.size := Nat.ne_of_lt F.ns.lt
  have hoff : ∀ i news₁, J i news₁ → ∀ p ∈ news₁, p.1 ≠ s.heap.objs.size := fun i news₁ hj p hp e => by
    obtain ⟨q, hq, e'⟩ := List.mem_map.mp (haddr i news₁ hj p hp)
    have := Heap.lt_size (N q hq).1
    rw [e', e] at this
    exact Nat.lt_irrefl _ this
  have e9 : Builtin.Range.rangeSize 0 (n : Int) 1 = (n : Int) := by
    have := rangeSize_nat 0 (n : Int)
    rw [this]; omega
  unfold LoopAtR
  refine codeAny_forLoop_any
    (fun k s' => ∃ h' tk u1 u2 news' i, s' = { s with heap := h', toks := tk } ∧ IsRangeIter h' s.heap.objs.size (0 + (i : Nat) * 1) ((n : Int) - (i : Nat)) 1 ∧ Fr h₀ env.locals h' (Mid2 m₀ x1 x2 u1 u2) ∧ News h₀ env.locals h' news' ∧ J i news' ∧ i ≤ n ∧ k = n + 1 - i) ?_ (n + 1)
    ⟨_, s.toks, m₀ x1, m₀ x2, news0, 0, rfl, by rw [e9]; simpa using Heap.get?_push_size _ rfl, (mid2_of (m₀ := m₀) (m' := m₀) fun _ _ _ => rfl) ▸ F.push _, (fun p hp => ⟨Heap.get?_push_of_some _ (N p hp).1, (N p hp).2⟩), h0, Nat.zero_le _, rfl⟩
  rintro k s' ⟨h', tk, u1, u2, news', i, rfl, hst, F', N', hJ, hi, rfl⟩
  have next : ∀ h₁ : Heap, (∀ b o, b ∉ [s.heap.objs.size] → h'.get? b = some o → h₁.get? b = some o) → Fr h₀ env.locals h₁ (Mid2 m₀ x1 x2 u1 u2) ∧ News h₀ env.locals h₁ news' := fun h₁ hk =>
    ⟨⟨F'.ns.at' fun o q => hk _ o (by simpa using hLI) q, fun c o q => hk c o (by
        intro hm; rw [List.mem_singleton.mp hm, hI₀] at q; cases q) (F'.keep c o q), F'.above⟩, fun p hp => ⟨hk _ _ (by simpa using hoff i news' hJ p hp) (N' p hp).1, (N' p hp).2⟩⟩
  by_cases hlt : i < n
  · refine W.item i _ _ _ hlt hst fun v h₁ tk₁ hP hst₁ hk₁ => ?_
    obtain ⟨t, rfl⟩ := hP
    have e8 : (0 : Int) + (i : Int) = i := by omega
    rw [e8]
    obtain ⟨F₁, N₁⟩ := next h₁ hk₁
    obtain ⟨oI, heI⟩ : ∃ oI : Obj, h₁.get? s.heap.objs.size = some oI := ⟨_, hst₁⟩
    have N₂ : News h₀ env.locals h₁ ((s.heap.objs.size, oI) :: news') := fun p hp => by
      rcases List.mem_cons.mp hp with e | hp
      · rw [e]; exact ⟨heI, Ne.symm hLI, hI₀⟩
      · exact N₁ p hp
    show wpAny _ _ (pure ()) _ _ _
    refine wpAny_pure ?_
    refine wpAny_mono (turn i t u1 u2 s.heap.objs.size oI news' h₁ tk₁ hlt hJ (hoff i news' hJ) F₁ N₂) (fun _ s₂ h₂ => wpAny_passesOwn hE (wpAny_mono h₂ (fun f s₃ h₃ => ?_) fun _ _ e => e)) hE
    obtain ⟨rfl, h₃', tk₃, m₃, news₃, rfl, F₃, N₃, hJ₃, hm₃⟩ := h₃
    refine ⟨n + 1 - (i + 1), by omega, h₃', tk₃, m₃ x1, m₃ x2, news₃, i + 1, rfl, ?_, (mid2_of hm₃) ▸ F₃, fun p hp => N₃ p (.tail _ hp), hJ₃, hlt, rfl⟩
    have st₁ : h₁.get? s.heap.objs.size = some _ := hst₁
    show h₃'.get? s.heap.objs.size = some _
    rw [(N₃ _ (.head _)).1, ← heI]; exact st₁
  · have hin : i = n := by omega
    subst hin
    refine W.done _ _ _ hst fun h₁ tk₁ hk₁ => wpAny_execs_nil ?_
    obtain ⟨F₁, N₁⟩ := next h₁ hk₁
    exact done h₁ tk₁ u1 u2 news' hJ F₁ N₁
theorem iter_plc {r D : Addr} {n : Nat} {e0 : Int} {t₁ t₂ t₃ : Tok} {vs0 : List Value} {nn0 : Nat} {m₀ : Str → Option Value} (x1 x2 : Str) (pf : Nat → Option Int)
    (hE : PassesOwn (model prog w) A env E) (hh : A.handled = none) (hr : IsRange s.heap r 0 e0 1 t₁ t₂ t₃) (hen : e0 = (n : Int)) (hn : n ≤ 1000) (F : Fr h₀ env.locals s.heap m₀) (N : News h₀ env.locals s.heap [(D, listOf vs0.toArray nn0)]) (hv0 : vs0 = [])
    (turn : ∀ (i : Nat) t u1 u2 I oI vs nn xs h₁ tk₁, i < n → IntsAre vs xs → vs.length = i → (List.range i).map pf = xs.map some → @Ne Nat D I → Fr h₀ env.locals h₁ (Mid2 m₀ x1 x2 u1 u2) → News h₀ env.locals h₁ [(I, oI), (D, listOf vs.toArray nn)] →
      wpAny (model prog w) A (assign (.Name x px) env (.int (i : Int) t)) (fun _ s₃ => wpAny (model prog w) A (execs body env) (TurnL h₀ env.locals I oI (JL D pf (i + 1)) m₀ x1 x2 { s with heap := h₁, toks := tk₁ }) E s₃) E { s with heap := h₁, toks := tk₁ })
    (done : ∀ h' tk u1 u2 vs nn xs, IntsAre vs xs → (List.range n).map pf = xs.map some → Fr h₀ env.locals h' (Mid2 m₀ x1 x2 u1 u2) → News h₀ env.locals h' [(D, listOf vs.toArray nn)] → Q .next { s with heap := h', toks := tk }) :
    wpAny (model prog w) A (pyIter (.ref r)) (fun it s₂ => LoopAtR prog w A env x px body Q E it s₂) E s :=
  iter_rangeR x1 x2 (JL D pf) hE hh hr hen hn F N ⟨vs0, nn0, [], rfl, (by rw [hv0]; exact .nil), rfl⟩
    (fun i news₁ hj p hp => by
      obtain ⟨vs, nn, xs, rfl, _⟩ := hj
      rw [List.mem_singleton.mp hp]; exact .head _)
    (fun i t u1 u2 I oI news₁ h₁ tk₁ hi hj hoff F₁ N₁ => by
      obtain ⟨vs, nn, xs, rfl, hi', hp'⟩ := hj
      exact turn i t u1 u2 I oI vs nn xs h₁ tk₁ hi hi' (by
        have := congrArg List.length hp'
        rw [List.length_map, List.length_map, List.length_range] at this
        rw [hi'.length]; exact this.symm) hp' (hoff _ (.head _)) F₁ N₁)
    (fun h' tk u1 u2 news' hj F' N' => by
      obtain ⟨vs, nn, xs, rfl, hi', hp'⟩ := hj
      exact done h' tk u1 u2 vs nn xs hi' hp' F' N')
end

end

section
theorem wordsSPlcb : True := by
  w_top off
  k_with_none
  (k_with "exec For Name Subscript cons nil" => (k_here; (rename Fr _ _ _ _ => lF'); (with_unfolding_all refine For_invVF lF' (by exact rfl) (by exact rfl) ?_; k_whole)))
  (k_with "call ref" => (k_here; k_dflt (first | (refine call_meth (by k_asm) (by k_mem) ?_; k_whole; (first | ((first | with_reducible refine code_defO (by k_dflt (exact rfl)) (by k_dflt (exact rfl)) (by k_dflt (first | exact rfl | assumption)) (by k_dflt (k_asm)) (by k_dflt (k_asm)) (by k_dflt (k_asm)) (by k_dflt (k_asm)) (by k_dflt (k_asm)) (by k_dflt (k_is)) (by k_dflt (k_is)) (by k_dflt (ktr_room)) (by k_dflt (first | exact BindsTo.of_eq rfl | exact binds_K (by k_in) rfl (by k_is) rfl rfl rfl)) (by k_dflt (decide)) (by k_dflt (exact locs rfl)) (by k_dflt (exact rfl)) (by k_dflt (exact rfl)) (by k_dflt (exact rfl)) ?_ | refine code_defO (by exact rfl) (by exact rfl) (by first | exact rfl | assumption) (by k_asm) (by k_asm) (by k_asm) (by k_asm) (by k_asm) (by k_is) (by k_is) (by ktr_room) (by first | exact BindsTo.of_eq rfl | exact binds_K (by k_in) rfl (by k_is) rfl rfl rfl) (by decide) (by exact locs rfl) (by exact rfl) (by exact rfl) (by exact rfl) ?_); k_whole; intro g' L' h' FG' F' N' B' X' T'; (try dsimp only); (try k_lift B'); (try k_fold)) | ((first | with_reducible refine code_defCO (by k_dflt (exact rfl)) (by k_dflt (exact rfl)) (by k_dflt (first | exact rfl | assumption)) (by k_dflt (k_asm)) (by k_dflt (k_asm)) (by k_dflt (k_asm)) (by k_dflt (k_asm)) (by k_dflt (k_asm)) (by k_dflt (k_is)) (by k_dflt (k_is)) (by k_dflt (ktr_room)) (by k_dflt (first | exact BindsTo.of_eq rfl | exact binds_K (by k_in) rfl (by k_is) rfl rfl rfl)) (by k_dflt (exact rfl)) (by k_dflt (decide +kernel)) (by k_dflt (exact rfl)) (by k_dflt (exact rfl)) (by k_dflt (exact rfl)) ?_ | refine code_defCO (by exact rfl) (by exact rfl) (by first | exact rfl | assumption) (by k_asm) (by k_asm) (by k_asm) (by k_asm) (by k_asm) (by k_is) (by k_is) (by ktr_room) (by first | exact BindsTo.of_eq rfl | exact binds_K (by k_in) rfl (by k_is) rfl rfl rfl) (by exact rfl) (by decide +kernel) (by exact rfl) (by exact rfl) (by exact rfl) ?_); k_whole; intro g' L' h' tk' cells' FG' F' N' Y' B' X' T' l1; (try k_lt l1); k_cells Y'; (try simp only [List.cons_append, List.nil_append] at N'); (try dsimp only); (try k_lift B'); (try k_fold)))) | ((first | with_reducible refine call_cls (by k_dflt (k_asm)) (by k_dflt (k_asm)) (by k_dflt (k_asm)) (by k_dflt (k_is)) (by k_dflt (k_is)) (by k_dflt (k_is)) ?_ | refine call_cls (by k_asm) (by k_asm) (by k_asm) (by k_is) (by k_is) (by k_is) ?_); k_whole; intro x' d' h' F' N' l1 l2; (try k_lt l1); (try k_lt2 l2); (try k_sweep); (first | ((first | with_reducible refine code_defO (by k_dflt (exact rfl)) (by k_dflt (exact rfl)) (by k_dflt (first | exact rfl | assumption)) (by k_dflt (k_asm)) (by k_dflt (k_asm)) (by k_dflt (k_asm)) (by k_dflt (k_asm)) (by k_dflt (k_asm)) (by k_dflt (k_is)) (by k_dflt (k_is)) (by k_dflt (ktr_room)) (by k_dflt (first | exact BindsTo.of_eq rfl | exact binds_K (by k_in) rfl (by k_is) rfl rfl rfl)) (by k_dflt (decide)) (by k_dflt (exact locs rfl)) (by k_dflt (exact rfl)) (by k_dflt (exact rfl)) (by k_dflt (exact rfl)) ?_ | refine code_defO (by exact rfl) (by exact rfl) (by first | exact rfl | assumption) (by k_asm) (by k_asm) (by k_asm) (by k_asm) (by k_asm) (by k_is) (by k_is) (by ktr_room) (by first | exact BindsTo.of_eq rfl | exact binds_K (by k_in) rfl (by k_is) rfl rfl rfl) (by decide) (by exact locs rfl) (by exact rfl) (by exact rfl) (by exact rfl) ?_); k_whole; intro g' L' h' FG' F' N' B' X' T'; (try dsimp only); (try k_lift B'); (try k_fold)) | ((first | with_reducible refine code_defCO (by k_dflt (exact rfl)) (by k_dflt (exact rfl)) (by k_dflt (first | exact rfl | assumption)) (by k_dflt (k_asm)) (by k_dflt (k_asm)) (by k_dflt (k_asm)) (by k_dflt (k_asm)) (by k_dflt (k_asm)) (by k_dflt (k_is)) (by k_dflt (k_is)) (by k_dflt (ktr_room)) (by k_dflt (first | exact BindsTo.of_eq rfl | exact binds_K (by k_in) rfl (by k_is) rfl rfl rfl)) (by k_dflt (exact rfl)) (by k_dflt (decide +kernel)) (by k_dflt (exact rfl)) (by k_dflt (exact rfl)) (by k_dflt (exact rfl)) ?_ | refine code_defCO (by exact rfl) (by exact rfl) (by first | exact rfl | assumption) (by k_asm) (by k_asm) (by k_asm) (by k_asm) (by k_asm) (by k_is) (by k_is) (by ktr_room) (by first | exact BindsTo.of_eq rfl | exact binds_K (by k_in) rfl (by k_is) rfl rfl rfl) (by exact rfl) (by decide +kernel) (by exact rfl) (by exact rfl) (by exact rfl) ?_); k_whole; intro g' L' h' tk' cells' FG' F' N' Y' B' X' T' l1; (try k_lt l1); k_cells Y'; (try simp only [List.cons_append, List.nil_append] at N'); (try dsimp only); (try k_lift B'); (try k_fold)))) | ((first | with_reducible refine wpAny_call ?_ | refine wpAny_call ?_); (first | ((first | with_reducible refine code_defO (by k_dflt (exact rfl)) (by k_dflt (exact rfl)) (by k_dflt (first | exact rfl | assumption)) (by k_dflt (k_asm)) (by k_dflt (k_asm)) (by k_dflt (k_asm)) (by k_dflt (k_asm)) (by k_dflt (k_asm)) (by k_dflt (k_is)) (by k_dflt (k_is)) (by k_dflt (ktr_room)) (by k_dflt (first | exact BindsTo.of_eq rfl | exact binds_K (by k_in) rfl (by k_is) rfl rfl rfl)) (by k_dflt (decide)) (by k_dflt (exact locs rfl)) (by k_dflt (exact rfl)) (by k_dflt (exact rfl)) (by k_dflt (exact rfl)) ?_ | refine code_defO (by exact rfl) (by exact rfl) (by first | exact rfl | assumption) (by k_asm) (by k_asm) (by k_asm) (by k_asm) (by k_asm) (by k_is) (by k_is) (by ktr_room) (by first | exact BindsTo.of_eq rfl | exact binds_K (by k_in) rfl (by k_is) rfl rfl rfl) (by decide) (by exact locs rfl) (by exact rfl) (by exact rfl) (by exact rfl) ?_); k_whole; intro g' L' h' FG' F' N' B' X' T'; (try dsimp only); (try k_lift B'); (try k_fold)) | ((first | with_reducible refine code_defCO (by k_dflt (exact rfl)) (by k_dflt (exact rfl)) (by k_dflt (first | exact rfl | assumption)) (by k_dflt (k_asm)) (by k_dflt (k_asm)) (by k_dflt (k_asm)) (by k_dflt (k_asm)) (by k_dflt (k_asm)) (by k_dflt (k_is)) (by k_dflt (k_is)) (by k_dflt (ktr_room)) (by k_dflt (first | exact BindsTo.of_eq rfl | exact binds_K (by k_in) rfl (by k_is) rfl rfl rfl)) (by k_dflt (exact rfl)) (by k_dflt (decide +kernel)) (by k_dflt (exact rfl)) (by k_dflt (exact rfl)) (by k_dflt (exact rfl)) ?_ | refine code_defCO (by exact rfl) (by exact rfl) (by first | exact rfl | assumption) (by k_asm) (by k_asm) (by k_asm) (by k_asm) (by k_asm) (by k_is) (by k_is) (by ktr_room) (by first | exact BindsTo.of_eq rfl | exact binds_K (by k_in) rfl (by k_is) rfl rfl rfl) (by exact rfl) (by decide +kernel) (by exact rfl) (by exact rfl) (by exact rfl) ?_); k_whole; intro g' L' h' tk' cells' FG' F' N' Y' B' X' T' l1; (try k_lt l1); k_cells Y'; (try simp only [List.cons_append, List.nil_append] at N'); (try dsimp only); (try k_lift B'); (try k_fold)))))))
  (k_with "execs cons" => (k_here; (with_reducible (refine gen_toks ?_)); intro tk))
  (k_with "execs nil" => (k_here; (with_reducible (refine gen_toks ?_)); intro tk))
  (k_with "call builtin:list.append" => (k_here; k_dflt ((first | with_reducible refine app_K (by k_dflt (k_asm)) (by k_dflt (k_asm)) (by k_dflt (k_updF)) (by k_dflt ((simp only [List.length_append, List.length_cons, List.length_nil]; omega))) ?_ | refine app_K (by k_asm) (by k_asm) (by k_updF) (by (simp only [List.length_append, List.length_cons, List.length_nil]; omega)) ?_)); intro h' F' N'; (try dsimp only at N'); (try dsimp only)))
  (k_with "call ref" => (k_here; k_dflt (((with_reducible show wpAny _ _ (call (Value.ref 85) _) _ _ _); first | with_reducible refine abe (by k_dflt (k_asm)) (by k_dflt (k_asm)) (by k_dflt (k_asm)) (by k_dflt (k_asm)) (by k_dflt (k_asm)) (by k_dflt (first | exact rfl | assumption)) (by k_dflt (ktr_room)) (by k_dflt (ktr_units)) (by k_dflt (assumption)) (by k_dflt (omega)) (by k_dflt (omega)) (by k_dflt (omega)) (by k_dflt (omega)) ?_ | refine abe (by k_asm) (by k_asm) (by k_asm) (by k_asm) (by k_asm) (by first | exact rfl | assumption) (by ktr_room) (by ktr_units) (by assumption) (by omega) (by omega) (by omega) (by omega) ?_); k_whole); intro t9 h9 tk9 F9 N9; (try dsimp only); (try k_fold)))
  (k_with "LeaveK" => ((try ((rename RestIn _ _ _ _ => rI); (rename Fr _ _ _ _ => lF'); (have rJ := RestIn.keeps rI lF'); (try ((rename News _ _ _ _ => lN'); (have rK := RestIn.apart rI lN'))))); (k_dflt ((first | with_reducible refine leaveK_ (by k_dflt (k_asm)) (by k_dflt (k_asm)) ?_ | refine leaveK_ (by k_asm) (by k_asm) ?_); k_whole); intro kF kN; ground_anew kF; (have kX := kFor kF (by k_asm)); (try dsimp only [InitBack, CmpBack, LenBack, StrBack, BoolBack]); (try refine ⟨rfl, ?_⟩); (try dsimp only [CmpBack, LenBack, StrBack, BoolBack]); (try (refine ⟨⟨by omega, by omega⟩, ?_⟩)); (try (refine handed_on rfl ?_; try dsimp only)))))
  (k_with "setAttr ref" => (k_here; k_dflt ((first | with_reducible refine exc_set (K := Mine.hd.heap_1 _) (by k_dflt (k_asm)) (by k_dflt (k_asm)) (by k_dflt (k_asm)) (by k_dflt ((intro p hp; first | exact nomatch hp))) (by k_dflt (k_is)) (by k_dflt (k_is)) (by k_dflt ((intro self; exact PySem.F.store_Exception.passes self))) (by k_dflt (decide)) (by k_dflt (decide)) (by k_dflt (exact rfl)) (by k_dflt (k_is)) ?_ | refine exc_set (K := Mine.hd.heap_1 _) (by k_asm) (by k_asm) (by k_asm) (by (intro p hp; first | exact nomatch hp)) (by k_is) (by k_is) (by (intro self; exact PySem.F.store_Exception.passes self)) (by decide) (by decide) (by exact rfl) (by k_is) ?_); intro h' D oD tk F' N' hpD hDe); (try dsimp only)))
  (k_with "call ref" => (k_here; k_dflt (((with_reducible show wpAny _ _ (call (Value.ref 64) _) _ _ _); first | with_reducible refine badpack (by k_dflt (k_asm)) (by k_dflt (k_asm)) (by k_dflt (k_asm)) (by k_dflt (k_asm)) (by k_dflt (first | exact rfl | assumption)) (by k_dflt (ktr_room)) (by k_dflt (ktr_units)) (by k_dflt (k_asm)) ?_ | refine badpack (by k_asm) (by k_asm) (by k_asm) (by k_asm) (by first | exact rfl | assumption) (by ktr_room) (by ktr_units) (by k_asm) ?_); k_whole); intro e9 t9 d9 o9 h9 tk9 F9 N9; (try dsimp only); (try k_fold)))
  (k_with "exec Raise some none" => (k_here; k_dflt ((first | with_reducible refine Raise_x (K := Mine.hd.heap_1 _) (C := 64) (by k_dflt (k_asm)) (by k_dflt (k_is)) (by k_dflt (decide)) (by k_dflt (first | exact rfl | assumption)) ?_ | refine Raise_x (K := Mine.hd.heap_1 _) (C := 64) (by k_asm) (by k_is) (by decide) (by first | exact rfl | assumption) ?_); k_whole)))
  (k_with "RaisableX" => (k_here; k_dflt ((first | with_reducible refine raisable_x (by k_dflt (k_asm)) (by k_dflt (k_asm)) ?_ | refine raisable_x (by k_asm) (by k_asm) ?_); k_whole)))
  (k_with "leaving ref" => (k_here; k_dflt ((first | with_reducible refine leave_X (by k_dflt (assumption)) (by k_dflt (k_asm)) (by k_dflt (k_asm)) ?_ (by k_dflt (exact rfl)) | refine leave_X (by assumption) (by k_asm) (by k_asm) ?_ (by exact rfl)); k_whole); intro h' R' U'; (try dsimp only at R' U' ⊢)))
  (k_with "binaryOp Mult ref int" => (k_here; (with_reducible show wpAny _ _ (binaryOp Operator.Mult (Value.ref _) (Value.int _ _)) _ _ _); k_dflt ((first | with_reducible refine zeros_K (by k_dflt (k_asm)) (by k_dflt (k_asm)) (by k_dflt (k_mem)) ?_ | refine zeros_K (by k_asm) (by k_asm) (by k_mem) ?_)); intro D' h' ws' F' N' l1 i1; (try k_lt l1)))
  (k_with "subscriptTail" => (k_here; (with_reducible show wpAny _ _ (subscriptTail _ _ (Value.bytes _ _) (Value.int 0 _)) _ _ _); k_dflt ((first | with_reducible refine oid0 ?_ | refine oid0 ?_)); intro _ _))
  (k_with "getItem ref int" => (k_here; k_dflt ((first | with_reducible refine cnt_item (by k_dflt (k_asm)) (by k_dflt (k_mem)) (by k_dflt (assumption)) ?_ | refine cnt_item (by k_asm) (by k_mem) (by assumption) ?_)); intro _))
  (k_with "setItem ref int" => (k_here; k_dflt ((first | with_reducible refine cnt_store (by k_dflt (k_asm)) (by k_dflt (k_asm)) (by k_dflt (k_updF)) (by k_dflt (assumption)) ?_ | refine cnt_store (by k_asm) (by k_asm) (by k_updF) (by assumption) ?_)); intro h' ws' F' N' hi'; (try dsimp only at N')))
  (k_with "subscriptTail Name Name ref int" => (k_here; k_dflt (first | ((first | with_reducible refine cnt_sub (by k_dflt (k_asm)) (by k_dflt (k_mem)) (by k_dflt (assumption)) (by k_dflt (omega)) (by k_dflt (omega)) ?_ | refine cnt_sub (by k_asm) (by k_mem) (by assumption) (by omega) (by omega) ?_); intro t9 x9 f9) | ((first | with_reducible refine fan_sub (by k_dflt (k_asm)) (by k_dflt (k_mem)) (by k_dflt (assumption)) (by k_dflt (omega)) (by k_dflt (omega)) ?_ | refine fan_sub (by k_asm) (by k_mem) (by assumption) (by omega) (by omega) ?_); intro t9 x9 f9))))
  trivial
def p4 (ks : List Int) (at_ : Int) (k : Nat) : Int := beV (List.take (Int.toNat 4) (List.drop (at_ + 4 * (0 + (k : Int))).toNat ks))
def q8 (ks : List Int) (ga p : Int) : Int := beV (List.take (Int.toNat 8) (List.drop (ga + 8 * (p - 2147483648)).toNat ks))
def placeOf (ks : List Int) (at_ ga gm : Int) (k : Nat) : Option Int :=
  if 2147483648 ≤ p4 ks at_ k then (if gm ≤ p4 ks at_ k - 2147483648 then none else if 9223372036854775807 < q8 ks ga (p4 ks at_ k) then none else some (q8 ks ga (p4 ks at_ k))) else some (p4 ks at_ k)
section
variable {ks : List Int} {at_ ga gm : Int} {k : Nat}
theorem placeOf_small (h : ¬ 2147483648 ≤ p4 ks at_ k) : placeOf ks at_ ga gm k = some (p4 ks at_ k) := by unfold placeOf; rw [if_neg h]
theorem placeOf_great (h : 2147483648 ≤ p4 ks at_ k) (h1 : ¬ gm ≤ p4 ks at_ k - 2147483648) (h2 : ¬ 9223372036854775807 < q8 ks ga (p4 ks at_ k)) : placeOf ks at_ ga gm k = some (q8 ks ga (p4 ks at_ k)) := by
  unfold placeOf; rw [if_pos h, if_neg h1, if_neg h2]
theorem placeOf_bad1 (h : 2147483648 ≤ p4 ks at_ k) (h1 : gm ≤ p4 ks at_ k - 2147483648) : placeOf ks at_ ga gm k = none := by unfold placeOf; rw [if_pos h, if_pos h1]
theorem placeOf_bad2 (h : 2147483648 ≤ p4 ks at_ k) (h2 : 9223372036854775807 < q8 ks ga (p4 ks at_ k)) : placeOf ks at_ ga gm k = none := by
  unfold placeOf; rw [if_pos h, if_pos h2]; split <;> rfl
end
theorem p4_of {ks : List Int} {at_ : Int} {k : Nat} : p4 ks at_ k = beV (List.take (Int.toNat 4) (List.drop (at_ + 4 * (k : Int)).toNat ks)) := by unfold p4; rw [Int.zero_add]
theorem wordsSPlcc : True := by
  (k_with "exec For Name Call cons nil" => (k_here; (with_reducible show wpAny _ _ (exec (Stmt.For _ _ _ _ _) _) _ _ _); k_dflt ((first | with_reducible refine For_R ?_ (fun _ => rfl) | refine For_R ?_ (fun _ => rfl)))))
  trivial

theorem wordsSPlcd : True := by
  (k_with "pyIter ref" => ((with_reducible show wpAny _ _ (pyIter _) _ _ _); refine hold ?_))
  trivial

theorem wordsSPlce : True := by
  (k_with "call type:range" => (k_here; k_dflt ((first | with_reducible refine range1_rows (by k_dflt (k_asm)) (by k_dflt (k_asm)) ?_ | refine range1_rows (by k_asm) (by k_asm) ?_)); intro h9 tk9 t9 u9 v9 hr9 F9 N9 _))
  trivial

theorem wordsSPlcf : True := by
  (k_with "call builtin:list.append" => (k_here; k_dflt ((first | with_reducible refine app_K (by k_dflt (k_asm)) (by k_dflt (k_asm)) (by k_dflt (k_updF)) (by k_dflt (omega)) ?_ | refine app_K (by k_asm) (by k_asm) (by k_updF) (by omega) ?_)); intro h' F' N'; (try dsimp only at N'); (try dsimp only)))
  trivial

section
variable {w : World} {p : Program} {loose : List Str} {mean : ExcName → Option Value} {mg mb : Str → Option Value}
  {dp un : Nat} {gd : Option (List Code)} {cn : Str} {cs : Scope} {a : Addr} {ccd : Value} {cl : List (Str × Addr)} {outer : List Env} {A₀ : Around} {base h₀ : Heap} {L : Addr} {m : Str → Option Value} {s : Shared} {Q E : Value → Shared → Prop}

theorem plc {news : List (Addr × Obj)} {oct : Array UInt8} {ks : List Int} {tO ta tb tc td: Tok} {at_ n ga gm : Int}
    (B : Below A₀ base outer h₀) (F : Fr h₀ L s.heap m) (X : (hd.heap_1 w.params).In h₀) (T : Top p loose mean mg mb h₀) (hk : cs.kind = .function)
    (hd : dp + 12 < recursionLimit) (hu : un + 300 < cLine)
    (NR : News h₀ L s.heap news) (hb : KBw.bInts oct = ks) (h3 : ks.length ≤ 100000) (h4 : at_ + 4 * n ≤ ks.length) (h5 : 0 ≤ at_) (h6 : 1 ≤ n) (h7 : n ≤ 3) (h8 : 0 ≤ ga) (h9 : 0 ≤ gm) (h10 : ga + 8 * gm ≤ ks.length)
    (ret : ∀ (D : Addr) (vs : List Value) (xs : List Int) (nn : Nat) (h' : Heap) (tk' : Nat), Fr h₀ L h' m → News h₀ L h' ((D, listOf vs.toArray nn) :: news) → IntsAre vs xs → (List.range n.toNat).map (placeOf ks at_ ga gm) = xs.map some → (∀ p ∈ news, p.1 ≠ D) → Q (.ref D) { s with heap := h', toks := tk' })
    (retE : ∀ (e t : Addr) (vs : List Value) (k : Nat) (g h' : Heap) (tk' : Nat), Fr h₀ L g m → RaisedS base g (envX cn cs L a ccd cl :: outer) e (.ref 64) t vs [] h' → g.UpToSlots h' → k < n.toNat → placeOf ks at_ ga gm k = none → E (.ref e) { s with heap := h', toks := tk' }) :
    wpAny (model PySem.Challenge.rw_nt0280_01.row.prog w) (ktrTop dp un gd cn cs L a ccd cl outer) (call (.ref 161) [.bytes oct tO, .int at_ ta, .int n tb, .int ga tc, .int gm td]) Q E s := by
  revert X; k_fill; intro X
  refine wpAny_call ?_
  have N : News h₀ L s.heap [] := News.nil
  have hx : Apart [] news := Apart.nil
  k_dflt (first   | (refine' code_defR ?k1 ?k2 ?k3 N NR hx ?k5 ?kA ?kF ?kK ?k6 ?k7 ?k8 ?k9 ?kB ?_ ?c2 ?c3 ?c4 ?c5; (case kA => exact rfl); (case kF => exact rfl); (case kK => first | exact rfl | assumption); (case k1 => k_asm); (case k2 => k_asm); (case k3 => k_asm); (case k5 => k_asm); (case k6 => k_is); (case k7 => k_is); (case k8 => ktr_room); (case k9 => first | exact BindsTo.of_eq rfl | exact binds_K (by k_in) rfl (by k_is) rfl rfl rfl); (case c5 => decide); (case kB => exact locs rfl); (case c2 => exact rfl); (case c3 => exact rfl); (case c4 => exact rfl); k_whole; clear N NR hx; intro g' L' h' FG' F' N' B' X' T' R' l1; (try k_lt l1); (try dsimp only); (try k_lift B'); (try k_fold))   | (refine' code_defCR ?k1 ?k2 ?k3 N NR hx ?k5 ?kA ?kF ?kK ?k6 ?k7 ?k8 ?k9 ?kB ?kD ?_ ?c2 ?c3 ?c4; (case kA => exact rfl); (case kF => exact rfl); (case kK => first | exact rfl | assumption); (case k1 => k_asm); (case k2 => k_asm); (case k3 => k_asm); (case k5 => k_asm); (case k6 => k_is); (case k7 => k_is); (case k8 => ktr_room); (case k9 => first | exact BindsTo.of_eq rfl | exact binds_K (by k_in) rfl (by k_is) rfl rfl rfl); (case kB => exact rfl); (case kD => decide +kernel); (case c2 => exact rfl); (case c3 => exact rfl); (case c4 => exact rfl); k_whole; clear N NR hx; intro g' L' h' tk' cells' FG' F' N' Y' B' X' T' R' l1; (try k_lt l1); k_cells Y'; (try simp only [List.cons_append, List.nil_append] at N'); (try dsimp only); (try k_lift B'); (try k_fold)))
  w_strict (repeat' (first | (k_unfold; (try dsimp only)) | walk1 | (dsimp only; walk1) | (leave1; try dsimp only) | (dsimp only; k_unfold; (try dsimp only)) | fail "no step"))
  unfold Hold
  refine iter_plc (Str.ofString "k") (Str.ofString "place") (placeOf ks at_ ga gm) (by passes_own) rfl (by assumption) (Int.toNat_of_nonneg (by omega)).symm (by omega) (by k_asm) (by k_asm) rfl ?_ ?_
  · intro i t u1 u2 I oI vs nn xs h₁ tk₁ hi hi' hl hp' hne F1 N1
    (try dsimp only [Mid2] at F1)
    w_strict (repeat' (first | (k_unfold; (try dsimp only)) | walk1 | (dsimp only; walk1) | (leave1; try dsimp only) | (dsimp only; k_unfold; (try dsimp only)) | fail "no step"))
    · exact retE _ _ _ i _ _ _ (by assumption) (by assumption) (by assumption) (by omega) (placeOf_bad1 (by rw [p4_of]; assumption) (by rw [p4_of]; assumption))
    · exact retE _ _ _ i _ _ _ (by assumption) (by assumption) (by assumption) (by omega) (placeOf_bad2 (by rw [p4_of]; assumption) (by unfold q8; rw [p4_of]; assumption))
    · refine' TurnPl.intro ?aF ?aN ?aI ?aP ?aX ?aM
      case aI => exact hi'
      case aP => exact hp'
      case aF => k_asm
      case aN => exact cb_drop (by k_asm) (by kcf_all)
      case aX => exact (placeOf_great (by rw [p4_of]; assumption) (by rw [p4_of]; assumption) (by unfold q8; rw [p4_of]; assumption)).trans (congrArg some (by unfold q8; rw [p4_of]))
      case aM => intro y h1 h2; simp only [Mid2, if_neg h1, if_neg h2]
    · refine' TurnPl.intro ?bF ?bN ?bI ?bP ?bX ?bM
      case bI => exact hi'
      case bP => exact hp'
      case bF => k_asm
      case bN => exact cb_drop (by k_asm) (by kcf_all)
      case bX => exact (placeOf_small (by rw [p4_of]; assumption)).trans (congrArg some p4_of)
      case bM => intro y h1 h2; simp only [Mid2, if_neg h1, if_neg h2]
  · intro h' tk u1 u2 vs nn xs hi' hp' F1 N1
    (try dsimp only [Mid2] at F1)
    w_strict (repeat' (first | (k_unfold; (try dsimp only)) | walk1 | (dsimp only; walk1) | (leave1; try dsimp only) | (dsimp only; k_unfold; (try dsimp only)) | fail "no step"))
    exact ret _ _ _ _ _ _ (by k_asm) ((by assumption : RestIn _ _ _ _).with (by k_asm)) hi' hp' (Apart.one (by assumption))
end

end

section
theorem wordsSChkb : True := by
  w_top off
  k_with_none
  (k_with "exec For Name Subscript cons nil" => (k_here; (rename Fr _ _ _ _ => lF'); (with_unfolding_all refine For_invVF lF' (by exact rfl) (by exact rfl) ?_; k_whole)))
  (k_with "call ref" => (k_here; k_dflt (first | (refine call_meth (by k_asm) (by k_mem) ?_; k_whole; (first | ((first | with_reducible refine code_defO (by k_dflt (exact rfl)) (by k_dflt (exact rfl)) (by k_dflt (first | exact rfl | assumption)) (by k_dflt (k_asm)) (by k_dflt (k_asm)) (by k_dflt (k_asm)) (by k_dflt (k_asm)) (by k_dflt (k_asm)) (by k_dflt (k_is)) (by k_dflt (k_is)) (by k_dflt (ktr_room)) (by k_dflt (first | exact BindsTo.of_eq rfl | exact binds_K (by k_in) rfl (by k_is) rfl rfl rfl)) (by k_dflt (decide)) (by k_dflt (exact locs rfl)) (by k_dflt (exact rfl)) (by k_dflt (exact rfl)) (by k_dflt (exact rfl)) ?_ | refine code_defO (by exact rfl) (by exact rfl) (by first | exact rfl | assumption) (by k_asm) (by k_asm) (by k_asm) (by k_asm) (by k_asm) (by k_is) (by k_is) (by ktr_room) (by first | exact BindsTo.of_eq rfl | exact binds_K (by k_in) rfl (by k_is) rfl rfl rfl) (by decide) (by exact locs rfl) (by exact rfl) (by exact rfl) (by exact rfl) ?_); k_whole; intro g' L' h' FG' F' N' B' X' T'; (try dsimp only); (try k_lift B'); (try k_fold)) | ((first | with_reducible refine code_defCO (by k_dflt (exact rfl)) (by k_dflt (exact rfl)) (by k_dflt (first | exact rfl | assumption)) (by k_dflt (k_asm)) (by k_dflt (k_asm)) (by k_dflt (k_asm)) (by k_dflt (k_asm)) (by k_dflt (k_asm)) (by k_dflt (k_is)) (by k_dflt (k_is)) (by k_dflt (ktr_room)) (by k_dflt (first | exact BindsTo.of_eq rfl | exact binds_K (by k_in) rfl (by k_is) rfl rfl rfl)) (by k_dflt (exact rfl)) (by k_dflt (decide +kernel)) (by k_dflt (exact rfl)) (by k_dflt (exact rfl)) (by k_dflt (exact rfl)) ?_ | refine code_defCO (by exact rfl) (by exact rfl) (by first | exact rfl | assumption) (by k_asm) (by k_asm) (by k_asm) (by k_asm) (by k_asm) (by k_is) (by k_is) (by ktr_room) (by first | exact BindsTo.of_eq rfl | exact binds_K (by k_in) rfl (by k_is) rfl rfl rfl) (by exact rfl) (by decide +kernel) (by exact rfl) (by exact rfl) (by exact rfl) ?_); k_whole; intro g' L' h' tk' cells' FG' F' N' Y' B' X' T' l1; (try k_lt l1); k_cells Y'; (try simp only [List.cons_append, List.nil_append] at N'); (try dsimp only); (try k_lift B'); (try k_fold)))) | ((first | with_reducible refine call_cls (by k_dflt (k_asm)) (by k_dflt (k_asm)) (by k_dflt (k_asm)) (by k_dflt (k_is)) (by k_dflt (k_is)) (by k_dflt (k_is)) ?_ | refine call_cls (by k_asm) (by k_asm) (by k_asm) (by k_is) (by k_is) (by k_is) ?_); k_whole; intro x' d' h' F' N' l1 l2; (try k_lt l1); (try k_lt2 l2); (try k_sweep); (first | ((first | with_reducible refine code_defO (by k_dflt (exact rfl)) (by k_dflt (exact rfl)) (by k_dflt (first | exact rfl | assumption)) (by k_dflt (k_asm)) (by k_dflt (k_asm)) (by k_dflt (k_asm)) (by k_dflt (k_asm)) (by k_dflt (k_asm)) (by k_dflt (k_is)) (by k_dflt (k_is)) (by k_dflt (ktr_room)) (by k_dflt (first | exact BindsTo.of_eq rfl | exact binds_K (by k_in) rfl (by k_is) rfl rfl rfl)) (by k_dflt (decide)) (by k_dflt (exact locs rfl)) (by k_dflt (exact rfl)) (by k_dflt (exact rfl)) (by k_dflt (exact rfl)) ?_ | refine code_defO (by exact rfl) (by exact rfl) (by first | exact rfl | assumption) (by k_asm) (by k_asm) (by k_asm) (by k_asm) (by k_asm) (by k_is) (by k_is) (by ktr_room) (by first | exact BindsTo.of_eq rfl | exact binds_K (by k_in) rfl (by k_is) rfl rfl rfl) (by decide) (by exact locs rfl) (by exact rfl) (by exact rfl) (by exact rfl) ?_); k_whole; intro g' L' h' FG' F' N' B' X' T'; (try dsimp only); (try k_lift B'); (try k_fold)) | ((first | with_reducible refine code_defCO (by k_dflt (exact rfl)) (by k_dflt (exact rfl)) (by k_dflt (first | exact rfl | assumption)) (by k_dflt (k_asm)) (by k_dflt (k_asm)) (by k_dflt (k_asm)) (by k_dflt (k_asm)) (by k_dflt (k_asm)) (by k_dflt (k_is)) (by k_dflt (k_is)) (by k_dflt (ktr_room)) (by k_dflt (first | exact BindsTo.of_eq rfl | exact binds_K (by k_in) rfl (by k_is) rfl rfl rfl)) (by k_dflt (exact rfl)) (by k_dflt (decide +kernel)) (by k_dflt (exact rfl)) (by k_dflt (exact rfl)) (by k_dflt (exact rfl)) ?_ | refine code_defCO (by exact rfl) (by exact rfl) (by first | exact rfl | assumption) (by k_asm) (by k_asm) (by k_asm) (by k_asm) (by k_asm) (by k_is) (by k_is) (by ktr_room) (by first | exact BindsTo.of_eq rfl | exact binds_K (by k_in) rfl (by k_is) rfl rfl rfl) (by exact rfl) (by decide +kernel) (by exact rfl) (by exact rfl) (by exact rfl) ?_); k_whole; intro g' L' h' tk' cells' FG' F' N' Y' B' X' T' l1; (try k_lt l1); k_cells Y'; (try simp only [List.cons_append, List.nil_append] at N'); (try dsimp only); (try k_lift B'); (try k_fold)))) | ((first | with_reducible refine wpAny_call ?_ | refine wpAny_call ?_); (first | ((first | with_reducible refine code_defO (by k_dflt (exact rfl)) (by k_dflt (exact rfl)) (by k_dflt (first | exact rfl | assumption)) (by k_dflt (k_asm)) (by k_dflt (k_asm)) (by k_dflt (k_asm)) (by k_dflt (k_asm)) (by k_dflt (k_asm)) (by k_dflt (k_is)) (by k_dflt (k_is)) (by k_dflt (ktr_room)) (by k_dflt (first | exact BindsTo.of_eq rfl | exact binds_K (by k_in) rfl (by k_is) rfl rfl rfl)) (by k_dflt (decide)) (by k_dflt (exact locs rfl)) (by k_dflt (exact rfl)) (by k_dflt (exact rfl)) (by k_dflt (exact rfl)) ?_ | refine code_defO (by exact rfl) (by exact rfl) (by first | exact rfl | assumption) (by k_asm) (by k_asm) (by k_asm) (by k_asm) (by k_asm) (by k_is) (by k_is) (by ktr_room) (by first | exact BindsTo.of_eq rfl | exact binds_K (by k_in) rfl (by k_is) rfl rfl rfl) (by decide) (by exact locs rfl) (by exact rfl) (by exact rfl) (by exact rfl) ?_); k_whole; intro g' L' h' FG' F' N' B' X' T'; (try dsimp only); (try k_lift B'); (try k_fold)) | ((first | with_reducible refine code_defCO (by k_dflt (exact rfl)) (by k_dflt (exact rfl)) (by k_dflt (first | exact rfl | assumption)) (by k_dflt (k_asm)) (by k_dflt (k_asm)) (by k_dflt (k_asm)) (by k_dflt (k_asm)) (by k_dflt (k_asm)) (by k_dflt (k_is)) (by k_dflt (k_is)) (by k_dflt (ktr_room)) (by k_dflt (first | exact BindsTo.of_eq rfl | exact binds_K (by k_in) rfl (by k_is) rfl rfl rfl)) (by k_dflt (exact rfl)) (by k_dflt (decide +kernel)) (by k_dflt (exact rfl)) (by k_dflt (exact rfl)) (by k_dflt (exact rfl)) ?_ | refine code_defCO (by exact rfl) (by exact rfl) (by first | exact rfl | assumption) (by k_asm) (by k_asm) (by k_asm) (by k_asm) (by k_asm) (by k_is) (by k_is) (by ktr_room) (by first | exact BindsTo.of_eq rfl | exact binds_K (by k_in) rfl (by k_is) rfl rfl rfl) (by exact rfl) (by decide +kernel) (by exact rfl) (by exact rfl) (by exact rfl) ?_); k_whole; intro g' L' h' tk' cells' FG' F' N' Y' B' X' T' l1; (try k_lt l1); k_cells Y'; (try simp only [List.cons_append, List.nil_append] at N'); (try dsimp only); (try k_lift B'); (try k_fold)))))))
  (k_with "execs cons" => (k_here; (with_reducible (refine gen_toks ?_)); intro tk))
  (k_with "execs nil" => (k_here; (with_reducible (refine gen_toks ?_)); intro tk))
  (k_with "call builtin:list.append" => (k_here; k_dflt ((first | with_reducible refine app_K (by k_dflt (k_asm)) (by k_dflt (k_asm)) (by k_dflt (k_updF)) (by k_dflt ((simp only [List.length_append, List.length_cons, List.length_nil]; omega))) ?_ | refine app_K (by k_asm) (by k_asm) (by k_updF) (by (simp only [List.length_append, List.length_cons, List.length_nil]; omega)) ?_)); intro h' F' N'; (try dsimp only at N'); (try dsimp only)))
  (k_with "call ref" => (k_here; k_dflt (((with_reducible show wpAny _ _ (call (Value.ref 85) _) _ _ _); first | with_reducible refine abe (by k_dflt (k_asm)) (by k_dflt (k_asm)) (by k_dflt (k_asm)) (by k_dflt (k_asm)) (by k_dflt (k_asm)) (by k_dflt (first | exact rfl | assumption)) (by k_dflt (ktr_room)) (by k_dflt (ktr_units)) (by k_dflt (assumption)) (by k_dflt (omega)) (by k_dflt (omega)) (by k_dflt (omega)) (by k_dflt (omega)) ?_ | refine abe (by k_asm) (by k_asm) (by k_asm) (by k_asm) (by k_asm) (by first | exact rfl | assumption) (by ktr_room) (by ktr_units) (by assumption) (by omega) (by omega) (by omega) (by omega) ?_); k_whole); intro t9 h9 tk9 F9 N9; (try dsimp only); (try k_fold)))
  (k_with "compareOp Lt bytes bytes" => refine lt_bytes ?_)
  (k_with "compareOp LtE bytes bytes" => refine le_bytes ?_)
  (k_with "LeaveK" => ((try ((rename RestIn _ _ _ _ => rI); (rename Fr _ _ _ _ => lF'); (have rJ := RestIn.keeps rI lF'); (try ((rename News _ _ _ _ => lN'); (have rK := RestIn.apart rI lN'))))); (k_dflt ((first | with_reducible refine leaveK_ (by k_dflt (k_asm)) (by k_dflt (k_asm)) ?_ | refine leaveK_ (by k_asm) (by k_asm) ?_); k_whole); intro kF kN; ground_anew kF; (have kX := kFor kF (by k_asm)); (try dsimp only [InitBack, CmpBack, LenBack, StrBack, BoolBack]); (try refine ⟨rfl, ?_⟩); (try dsimp only [CmpBack, LenBack, StrBack, BoolBack]); (try (refine ⟨⟨by omega, by omega⟩, ?_⟩)); (try (refine handed_on rfl ?_; try dsimp only)))))
  (k_with "binaryOp Mult ref int" => (k_here; (with_reducible show wpAny _ _ (binaryOp Operator.Mult (Value.ref _) (Value.int _ _)) _ _ _); k_dflt ((first | with_reducible refine zeros_K (by k_dflt (k_asm)) (by k_dflt (k_asm)) (by k_dflt (k_mem)) ?_ | refine zeros_K (by k_asm) (by k_asm) (by k_mem) ?_)); intro D' h' ws' F' N' l1 i1; (try k_lt l1)))
  (k_with "subscriptTail" => (k_here; (with_reducible show wpAny _ _ (subscriptTail _ _ (Value.bytes _ _) (Value.int 0 _)) _ _ _); k_dflt ((first | with_reducible refine oid0 ?_ | refine oid0 ?_)); intro _ _))
  (k_with "getItem ref int" => (k_here; k_dflt ((first | with_reducible refine cnt_item (by k_dflt (k_asm)) (by k_dflt (k_mem)) (by k_dflt (assumption)) ?_ | refine cnt_item (by k_asm) (by k_mem) (by assumption) ?_)); intro _))
  (k_with "setItem ref int" => (k_here; k_dflt ((first | with_reducible refine cnt_store (by k_dflt (k_asm)) (by k_dflt (k_asm)) (by k_dflt (k_updF)) (by k_dflt (assumption)) ?_ | refine cnt_store (by k_asm) (by k_asm) (by k_updF) (by assumption) ?_)); intro h' ws' F' N' hi'; (try dsimp only at N')))
  (k_with "subscriptTail Name Name ref int" => (k_here; k_dflt (first | ((first | with_reducible refine cnt_sub (by k_dflt (k_asm)) (by k_dflt (k_mem)) (by k_dflt (assumption)) (by k_dflt (omega)) (by k_dflt (omega)) ?_ | refine cnt_sub (by k_asm) (by k_mem) (by assumption) (by omega) (by omega) ?_); intro t9 x9 f9) | ((first | with_reducible refine fan_sub (by k_dflt (k_asm)) (by k_dflt (k_mem)) (by k_dflt (assumption)) (by k_dflt (omega)) (by k_dflt (omega)) ?_ | refine fan_sub (by k_asm) (by k_mem) (by assumption) (by omega) (by omega) ?_); intro t9 x9 f9))))
  trivial
def IdsAt (ks : List Int) (at_ n : Int) : Prop := ∀ k : Nat, (k : Int) < n → (ks.drop (at_ + 4 * (k : Int)).toNat).take 4 = [1, 0, 0, (k : Int)]
def IdsV (n : Int) (vI : List Value) : Prop := ∀ j : Nat, (j : Int) < n → ∃ b t, vI[j]? = some (.bytes b t) ∧ KBw.bInts b = [1, 0, 0, (j : Int)]
theorem RelL.at {Rel : Int → Value → Prop} : ∀ {ks : List Int} {vs : List Value} (j : Nat) {k : Int}, RelL Rel ks vs → ks[j]? = some k → ∃ v, vs[j]? = some v ∧ Rel k v
  | _, _, 0, _, .cons a _, h => ⟨_, rfl, Option.some.inj h ▸ a⟩
  | _, _, j + 1, _, .cons _ r, h => RelL.at j r h
theorem idsV_of {ks : List Int} {n at_ : Int} {vI : List Value} (hn : 0 ≤ n) (R : RelL (IdRel ks at_) (rangeKs 0 n.toNat) vI) (hids : IdsAt ks at_ n) : IdsV n vI := by
  intro j hj
  have e : (rangeKs 0 n.toNat)[j]? = some (j : Int) := by
    simp only [rangeKs, List.getElem?_map]
    rw [List.getElem?_range (by omega)]
    show some (0 + (j : Int)) = _
    rw [Int.zero_add]
  obtain ⟨v, hv, b, t, rfl, hb⟩ := R.at j e
  exact ⟨b, t, hv, hb.trans (hids j hj)⟩
theorem idb {b : Array UInt8} {x : Int} (hb : KBw.bInts b = [1, 0, 0, x]) (h0 : 0 ≤ x) (h3 : x < 3) : (b = #[1, 0, 0, 0] ∧ x = 0) ∨ (b = #[1, 0, 0, 1] ∧ x = 1) ∨ (b = #[1, 0, 0, 2] ∧ x = 2) := by
  rcases (by omega : x = 0 ∨ x = 1 ∨ x = 2) with rfl | rfl | rfl
  · exact .inl ⟨bInts_inj (hb.trans (by decide)), rfl⟩
  · exact .inr (.inl ⟨bInts_inj (hb.trans (by decide)), rfl⟩)
  · exact .inr (.inr ⟨bInts_inj (hb.trans (by decide)), rfl⟩)
theorem ord_id {b c : Array UInt8} {x y : Int} (hb : KBw.bInts b = [1, 0, 0, x]) (hc : KBw.bInts c = [1, 0, 0, y]) (h0 : 0 ≤ x) (h3 : x < 3) (g0 : 0 ≤ y) (g3 : y < 3) :
    (Builtin.Bytes.order b.toList c.toList == .lt) = decide (x < y) ∧ (Builtin.Bytes.order b.toList c.toList != .gt) = decide (x ≤ y) := by
  rcases idb hb h0 h3 with ⟨rfl, rfl⟩ | ⟨rfl, rfl⟩ | ⟨rfl, rfl⟩ <;> rcases idb hc g0 g3 with ⟨rfl, rfl⟩ | ⟨rfl, rfl⟩ | ⟨rfl, rfl⟩ <;> decide
section
variable {prog : Program} {w : World} {A : Around} {E : Value → Shared → Prop} {s : Shared} {h₀ : Heap} {L D : Addr} {news : List (Addr × Obj)} {vI : List Value} {b c : Array UInt8} {x y n g : Int} {t u : Tok} {value slice : PySem.Expr} {Q : Value → Shared → Prop}
theorem id_item (N : News h₀ L s.heap news) (hm : (D, LCg.lst vI) ∈ news) (hV : IdsV n vI) (h0 : 0 ≤ g) (h1 : g < n) (hn : n ≤ 3) (h : ∀ b t, KBw.bInts b = [1, 0, 0, g] → Q (.bytes b t) s)
    (hs : subscripted slice false (.ref D) (.int g u) = operate [.ref D, .int g u] (getItem (.ref D) (.int g u)) := by with_unfolding_all rfl) :
    wpAny (model prog w) A (subscriptTail value slice (.ref D) (.int g u)) Q E s := by
  obtain ⟨b, t, e, hb⟩ := hV g.toNat (by omega)
  have hg : (g.toNat : Int) = g := by omega
  rw [hg] at hb
  have hL : s.heap.IsList D vI.toArray := PySem.IsL.isList (N _ hm).1
  exact tail_any hL.typeIs slot_list_getitem.lookup (wpAny_getItem_list hL h0 (by omega) (by simpa using e) (h b t hb)) hs
theorem lt_id (hb : KBw.bInts b = [1, 0, 0, x]) (hc : KBw.bInts c = [1, 0, 0, y]) (h0 : 0 ≤ x) (h3 : x < 3) (g0 : 0 ≤ y) (g3 : y < 3) (h : Q (.bool (decide (x < y))) s) : wpAny (model prog w) A (compareOp .Lt (.bytes b t) (.bytes c u)) Q E s := by
  refine lt_bytes ?_
  rw [(ord_id hb hc h0 h3 g0 g3).1]; exact h
theorem le_id (hb : KBw.bInts b = [1, 0, 0, x]) (hc : KBw.bInts c = [1, 0, 0, y]) (h0 : 0 ≤ x) (h3 : x < 3) (g0 : 0 ≤ y) (g3 : y < 3) (h : Q (.bool (decide (x ≤ y))) s) : wpAny (model prog w) A (compareOp .LtE (.bytes b t) (.bytes c u)) Q E s := by
  refine le_bytes ?_
  rw [(ord_id hb hc h0 h3 g0 g3).2]; exact h
theorem oid_0 (hb : KBw.bInts b = [1, 0, 0, x]) (h : ∀ t' k, Q (.int 1 t') { s with toks := k })
    (hs : subscripted slice false (.bytes b t) (.int 0 u) = operate [.bytes b t, .int 0 u] (getItem (.bytes b t) (.int 0 u)) := by with_unfolding_all rfl)
    (ht : ∀ r, letTemporaryGo value (.bytes b t) r = pure () := by intro _; with_unfolding_all rfl) :
    wpAny (model prog w) A (subscriptTail value slice (.bytes b t) (.int 0 u)) Q E s :=
  KBw.item_K (ks := [1, 0, 0, x]) hb (by simp) (by decide) (by simp) (fun t' k _ _ => h t' k) hs ht
theorem len_ids (N : News h₀ L s.heap news) (hm : (D, LCg.lst vI) ∈ news) (hl : (vI.length : Int) = n) (hn : n ≤ 3) (h : ∀ t k, Q (.int n t) { s with toks := k }) : wpAny (model prog w) A (call (.builtin "len") [.ref D]) Q E s := by
  subst hl
  have hL : s.heap.IsList D vI.toArray := PySem.IsL.isList (N _ hm).1
  refine call_len_list hL (by rw [List.size_toArray]; omega) ?_
  rw [List.size_toArray]; exact h _ _
end
section
variable {prog : Program} {w : World} {A : Around} {E : Value → Shared → Prop} {s : Shared} {env : Env} {h₀ : Heap} {x : Str} {px : Pos} {body : List Stmt} {Q : Flow → Shared → Prop}
theorem loop_L {I : Addr} {fp : List Addr} {n : Nat} {P : Nat → Value → Prop} {St : Nat → Heap → Prop} {news0 : List (Addr × Obj)} {m₀ : Str → Option Value} (x1 x2 : Str) (J : Nat → List (Addr × Obj) → Prop)
    (W : Walks prog w A I fp [I] n P St) (hfp : ∀ b ∈ fp, b = I ∨ ∃ o, ∀ i nw, J i nw → (b, o) ∈ nw) (hLf : env.locals ∉ fp) (hI₀ : h₀.get? I = none) (hoff : ∀ i nw, J i nw → ∀ p ∈ nw, p.1 ≠ I)
    (hst : St 0 s.heap) (F : Fr h₀ env.locals s.heap m₀) (N : News h₀ env.locals s.heap news0) (h0 : J 0 news0) (hI : ∀ i h, St i h → ∃ o, h.get? I = some o)
    (turn : ∀ i v u1 u2 oI nw (s₁ : Shared), i < n → P i v → J i nw → (∀ p ∈ nw, p.1 ≠ I) → Fr h₀ env.locals s₁.heap (Mid2 m₀ x1 x2 u1 u2) → News h₀ env.locals s₁.heap ((I, oI) :: nw) →
      wpAny (model prog w) A (assign (.Name x px) env v) (fun _ s₃ => wpAny (model prog w) A (execs body env) (TurnL h₀ env.locals I oI (J (i + 1)) m₀ x1 x2 s₁) E s₃) E s₁)
    (done : ∀ h' tk u1 u2 nw, J n nw → Fr h₀ env.locals h' (Mid2 m₀ x1 x2 u1 u2) → News h₀ env.locals h' nw → Q .next { s with heap := h', toks := tk }) :
    LoopAtT prog w A h₀ env (.Name x px) body Q E (.ref I) s := by
  let J' : Nat → (Str → Option Value) → List (Addr × Obj) → Prop := fun i m₁ nw => J i nw ∧ ∃ u1 u2, m₁ = Mid2 m₀ x1 x2 u1 u2
  refine ⟨I, fp, [I], n, P, St, m₀, news0, J', rfl, W, hLf, ?_, ?_, hst, F, N, ?_, ⟨h0, m₀ x1, m₀ x2, mid2_of fun _ _ _ => rfl⟩, ?_, ?_⟩
  · intro b hb; rw [List.mem_singleton.mp hb]; exact hI₀
  · intro p hp hb; exact hoff 0 _ h0 p hp (List.mem_singleton.mp hb)
  · intro i s' v Q' _ hQ'
    show wpAny _ _ (pure ()) _ _ _
    exact wpAny_pure hQ'
  · rintro i v m₁ nw s₁ own hi hP ⟨hj, u1, u2, rfl⟩ hnw hsub hown hall hst₁ F₁ N₁
    obtain ⟨oI, heI⟩ := hI _ _ hst₁
    have hIo : (I, oI) ∈ own := hall _ (W.sub _ (List.mem_singleton.mpr rfl)) hI₀ oI heI
    refine wpAny_mono (turn i v u1 u2 oI nw s₁ hi hP hj (hoff i nw hj) F₁ fun p hp => ?_) (fun _ s₃ h₃ => wpAny_mono h₃ (fun f s₂ h₂ => ?_) fun _ _ e => e) fun _ _ e => e
    · rcases List.mem_cons.mp hp with e | hp
      · rw [e]; exact N₁ _ (List.mem_append_left _ hIo)
      · exact N₁ _ (List.mem_append_right _ hp)
    · obtain ⟨rfl, h', tk, m', news', rfl, F', N', hj', hm'⟩ := h₂
      refine ⟨rfl, h', tk, m', news', rfl, F', fun p hp => ?_, fun p hp hb => hoff _ _ hj' p hp (List.mem_singleton.mp hb), ⟨hj', m' x1, m' x2, mid2_of hm'⟩⟩
      rcases List.mem_append.mp hp with hp | hp
      · have hg := hown p hp
        rcases hfp p.1 (hsub p hp) with e | ⟨o9, h9⟩
        · rw [e, heI] at hg
          have : p = (I, oI) := Prod.ext e (Option.some.inj hg).symm
          rw [this]; exact N' _ (.head _)
        · have q := (N₁ _ (List.mem_append_right _ (h9 i nw hj))).1
          rw [q] at hg
          have : p = (p.1, o9) := Prod.ext rfl (Option.some.inj hg).symm
          rw [this]; exact N' _ (.tail _ (h9 _ _ hj'))
      · exact N' _ (.tail _ hp)
  · rintro h' tk m' nw F' N' _ ⟨hj, u1, u2, rfl⟩
    exact done h' tk u1 u2 nw hj F' N'
theorem iter_range1 {r : Addr} {n : Int} {t₁ t₂ t₃ : Tok} {news : List (Addr × Obj)} {m₀ : Str → Option Value} (x1 x2 : Str)
    (hh : A.handled = none) (hr : IsRange s.heap r 1 n 1 t₁ t₂ t₃) (hn1 : 1 ≤ n) (hn : n ≤ 1000) (F : Fr h₀ env.locals s.heap m₀) (N : News h₀ env.locals s.heap news)
    (turn : ∀ (k : Int) t u1 u2 I oI (s₁ : Shared), 1 ≤ k → k < n → AllNeB I news → Fr h₀ env.locals s₁.heap (Mid2 m₀ x1 x2 u1 u2) → News h₀ env.locals s₁.heap ((I, oI) :: news) →
      wpAny (model prog w) A (assign (.Name x px) env (.int k t)) (fun _ s₃ => wpAny (model prog w) A (execs body env) (TurnL h₀ env.locals I oI (fun nw => nw = news) m₀ x1 x2 s₁) E s₃) E s₁)
    (done : ∀ h' tk u1 u2, Fr h₀ env.locals h' (Mid2 m₀ x1 x2 u1 u2) → News h₀ env.locals h' news → Q .next { s with heap := h', toks := tk }) :
    wpAny (model prog w) A (pyIter (.ref r)) (fun it s₂ => LoopAtT prog w A h₀ env (.Name x px) body Q E it s₂) E s := by
  refine wpAny_pyIter_range hr (small_one (by omega) (by decide) (by omega) (by omega)) ?_
  refine loop_L x1 x2 (fun _ nw => nw = news) (LCg.range_walks hh 1 (n - 1).toNat) (fun b hb => .inl (List.mem_singleton.mp hb)) (fun hm' => absurd F.ns.lt ((List.mem_singleton.mp hm') ▸ Nat.lt_irrefl _)) (next_is_new F) ?_ ?_ (F.push _) (fun p hp => ⟨Heap.get?_push_of_some _ (N p hp).1, (N p hp).2⟩) rfl (fun i h st => ⟨_, st⟩) ?_ ?_
  · rintro i _ rfl p hp e
    have := Heap.lt_size (N p hp).1
    rw [e] at this
    exact Nat.lt_irrefl _ this
  · have e9 : Builtin.Range.rangeSize 1 n 1 = ((n - 1).toNat : Int) := rangeSize_nat 1 n
    show IsRangeIter _ _ _ _ _
    rw [e9]; simpa using Heap.get?_push_size _ rfl
  · rintro i v u1 u2 oI _ s₁ hi ⟨t, rfl⟩ rfl hoff F₁ N₁
    exact turn (1 + (i : Int)) t u1 u2 _ oI s₁ (by omega) (by omega) (allNeB_of hoff) F₁ N₁
  · rintro h' tk u1 u2 _ rfl F' N'
    exact done h' tk u1 u2 F' N'
theorem iter_vals {l : Addr} {vs : List Value} {news0 : List (Addr × Obj)} {m₀ : Str → Option Value} (x1 x2 : Str) (J : Nat → List (Addr × Obj) → Prop)
    (hh : A.handled = none) (hm : ∀ i nw, J i nw → (l, LCg.lst vs) ∈ nw) (hlt : ∀ i nw, J i nw → ∀ p ∈ nw, p.1 ∈ news0.map (·.1)) (F : Fr h₀ env.locals s.heap m₀) (N : News h₀ env.locals s.heap news0) (h0 : J 0 news0)
    (turn : ∀ i v u1 u2 I oI nw (s₁ : Shared), i < vs.length → vs[i]? = some v → J i nw → AllNeB I nw → Fr h₀ env.locals s₁.heap (Mid2 m₀ x1 x2 u1 u2) → News h₀ env.locals s₁.heap ((I, oI) :: nw) →
      wpAny (model prog w) A (assign (.Name x px) env v) (fun _ s₃ => wpAny (model prog w) A (execs body env) (TurnL h₀ env.locals I oI (J (i + 1)) m₀ x1 x2 s₁) E s₃) E s₁)
    (done : ∀ h' tk u1 u2 nw, J vs.length nw → Fr h₀ env.locals h' (Mid2 m₀ x1 x2 u1 u2) → News h₀ env.locals h' nw → Q .next { s with heap := h', toks := tk }) :
    wpAny (model prog w) A (pyIter (.ref l)) (fun it s₂ => LoopAtT prog w A h₀ env (.Name x px) body Q E it s₂) E s := by
  have hls : s.heap.IsList l vs.toArray := PySem.IsL.isList (N _ (hm 0 _ h0)).1
  have hlt' : l < s.heap.objs.size := Heap.lt_size (N _ (hm 0 _ h0)).1
  have hne : l ≠ s.heap.objs.size := Nat.ne_of_lt hlt'
  refine wpAny_pyIter_list hls ?_
  have W := Walks.list (prog := prog) (w := w) hh s.heap.objs.size l hne vs.toArray
  rw [List.size_toArray] at W
  refine loop_L x1 x2 J W ?_ ?_ (next_is_new F) ?_ ⟨⟨_, Heap.get?_push_size _ rfl, rfl, rfl⟩, hls.push _⟩ (F.push _) (fun p hp => ⟨Heap.get?_push_of_some _ (N p hp).1, (N p hp).2⟩) h0 ?_ ?_ done
  · intro b hb
    rcases List.mem_cons.mp hb with e | hb
    · exact .inl e
    · rw [List.mem_singleton.mp hb]; exact .inr ⟨_, hm⟩
  · intro hm'
    rcases List.mem_cons.mp hm' with e | hm'
    · exact absurd F.ns.lt (e ▸ Nat.lt_irrefl _)
    · exact (N _ (hm 0 _ h0)).2.1 (List.mem_singleton.mp hm').symm
  · intro i nw hj p hp e
    obtain ⟨q, hq, e'⟩ := List.mem_map.mp (hlt i nw hj p hp)
    have := Heap.lt_size (N q hq).1
    rw [e', e] at this
    exact Nat.lt_irrefl _ this
  · intro i h st; obtain ⟨o, e, _⟩ := st.1; exact ⟨o, e⟩
  · intro i v u1 u2 oI nw s₁ hi' hP hj hoff F₁ N₁
    exact turn i v u1 u2 _ oI nw s₁ hi' (by simpa using hP) hj (allNeB_of hoff) F₁ N₁
def JC (lC : Addr) (rest : List (Addr × Obj)) (i : Nat) (nw : List (Addr × Obj)) : Prop := ∃ ws nC, nw = (lC, listOf ws.toArray nC) :: rest ∧ IntsAre ws (cnt (i : Int))
theorem iter_ids {l lC : Addr} {vI ws0 : List Value} {nC0 : Nat} {n : Int} {rest : List (Addr × Obj)} {m₀ : Str → Option Value} (x1 x2 : Str)
    (hh : A.handled = none) (hm : (l, LCg.lst vI) ∈ rest) (F : Fr h₀ env.locals s.heap m₀) (N : News h₀ env.locals s.heap ((lC, listOf ws0.toArray nC0) :: rest)) (hw : IntsAre ws0 (cnt 0)) (hV : IdsV n vI) (hl : (vI.length : Int) = n)
    (turn : ∀ (i : Nat) b t u1 u2 I oI ws nC (s₁ : Shared), KBw.bInts b = [1, 0, 0, (i : Int)] → IntsAre ws (cnt (i : Int)) → AllNeB I ((lC, listOf ws.toArray nC) :: rest) → Fr h₀ env.locals s₁.heap (Mid2 m₀ x1 x2 u1 u2) → News h₀ env.locals s₁.heap ((I, oI) :: (lC, listOf ws.toArray nC) :: rest) →
      wpAny (model prog w) A (assign (.Name x px) env (.bytes b t)) (fun _ s₃ => wpAny (model prog w) A (execs body env) (TurnL h₀ env.locals I oI (JC lC rest (i + 1)) m₀ x1 x2 s₁) E s₃) E s₁)
    (done : ∀ h' tk u1 u2 ws nC, IntsAre ws (cnt n) → Fr h₀ env.locals h' (Mid2 m₀ x1 x2 u1 u2) → News h₀ env.locals h' ((lC, listOf ws.toArray nC) :: rest) → Q .next { s with heap := h', toks := tk }) :
    wpAny (model prog w) A (pyIter (.ref l)) (fun it s₂ => LoopAtT prog w A h₀ env (.Name x px) body Q E it s₂) E s := by
  refine iter_vals (vs := vI) x1 x2 (JC lC rest) hh ?_ ?_ F N ⟨ws0, nC0, rfl, hw⟩ ?_ ?_
  · rintro i _ ⟨ws, nC, rfl, _⟩; exact .tail _ hm
  · rintro i _ ⟨ws, nC, rfl, _⟩ p hp
    rcases List.mem_cons.mp hp with e | hp
    · rw [e]; exact .head _
    · exact .tail _ (List.mem_map_of_mem hp)
  · rintro i v u1 u2 I oI _ s₁ hi hv ⟨ws, nC, rfl, hi'⟩ hoff F₁ N₁
    obtain ⟨b, t, e, hb⟩ := hV i (by omega)
    obtain rfl : v = .bytes b t := Option.some.inj (hv.symm.trans e)
    exact turn i b t u1 u2 I oI ws nC s₁ hb hi' hoff F₁ N₁
  · rintro h' tk u1 u2 _ ⟨ws, nC, rfl, hi'⟩ F' N'
    rw [hl] at hi'
    exact done h' tk u1 u2 ws nC hi' F' N'
theorem TurnL.same {L I : Addr} {oI : Obj} {news : List (Addr × Obj)} {m₀ m' : Str → Option Value} {x1 x2 : Str} {s₁ : Shared} {h' : Heap} {tk : Nat} (F : Fr h₀ L h' m') (N : News h₀ L h' ((I, oI) :: news)) (hm : ∀ y, y ≠ x1 → y ≠ x2 → m' y = m₀ y) :
    TurnL h₀ L I oI (fun nw => nw = news) m₀ x1 x2 s₁ .next { s₁ with heap := h', toks := tk } := ⟨rfl, h', tk, m', _, rfl, F, N, rfl, hm⟩
theorem TurnL.cnt {L I lC : Addr} {oI : Obj} {rest : List (Addr × Obj)} {ws : List Value} {nC i : Nat} {c : Int} {m₀ m' : Str → Option Value} {x1 x2 : Str} {s₁ : Shared} {h' : Heap} {tk : Nat} (F : Fr h₀ L h' m') (N : News h₀ L h' ((I, oI) :: (lC, listOf ws.toArray nC) :: rest)) (hi : IntsAre ws (cnt c)) (hc : c = ((i : Int) + 1)) (hm : ∀ y, y ≠ x1 → y ≠ x2 → m' y = m₀ y) :
    TurnL h₀ L I oI (JC lC rest (i + 1)) m₀ x1 x2 s₁ .next { s₁ with heap := h', toks := tk } := ⟨rfl, h', tk, m', _, rfl, F, N, ⟨ws, nC, rfl, by rw [hc] at hi; exact_mod_cast hi⟩, hm⟩
end
theorem wordsSChkc : True := by
  (k_with "exec For Name Call cons nil" => (k_here; (with_reducible show wpAny _ _ (exec (Stmt.For _ (PySem.Expr.Call _ [_, _] _ _) _ _ _) _) _ _ _); k_dflt ((first | with_reducible refine For_invTF (by k_dflt (k_asm)) ?_ (fun _ => rfl) | refine For_invTF (by k_asm) ?_ (fun _ => rfl)))))
  trivial

theorem wordsSChkd : True := by
  (k_with "exec For Name Name cons nil" => (k_here; (with_reducible show wpAny _ _ (exec (Stmt.For _ _ _ _ _) _) _ _ _); k_dflt ((first | with_reducible refine For_invTF (by k_dflt (k_asm)) ?_ (fun _ => rfl) | refine For_invTF (by k_asm) ?_ (fun _ => rfl)))))
  trivial

theorem wordsSChke : True := by
  (k_with "pyIter ref" => ((with_reducible show wpAny _ _ (pyIter _) (fun it s₂ => LoopAtT _ _ _ _ _ _ _ _ _ it s₂) _ _); refine hold ?_))
  trivial

theorem wordsSChkf : True := by
  (k_with "call type:range" => (k_here; (with_reducible show wpAny _ _ (call (Value.type "range") [_, _]) _ _ _); k_dflt ((first | with_reducible refine range2_rows (by k_dflt (k_asm)) (by k_dflt (k_asm)) ?_ | refine range2_rows (by k_asm) (by k_asm) ?_)); intro h9 tk9 t9 u9 v9 hr9 F9 N9 _))
  trivial

theorem wordsSChkg : True := by
  (k_with "call builtin:len" => (k_here; (with_reducible show wpAny _ _ (call (Value.builtin "len") [Value.ref _]) _ _ _); k_dflt ((first | with_reducible refine len_ids (by k_dflt (k_asm)) (by k_dflt (k_mem)) (by k_dflt (assumption)) (by k_dflt (omega)) ?_ | refine len_ids (by k_asm) (by k_mem) (by assumption) (by omega) ?_)); intro t9 k9))
  trivial

theorem wordsSChkh : True := by
  (k_with "subscriptTail Name Name ref int" => (k_here; (with_reducible show wpAny _ _ (subscriptTail _ _ (Value.ref _) (Value.int _ _)) _ _ _); k_dflt ((first | with_reducible refine id_item (by k_dflt (k_asm)) (by k_dflt (k_mem)) (by k_dflt (assumption)) (by k_dflt (omega)) (by k_dflt (omega)) (by k_dflt (omega)) ?_ | refine id_item (by k_asm) (by k_mem) (by assumption) (by omega) (by omega) (by omega) ?_)); intro b9 t9 hb9))
  trivial

theorem wordsSChki : True := by
  (k_with "subscriptTail Name BinOp ref int" => (k_here; (with_reducible show wpAny _ _ (subscriptTail _ _ (Value.ref _) (Value.int _ _)) _ _ _); k_dflt ((first | with_reducible refine id_item (by k_dflt (k_asm)) (by k_dflt (k_mem)) (by k_dflt (assumption)) (by k_dflt (omega)) (by k_dflt (omega)) (by k_dflt (omega)) ?_ | refine id_item (by k_asm) (by k_mem) (by assumption) (by omega) (by omega) (by omega) ?_)); intro b9 t9 hb9))
  trivial

theorem wordsSChkj : True := by
  (k_with "subscriptTail" => (k_here; (with_reducible show wpAny _ _ (subscriptTail _ _ (Value.bytes _ _) (Value.int 0 _)) _ _ _); k_dflt ((first | with_reducible refine oid_0 (by k_dflt (assumption)) ?_ | refine oid_0 (by assumption) ?_)); intro _ _))
  trivial

theorem wordsSChkk : True := by
  (k_with "compareOp LtE bytes bytes" => (k_here; k_dflt ((first | with_reducible refine le_id (by k_dflt (assumption)) (by k_dflt (assumption)) (by k_dflt (omega)) (by k_dflt (omega)) (by k_dflt (omega)) (by k_dflt (omega)) ?_ | refine le_id (by assumption) (by assumption) (by omega) (by omega) (by omega) (by omega) ?_))))
  trivial

section
variable {w : World} {p : Program} {loose : List Str} {mean : ExcName → Option Value} {mg mb : Str → Option Value}
  {dp un : Nat} {gd : Option (List Code)} {cn : Str} {cs : Scope} {a : Addr} {ccd : Value} {cl : List (Str × Addr)} {outer : List Env} {A₀ : Around} {base h₀ : Heap} {L : Addr} {m : Str → Option Value} {s : Shared} {Q E : Value → Shared → Prop}

theorem chk {news : List (Addr × Obj)} {lI lF : Addr} {vs vI : List Value} {nn : Nat} {n : Int}
    (B : Below A₀ base outer h₀) (F : Fr h₀ L s.heap m) (X : (hd.heap_1 w.params).In h₀) (T : Top p loose mean mg mb h₀) (hk : cs.kind = .function)
    (hd : dp + 5 < recursionLimit) (hu : un + 100 < cLine)
    (N : News h₀ L s.heap [(lF, listOf vs.toArray nn), (lI, LCg.lst vI)]) (NR : News h₀ L s.heap news) (hx : Apart [(lF, listOf vs.toArray nn), (lI, LCg.lst vI)] news)
    (hne : @Ne Nat lI lF) (hn : 1 ≤ n) (hn3 : n ≤ 3) (hV : IdsV n vI) (hl : (vI.length : Int) = n) (hv : IntsAre vs (fanL n))
    (ret : ∀ (h' : Heap) (tk' : Nat), Fr h₀ L h' m → News h₀ L h' ([(lF, listOf vs.toArray nn), (lI, LCg.lst vI)] ++ news) → Q .none { s with heap := h', toks := tk' }) :
    wpAny (model PySem.Challenge.rw_nt0280_01.row.prog w) (ktrTop dp un gd cn cs L a ccd cl outer) (call (.ref 154) [.ref lI, .ref lF]) Q E s := by
  revert X; k_fill; intro X
  refine wpAny_call ?_
  k_dflt (first   | (refine' code_defR ?k1 ?k2 ?k3 N NR hx ?k5 ?kA ?kF ?kK ?k6 ?k7 ?k8 ?k9 ?kB ?_ ?c2 ?c3 ?c4 ?c5; (case kA => exact rfl); (case kF => exact rfl); (case kK => first | exact rfl | assumption); (case k1 => k_asm); (case k2 => k_asm); (case k3 => k_asm); (case k5 => k_asm); (case k6 => k_is); (case k7 => k_is); (case k8 => ktr_room); (case k9 => first | exact BindsTo.of_eq rfl | exact binds_K (by k_in) rfl (by k_is) rfl rfl rfl); (case c5 => decide); (case kB => exact locs rfl); (case c2 => exact rfl); (case c3 => exact rfl); (case c4 => exact rfl); k_whole; clear N NR hx; intro g' L' h' FG' F' N' B' X' T' R' l1; (try k_lt l1); (try dsimp only); (try k_lift B'); (try k_fold))   | (refine' code_defCR ?k1 ?k2 ?k3 N NR hx ?k5 ?kA ?kF ?kK ?k6 ?k7 ?k8 ?k9 ?kB ?kD ?_ ?c2 ?c3 ?c4; (case kA => exact rfl); (case kF => exact rfl); (case kK => first | exact rfl | assumption); (case k1 => k_asm); (case k2 => k_asm); (case k3 => k_asm); (case k5 => k_asm); (case k6 => k_is); (case k7 => k_is); (case k8 => ktr_room); (case k9 => first | exact BindsTo.of_eq rfl | exact binds_K (by k_in) rfl (by k_is) rfl rfl rfl); (case kB => exact rfl); (case kD => decide +kernel); (case c2 => exact rfl); (case c3 => exact rfl); (case c4 => exact rfl); k_whole; clear N NR hx; intro g' L' h' tk' cells' FG' F' N' Y' B' X' T' R' l1; (try k_lt l1); k_cells Y'; (try simp only [List.cons_append, List.nil_append] at N'); (try dsimp only); (try k_lift B'); (try k_fold)))
  w_strict (repeat' (first | (k_unfold; (try dsimp only)) | walk1 | (dsimp only; walk1) | (leave1; try dsimp only) | (dsimp only; k_unfold; (try dsimp only)) | fail "no step"))
  unfold Hold
  refine iter_range1 (Str.ofString "k") (Str.ofString "k") rfl (by assumption) (by omega) (by omega) (by k_asm) (by k_asm) ?_ ?_
  · intro k t u1 u2 I oI s₁ hk1 hk2 hoff F1 N1
    simp only [AllNeB, and_true] at hoff
    (try dsimp only [Mid2] at F1)
    w_strict (repeat' (first | (k_unfold; (try dsimp only)) | walk1 | (dsimp only; walk1) | (leave1; try dsimp only) | (dsimp only; k_unfold; (try dsimp only)) | fail "no step"))
    refine TurnL.same (by k_asm) (by k_asm) ?_
    intro y h1 h2; simp only [Mid2, if_neg h1, if_neg h2]
  · intro h' tk u1 u2 F1 N1
    (try dsimp only [Mid2] at F1)
    w_strict (repeat' (first | (k_unfold; (try dsimp only)) | walk1 | (dsimp only; walk1) | (leave1; try dsimp only) | (dsimp only; k_unfold; (try dsimp only)) | fail "no step"))
    unfold Hold
    refine iter_ids (Str.ofString "oid") (Str.ofString "oid") rfl ?_ (by k_asm) (by k_asm) (by assumption) hV hl ?_ ?_
    · k_mem
    · intro i b t u1 u2 I oI ws nC s₁ hb hi' hoff F1 N1
      simp only [AllNeB, and_true] at hoff
      (try dsimp only [Mid2] at F1)
      w_strict (repeat' (first | (k_unfold; (try dsimp only)) | walk1 | (dsimp only; walk1) | (leave1; try dsimp only) | (dsimp only; k_unfold; (try dsimp only)) | fail "no step"))
      refine TurnL.cnt (c := (i : Int) + 1) (by k_asm) (by k_asm) (by assumption) rfl ?_
      intro y h1 h2; simp only [Mid2, if_neg h1, if_neg h2]
    · intro h' tk u1 u2 ws nC hi' F1 N1
      (try dsimp only [Mid2] at F1)
      k_with "pyIter ref" => k_state_given ["fan"] (fun (_ : List Int) pre total => (pre.length ≤ 1 ∧ total = 0) ∨ (1 < pre.length ∧ total = n)) "total"
      w_strict (k_steps; (all_goals (try k_data)))
      k_with_none
      · exfalso; omega
      · exact ret _ _ (by k_asm) ((by assumption : RestIn _ _ _ _).with (by refine cb_drop (by k_asm) (fun q hq => ?_); simp only [List.mem_cons, List.not_mem_nil, or_false] at hq ⊢; rcases hq with h | h <;> simp [h]))
end

end

section
theorem wordsSChkWb : True := by
  w_top off
  k_with_none
  (k_with "exec For Name Subscript cons nil" => (k_here; (rename Fr _ _ _ _ => lF'); (with_unfolding_all refine For_invVF lF' (by exact rfl) (by exact rfl) ?_; k_whole)))
  (k_with "call ref" => (k_here; k_dflt (first | (refine call_meth (by k_asm) (by k_mem) ?_; k_whole; (first | ((first | with_reducible refine code_defO (by k_dflt (exact rfl)) (by k_dflt (exact rfl)) (by k_dflt (first | exact rfl | assumption)) (by k_dflt (k_asm)) (by k_dflt (k_asm)) (by k_dflt (k_asm)) (by k_dflt (k_asm)) (by k_dflt (k_asm)) (by k_dflt (k_is)) (by k_dflt (k_is)) (by k_dflt (ktr_room)) (by k_dflt (first | exact BindsTo.of_eq rfl | exact binds_K (by k_in) rfl (by k_is) rfl rfl rfl)) (by k_dflt (decide)) (by k_dflt (exact locs rfl)) (by k_dflt (exact rfl)) (by k_dflt (exact rfl)) (by k_dflt (exact rfl)) ?_ | refine code_defO (by exact rfl) (by exact rfl) (by first | exact rfl | assumption) (by k_asm) (by k_asm) (by k_asm) (by k_asm) (by k_asm) (by k_is) (by k_is) (by ktr_room) (by first | exact BindsTo.of_eq rfl | exact binds_K (by k_in) rfl (by k_is) rfl rfl rfl) (by decide) (by exact locs rfl) (by exact rfl) (by exact rfl) (by exact rfl) ?_); k_whole; intro g' L' h' FG' F' N' B' X' T'; (try dsimp only); (try k_lift B'); (try k_fold)) | ((first | with_reducible refine code_defCO (by k_dflt (exact rfl)) (by k_dflt (exact rfl)) (by k_dflt (first | exact rfl | assumption)) (by k_dflt (k_asm)) (by k_dflt (k_asm)) (by k_dflt (k_asm)) (by k_dflt (k_asm)) (by k_dflt (k_asm)) (by k_dflt (k_is)) (by k_dflt (k_is)) (by k_dflt (ktr_room)) (by k_dflt (first | exact BindsTo.of_eq rfl | exact binds_K (by k_in) rfl (by k_is) rfl rfl rfl)) (by k_dflt (exact rfl)) (by k_dflt (decide +kernel)) (by k_dflt (exact rfl)) (by k_dflt (exact rfl)) (by k_dflt (exact rfl)) ?_ | refine code_defCO (by exact rfl) (by exact rfl) (by first | exact rfl | assumption) (by k_asm) (by k_asm) (by k_asm) (by k_asm) (by k_asm) (by k_is) (by k_is) (by ktr_room) (by first | exact BindsTo.of_eq rfl | exact binds_K (by k_in) rfl (by k_is) rfl rfl rfl) (by exact rfl) (by decide +kernel) (by exact rfl) (by exact rfl) (by exact rfl) ?_); k_whole; intro g' L' h' tk' cells' FG' F' N' Y' B' X' T' l1; (try k_lt l1); k_cells Y'; (try simp only [List.cons_append, List.nil_append] at N'); (try dsimp only); (try k_lift B'); (try k_fold)))) | ((first | with_reducible refine call_cls (by k_dflt (k_asm)) (by k_dflt (k_asm)) (by k_dflt (k_asm)) (by k_dflt (k_is)) (by k_dflt (k_is)) (by k_dflt (k_is)) ?_ | refine call_cls (by k_asm) (by k_asm) (by k_asm) (by k_is) (by k_is) (by k_is) ?_); k_whole; intro x' d' h' F' N' l1 l2; (try k_lt l1); (try k_lt2 l2); (try k_sweep); (first | ((first | with_reducible refine code_defO (by k_dflt (exact rfl)) (by k_dflt (exact rfl)) (by k_dflt (first | exact rfl | assumption)) (by k_dflt (k_asm)) (by k_dflt (k_asm)) (by k_dflt (k_asm)) (by k_dflt (k_asm)) (by k_dflt (k_asm)) (by k_dflt (k_is)) (by k_dflt (k_is)) (by k_dflt (ktr_room)) (by k_dflt (first | exact BindsTo.of_eq rfl | exact binds_K (by k_in) rfl (by k_is) rfl rfl rfl)) (by k_dflt (decide)) (by k_dflt (exact locs rfl)) (by k_dflt (exact rfl)) (by k_dflt (exact rfl)) (by k_dflt (exact rfl)) ?_ | refine code_defO (by exact rfl) (by exact rfl) (by first | exact rfl | assumption) (by k_asm) (by k_asm) (by k_asm) (by k_asm) (by k_asm) (by k_is) (by k_is) (by ktr_room) (by first | exact BindsTo.of_eq rfl | exact binds_K (by k_in) rfl (by k_is) rfl rfl rfl) (by decide) (by exact locs rfl) (by exact rfl) (by exact rfl) (by exact rfl) ?_); k_whole; intro g' L' h' FG' F' N' B' X' T'; (try dsimp only); (try k_lift B'); (try k_fold)) | ((first | with_reducible refine code_defCO (by k_dflt (exact rfl)) (by k_dflt (exact rfl)) (by k_dflt (first | exact rfl | assumption)) (by k_dflt (k_asm)) (by k_dflt (k_asm)) (by k_dflt (k_asm)) (by k_dflt (k_asm)) (by k_dflt (k_asm)) (by k_dflt (k_is)) (by k_dflt (k_is)) (by k_dflt (ktr_room)) (by k_dflt (first | exact BindsTo.of_eq rfl | exact binds_K (by k_in) rfl (by k_is) rfl rfl rfl)) (by k_dflt (exact rfl)) (by k_dflt (decide +kernel)) (by k_dflt (exact rfl)) (by k_dflt (exact rfl)) (by k_dflt (exact rfl)) ?_ | refine code_defCO (by exact rfl) (by exact rfl) (by first | exact rfl | assumption) (by k_asm) (by k_asm) (by k_asm) (by k_asm) (by k_asm) (by k_is) (by k_is) (by ktr_room) (by first | exact BindsTo.of_eq rfl | exact binds_K (by k_in) rfl (by k_is) rfl rfl rfl) (by exact rfl) (by decide +kernel) (by exact rfl) (by exact rfl) (by exact rfl) ?_); k_whole; intro g' L' h' tk' cells' FG' F' N' Y' B' X' T' l1; (try k_lt l1); k_cells Y'; (try simp only [List.cons_append, List.nil_append] at N'); (try dsimp only); (try k_lift B'); (try k_fold)))) | ((first | with_reducible refine wpAny_call ?_ | refine wpAny_call ?_); (first | ((first | with_reducible refine code_defO (by k_dflt (exact rfl)) (by k_dflt (exact rfl)) (by k_dflt (first | exact rfl | assumption)) (by k_dflt (k_asm)) (by k_dflt (k_asm)) (by k_dflt (k_asm)) (by k_dflt (k_asm)) (by k_dflt (k_asm)) (by k_dflt (k_is)) (by k_dflt (k_is)) (by k_dflt (ktr_room)) (by k_dflt (first | exact BindsTo.of_eq rfl | exact binds_K (by k_in) rfl (by k_is) rfl rfl rfl)) (by k_dflt (decide)) (by k_dflt (exact locs rfl)) (by k_dflt (exact rfl)) (by k_dflt (exact rfl)) (by k_dflt (exact rfl)) ?_ | refine code_defO (by exact rfl) (by exact rfl) (by first | exact rfl | assumption) (by k_asm) (by k_asm) (by k_asm) (by k_asm) (by k_asm) (by k_is) (by k_is) (by ktr_room) (by first | exact BindsTo.of_eq rfl | exact binds_K (by k_in) rfl (by k_is) rfl rfl rfl) (by decide) (by exact locs rfl) (by exact rfl) (by exact rfl) (by exact rfl) ?_); k_whole; intro g' L' h' FG' F' N' B' X' T'; (try dsimp only); (try k_lift B'); (try k_fold)) | ((first | with_reducible refine code_defCO (by k_dflt (exact rfl)) (by k_dflt (exact rfl)) (by k_dflt (first | exact rfl | assumption)) (by k_dflt (k_asm)) (by k_dflt (k_asm)) (by k_dflt (k_asm)) (by k_dflt (k_asm)) (by k_dflt (k_asm)) (by k_dflt (k_is)) (by k_dflt (k_is)) (by k_dflt (ktr_room)) (by k_dflt (first | exact BindsTo.of_eq rfl | exact binds_K (by k_in) rfl (by k_is) rfl rfl rfl)) (by k_dflt (exact rfl)) (by k_dflt (decide +kernel)) (by k_dflt (exact rfl)) (by k_dflt (exact rfl)) (by k_dflt (exact rfl)) ?_ | refine code_defCO (by exact rfl) (by exact rfl) (by first | exact rfl | assumption) (by k_asm) (by k_asm) (by k_asm) (by k_asm) (by k_asm) (by k_is) (by k_is) (by ktr_room) (by first | exact BindsTo.of_eq rfl | exact binds_K (by k_in) rfl (by k_is) rfl rfl rfl) (by exact rfl) (by decide +kernel) (by exact rfl) (by exact rfl) (by exact rfl) ?_); k_whole; intro g' L' h' tk' cells' FG' F' N' Y' B' X' T' l1; (try k_lt l1); k_cells Y'; (try simp only [List.cons_append, List.nil_append] at N'); (try dsimp only); (try k_lift B'); (try k_fold)))))))
  (k_with "execs cons" => (k_here; (with_reducible (refine gen_toks ?_)); intro tk))
  (k_with "execs nil" => (k_here; (with_reducible (refine gen_toks ?_)); intro tk))
  (k_with "call builtin:list.append" => (k_here; k_dflt ((first | with_reducible refine app_K (by k_dflt (k_asm)) (by k_dflt (k_asm)) (by k_dflt (k_updF)) (by k_dflt ((simp only [List.length_append, List.length_cons, List.length_nil]; omega))) ?_ | refine app_K (by k_asm) (by k_asm) (by k_updF) (by (simp only [List.length_append, List.length_cons, List.length_nil]; omega)) ?_)); intro h' F' N'; (try dsimp only at N'); (try dsimp only)))
  (k_with "call ref" => (k_here; k_dflt (((with_reducible show wpAny _ _ (call (Value.ref 85) _) _ _ _); first | with_reducible refine abe (by k_dflt (k_asm)) (by k_dflt (k_asm)) (by k_dflt (k_asm)) (by k_dflt (k_asm)) (by k_dflt (k_asm)) (by k_dflt (first | exact rfl | assumption)) (by k_dflt (ktr_room)) (by k_dflt (ktr_units)) (by k_dflt (assumption)) (by k_dflt (omega)) (by k_dflt (omega)) (by k_dflt (omega)) (by k_dflt (omega)) ?_ | refine abe (by k_asm) (by k_asm) (by k_asm) (by k_asm) (by k_asm) (by first | exact rfl | assumption) (by ktr_room) (by ktr_units) (by assumption) (by omega) (by omega) (by omega) (by omega) ?_); k_whole); intro t9 h9 tk9 F9 N9; (try dsimp only); (try k_fold)))
  (k_with "compareOp Lt bytes bytes" => refine lt_bytes ?_)
  (k_with "compareOp LtE bytes bytes" => refine le_bytes ?_)
  (k_with "LeaveK" => ((try ((rename RestIn _ _ _ _ => rI); (rename Fr _ _ _ _ => lF'); (have rJ := RestIn.keeps rI lF'); (try ((rename News _ _ _ _ => lN'); (have rK := RestIn.apart rI lN'))))); (k_dflt ((first | with_reducible refine leaveK_ (by k_dflt (k_asm)) (by k_dflt (k_asm)) ?_ | refine leaveK_ (by k_asm) (by k_asm) ?_); k_whole); intro kF kN; ground_anew kF; (have kX := kFor kF (by k_asm)); (try dsimp only [InitBack, CmpBack, LenBack, StrBack, BoolBack]); (try refine ⟨rfl, ?_⟩); (try dsimp only [CmpBack, LenBack, StrBack, BoolBack]); (try (refine ⟨⟨by omega, by omega⟩, ?_⟩)); (try (refine handed_on rfl ?_; try dsimp only)))))
  (k_with "binaryOp Mult ref int" => (k_here; (with_reducible show wpAny _ _ (binaryOp Operator.Mult (Value.ref _) (Value.int _ _)) _ _ _); k_dflt ((first | with_reducible refine zeros_K (by k_dflt (k_asm)) (by k_dflt (k_asm)) (by k_dflt (k_mem)) ?_ | refine zeros_K (by k_asm) (by k_asm) (by k_mem) ?_)); intro D' h' ws' F' N' l1 i1; (try k_lt l1)))
  (k_with "subscriptTail" => (k_here; (with_reducible show wpAny _ _ (subscriptTail _ _ (Value.bytes _ _) (Value.int 0 _)) _ _ _); k_dflt ((first | with_reducible refine oid0 ?_ | refine oid0 ?_)); intro _ _))
  (k_with "getItem ref int" => (k_here; k_dflt ((first | with_reducible refine cnt_item (by k_dflt (k_asm)) (by k_dflt (k_mem)) (by k_dflt (assumption)) ?_ | refine cnt_item (by k_asm) (by k_mem) (by assumption) ?_)); intro _))
  (k_with "setItem ref int" => (k_here; k_dflt ((first | with_reducible refine cnt_store (by k_dflt (k_asm)) (by k_dflt (k_asm)) (by k_dflt (k_updF)) (by k_dflt (assumption)) ?_ | refine cnt_store (by k_asm) (by k_asm) (by k_updF) (by assumption) ?_)); intro h' ws' F' N' hi'; (try dsimp only at N')))
  (k_with "subscriptTail Name Name ref int" => (k_here; k_dflt (first | ((first | with_reducible refine cnt_sub (by k_dflt (k_asm)) (by k_dflt (k_mem)) (by k_dflt (assumption)) (by k_dflt (omega)) (by k_dflt (omega)) ?_ | refine cnt_sub (by k_asm) (by k_mem) (by assumption) (by omega) (by omega) ?_); intro t9 x9 f9) | ((first | with_reducible refine fan_sub (by k_dflt (k_asm)) (by k_dflt (k_mem)) (by k_dflt (assumption)) (by k_dflt (omega)) (by k_dflt (omega)) ?_ | refine fan_sub (by k_asm) (by k_mem) (by assumption) (by omega) (by omega) ?_); intro t9 x9 f9))))
  trivial
theorem filter_pair {lF lI : Addr} {oF oI : Obj} {h₀ h : Heap} {L : Addr} {news : List (Addr × Obj)} (N : News h₀ L h news) (mF : (lF, oF) ∈ news) (mI : (lI, oI) ∈ news) :
    News h₀ L h [(lF, oF), (lI, oI)] ∧ News h₀ L h (news.filter fun p => !(p.1 == lF || p.1 == lI)) ∧ Apart [(lF, oF), (lI, oI)] (news.filter fun p => !(p.1 == lF || p.1 == lI)) ∧
    ∀ h', News h₀ L h' ([(lF, oF), (lI, oI)] ++ news.filter fun p => !(p.1 == lF || p.1 == lI)) → News h₀ L h' news := by
  refine ⟨fun p hp => ?_, fun p hp => N p (List.mem_filter.mp hp).1, fun p hp hq => ?_, fun h' N' p hp => ?_⟩
  · rcases List.mem_cons.mp hp with e | e
    · rw [e]; exact N _ mF
    · rw [List.mem_singleton.mp e]; exact N _ mI
  · have := (List.mem_filter.mp hp).2
    rcases List.mem_cons.mp hq with e | e
    · have e' : p.1 = lF := e
      simp [e'] at this
    · have e' : p.1 = lI := by simpa using e
      simp [e'] at this
  · by_cases e1 : p.1 = lF
    · have a := (N p hp).1
      rw [e1, (N _ mF).1] at a
      have : p = (lF, oF) := Prod.ext e1 (Option.some.inj a).symm
      rw [this]; exact N' _ (.head _)
    by_cases e2 : p.1 = lI
    · have a := (N p hp).1
      rw [e2, (N _ mI).1] at a
      have : p = (lI, oI) := Prod.ext e2 (Option.some.inj a).symm
      rw [this]; exact N' _ (.tail _ (.head _))
    · refine N' p (List.mem_append_right _ (List.mem_filter.mpr ⟨hp, ?_⟩))
      simp [e1, e2]
section
variable {w : World} {p : Program} {loose : List Str} {mean : ExcName → Option Value} {mg mb : Str → Option Value}
  {dp un : Nat} {gd : Option (List Code)} {cn : Str} {cs : Scope} {a : Addr} {ccd : Value} {cl : List (Str × Addr)} {outer : List Env} {A₀ : Around} {base h₀ : Heap} {L : Addr} {m : Str → Option Value} {s : Shared} {Q E : Value → Shared → Prop}

theorem chkW {news : List (Addr × Obj)} {lI lF : Addr} {vs ys : List Value} {nn : Nat} {n at_ : Int} {ks : List Int}
    (B : Below A₀ base outer h₀) (F : Fr h₀ L s.heap m) (X : (hd.heap_1 w.params).In h₀) (T : Top p loose mean mg mb h₀) (hk : cs.kind = .function)
    (hd : dp + 5 < recursionLimit) (hu : un + 100 < cLine)
    (N : News h₀ L s.heap news) (mF : (lF, listOf vs.toArray nn) ∈ news) (mI : (lI, LCg.lst ys) ∈ news) (hne : @Ne Nat lI lF) (hn : 1 ≤ n) (hn3 : n ≤ 3) (R : RelL (IdRel ks at_) (rangeKs 0 n.toNat) ys) (hids : IdsAt ks at_ n) (hv : IntsAre vs (fanL n))
    (ret : ∀ (h' : Heap) (tk' : Nat), Fr h₀ L h' m → News h₀ L h' news → Q .none { s with heap := h', toks := tk' }) :
    wpAny (model PySem.Challenge.rw_nt0280_01.row.prog w) (ktrTop dp un gd cn cs L a ccd cl outer) (call (.ref 154) [.ref lI, .ref lF]) Q E s := by
  obtain ⟨Np, NR, hx, back⟩ := filter_pair N mF mI
  exact chk B F X T hk hd hu Np NR hx hne hn hn3 (idsV_of (by omega) R hids) (by rw [R.length, rangeKs_length]; omega) hv fun h' tk' F' N' => ret h' tk' F' (back _ N')
end

end

section
theorem wordsSDrawb : True := by
  w_top off
  k_with_none
  (k_with "exec For Name Subscript cons nil" => (k_here; (rename Fr _ _ _ _ => lF'); (with_unfolding_all refine For_invVF lF' (by exact rfl) (by exact rfl) ?_; k_whole)))
  (k_with "call ref" => (k_here; k_dflt (first | (refine call_meth (by k_asm) (by k_mem) ?_; k_whole; (first | ((first | with_reducible refine code_defO (by k_dflt (exact rfl)) (by k_dflt (exact rfl)) (by k_dflt (first | exact rfl | assumption)) (by k_dflt (k_asm)) (by k_dflt (k_asm)) (by k_dflt (k_asm)) (by k_dflt (k_asm)) (by k_dflt (k_asm)) (by k_dflt (k_is)) (by k_dflt (k_is)) (by k_dflt (ktr_room)) (by k_dflt (first | exact BindsTo.of_eq rfl | exact binds_K (by k_in) rfl (by k_is) rfl rfl rfl)) (by k_dflt (decide)) (by k_dflt (exact locs rfl)) (by k_dflt (exact rfl)) (by k_dflt (exact rfl)) (by k_dflt (exact rfl)) ?_ | refine code_defO (by exact rfl) (by exact rfl) (by first | exact rfl | assumption) (by k_asm) (by k_asm) (by k_asm) (by k_asm) (by k_asm) (by k_is) (by k_is) (by ktr_room) (by first | exact BindsTo.of_eq rfl | exact binds_K (by k_in) rfl (by k_is) rfl rfl rfl) (by decide) (by exact locs rfl) (by exact rfl) (by exact rfl) (by exact rfl) ?_); k_whole; intro g' L' h' FG' F' N' B' X' T'; (try dsimp only); (try k_lift B'); (try k_fold)) | ((first | with_reducible refine code_defCO (by k_dflt (exact rfl)) (by k_dflt (exact rfl)) (by k_dflt (first | exact rfl | assumption)) (by k_dflt (k_asm)) (by k_dflt (k_asm)) (by k_dflt (k_asm)) (by k_dflt (k_asm)) (by k_dflt (k_asm)) (by k_dflt (k_is)) (by k_dflt (k_is)) (by k_dflt (ktr_room)) (by k_dflt (first | exact BindsTo.of_eq rfl | exact binds_K (by k_in) rfl (by k_is) rfl rfl rfl)) (by k_dflt (exact rfl)) (by k_dflt (decide +kernel)) (by k_dflt (exact rfl)) (by k_dflt (exact rfl)) (by k_dflt (exact rfl)) ?_ | refine code_defCO (by exact rfl) (by exact rfl) (by first | exact rfl | assumption) (by k_asm) (by k_asm) (by k_asm) (by k_asm) (by k_asm) (by k_is) (by k_is) (by ktr_room) (by first | exact BindsTo.of_eq rfl | exact binds_K (by k_in) rfl (by k_is) rfl rfl rfl) (by exact rfl) (by decide +kernel) (by exact rfl) (by exact rfl) (by exact rfl) ?_); k_whole; intro g' L' h' tk' cells' FG' F' N' Y' B' X' T' l1; (try k_lt l1); k_cells Y'; (try simp only [List.cons_append, List.nil_append] at N'); (try dsimp only); (try k_lift B'); (try k_fold)))) | ((first | with_reducible refine call_cls (by k_dflt (k_asm)) (by k_dflt (k_asm)) (by k_dflt (k_asm)) (by k_dflt (k_is)) (by k_dflt (k_is)) (by k_dflt (k_is)) ?_ | refine call_cls (by k_asm) (by k_asm) (by k_asm) (by k_is) (by k_is) (by k_is) ?_); k_whole; intro x' d' h' F' N' l1 l2; (try k_lt l1); (try k_lt2 l2); (try k_sweep); (first | ((first | with_reducible refine code_defO (by k_dflt (exact rfl)) (by k_dflt (exact rfl)) (by k_dflt (first | exact rfl | assumption)) (by k_dflt (k_asm)) (by k_dflt (k_asm)) (by k_dflt (k_asm)) (by k_dflt (k_asm)) (by k_dflt (k_asm)) (by k_dflt (k_is)) (by k_dflt (k_is)) (by k_dflt (ktr_room)) (by k_dflt (first | exact BindsTo.of_eq rfl | exact binds_K (by k_in) rfl (by k_is) rfl rfl rfl)) (by k_dflt (decide)) (by k_dflt (exact locs rfl)) (by k_dflt (exact rfl)) (by k_dflt (exact rfl)) (by k_dflt (exact rfl)) ?_ | refine code_defO (by exact rfl) (by exact rfl) (by first | exact rfl | assumption) (by k_asm) (by k_asm) (by k_asm) (by k_asm) (by k_asm) (by k_is) (by k_is) (by ktr_room) (by first | exact BindsTo.of_eq rfl | exact binds_K (by k_in) rfl (by k_is) rfl rfl rfl) (by decide) (by exact locs rfl) (by exact rfl) (by exact rfl) (by exact rfl) ?_); k_whole; intro g' L' h' FG' F' N' B' X' T'; (try dsimp only); (try k_lift B'); (try k_fold)) | ((first | with_reducible refine code_defCO (by k_dflt (exact rfl)) (by k_dflt (exact rfl)) (by k_dflt (first | exact rfl | assumption)) (by k_dflt (k_asm)) (by k_dflt (k_asm)) (by k_dflt (k_asm)) (by k_dflt (k_asm)) (by k_dflt (k_asm)) (by k_dflt (k_is)) (by k_dflt (k_is)) (by k_dflt (ktr_room)) (by k_dflt (first | exact BindsTo.of_eq rfl | exact binds_K (by k_in) rfl (by k_is) rfl rfl rfl)) (by k_dflt (exact rfl)) (by k_dflt (decide +kernel)) (by k_dflt (exact rfl)) (by k_dflt (exact rfl)) (by k_dflt (exact rfl)) ?_ | refine code_defCO (by exact rfl) (by exact rfl) (by first | exact rfl | assumption) (by k_asm) (by k_asm) (by k_asm) (by k_asm) (by k_asm) (by k_is) (by k_is) (by ktr_room) (by first | exact BindsTo.of_eq rfl | exact binds_K (by k_in) rfl (by k_is) rfl rfl rfl) (by exact rfl) (by decide +kernel) (by exact rfl) (by exact rfl) (by exact rfl) ?_); k_whole; intro g' L' h' tk' cells' FG' F' N' Y' B' X' T' l1; (try k_lt l1); k_cells Y'; (try simp only [List.cons_append, List.nil_append] at N'); (try dsimp only); (try k_lift B'); (try k_fold)))) | ((first | with_reducible refine wpAny_call ?_ | refine wpAny_call ?_); (first | ((first | with_reducible refine code_defO (by k_dflt (exact rfl)) (by k_dflt (exact rfl)) (by k_dflt (first | exact rfl | assumption)) (by k_dflt (k_asm)) (by k_dflt (k_asm)) (by k_dflt (k_asm)) (by k_dflt (k_asm)) (by k_dflt (k_asm)) (by k_dflt (k_is)) (by k_dflt (k_is)) (by k_dflt (ktr_room)) (by k_dflt (first | exact BindsTo.of_eq rfl | exact binds_K (by k_in) rfl (by k_is) rfl rfl rfl)) (by k_dflt (decide)) (by k_dflt (exact locs rfl)) (by k_dflt (exact rfl)) (by k_dflt (exact rfl)) (by k_dflt (exact rfl)) ?_ | refine code_defO (by exact rfl) (by exact rfl) (by first | exact rfl | assumption) (by k_asm) (by k_asm) (by k_asm) (by k_asm) (by k_asm) (by k_is) (by k_is) (by ktr_room) (by first | exact BindsTo.of_eq rfl | exact binds_K (by k_in) rfl (by k_is) rfl rfl rfl) (by decide) (by exact locs rfl) (by exact rfl) (by exact rfl) (by exact rfl) ?_); k_whole; intro g' L' h' FG' F' N' B' X' T'; (try dsimp only); (try k_lift B'); (try k_fold)) | ((first | with_reducible refine code_defCO (by k_dflt (exact rfl)) (by k_dflt (exact rfl)) (by k_dflt (first | exact rfl | assumption)) (by k_dflt (k_asm)) (by k_dflt (k_asm)) (by k_dflt (k_asm)) (by k_dflt (k_asm)) (by k_dflt (k_asm)) (by k_dflt (k_is)) (by k_dflt (k_is)) (by k_dflt (ktr_room)) (by k_dflt (first | exact BindsTo.of_eq rfl | exact binds_K (by k_in) rfl (by k_is) rfl rfl rfl)) (by k_dflt (exact rfl)) (by k_dflt (decide +kernel)) (by k_dflt (exact rfl)) (by k_dflt (exact rfl)) (by k_dflt (exact rfl)) ?_ | refine code_defCO (by exact rfl) (by exact rfl) (by first | exact rfl | assumption) (by k_asm) (by k_asm) (by k_asm) (by k_asm) (by k_asm) (by k_is) (by k_is) (by ktr_room) (by first | exact BindsTo.of_eq rfl | exact binds_K (by k_in) rfl (by k_is) rfl rfl rfl) (by exact rfl) (by decide +kernel) (by exact rfl) (by exact rfl) (by exact rfl) ?_); k_whole; intro g' L' h' tk' cells' FG' F' N' Y' B' X' T' l1; (try k_lt l1); k_cells Y'; (try simp only [List.cons_append, List.nil_append] at N'); (try dsimp only); (try k_lift B'); (try k_fold)))))))
  (k_with "execs cons" => (k_here; (with_reducible (refine gen_toks ?_)); intro tk))
  (k_with "execs nil" => (k_here; (with_reducible (refine gen_toks ?_)); intro tk))
  (k_with "call builtin:list.append" => (k_here; k_dflt ((first | with_reducible refine app_K (by k_dflt (k_asm)) (by k_dflt (k_asm)) (by k_dflt (k_updF)) (by k_dflt ((simp only [List.length_append, List.length_cons, List.length_nil]; omega))) ?_ | refine app_K (by k_asm) (by k_asm) (by k_updF) (by (simp only [List.length_append, List.length_cons, List.length_nil]; omega)) ?_)); intro h' F' N'; (try dsimp only at N'); (try dsimp only)))
  (k_with "call ref" => (k_here; k_dflt (((with_reducible show wpAny _ _ (call (Value.ref 85) _) _ _ _); first | with_reducible refine abe (by k_dflt (k_asm)) (by k_dflt (k_asm)) (by k_dflt (k_asm)) (by k_dflt (k_asm)) (by k_dflt (k_asm)) (by k_dflt (first | exact rfl | assumption)) (by k_dflt (ktr_room)) (by k_dflt (ktr_units)) (by k_dflt (assumption)) (by k_dflt (omega)) (by k_dflt (omega)) (by k_dflt (omega)) (by k_dflt (omega)) ?_ | refine abe (by k_asm) (by k_asm) (by k_asm) (by k_asm) (by k_asm) (by first | exact rfl | assumption) (by ktr_room) (by ktr_units) (by assumption) (by omega) (by omega) (by omega) (by omega) ?_); k_whole); intro t9 h9 tk9 F9 N9; (try dsimp only); (try k_fold)))
  (k_with "subscriptTail" => (k_here; (with_reducible show wpAny _ _ (subscriptTail _ _ (Value.ref _) (Value.str _ _)) _ _ _); k_dflt ((first | with_reducible refine kda_item (knd := PySem.strKind _ _) (by k_dflt (k_asm)) (by k_dflt (k_mem)) (by k_dflt (k_asm)) (strKind_is _ _ _ _) (by k_dflt (rfl)) ?_ | refine kda_item (knd := PySem.strKind _ _) (by k_asm) (by k_mem) (by k_asm) (strKind_is _ _ _ _) (by rfl) ?_))))
  (k_with "subscriptTail" => (k_here; (with_reducible show wpAny _ _ (subscriptTail _ _ (Value.ref _) (Value.bytes _ _)) _ _ _); k_dflt ((first | with_reducible refine kda_item (knd := PySem.W.bytesKind _ _) (by k_dflt (k_asm)) (by k_dflt (k_mem)) (by k_dflt (k_asm)) (bytesKind_at _ _ _ _) (by k_dflt (first | exact value_one _ _ | rfl)) ?_ | refine kda_item (knd := PySem.W.bytesKind _ _) (by k_asm) (by k_mem) (by k_asm) (bytesKind_at _ _ _ _) (by first | exact value_one _ _ | rfl) ?_))))
  (k_with "setItem ref str" => (k_here; k_dflt ((first | with_reducible refine kda_set (knd := PySem.strKind _ _) (by k_dflt (k_asm)) (by k_dflt (k_asm)) (by k_dflt (k_updF)) (by k_dflt (k_asm)) (strKind_is _ _ _ _) (by k_dflt (rw [sizeLine_eq]; exact Nat.le_of_ble_eq_true (by with_unfolding_all rfl))) ?_ | refine kda_set (knd := PySem.strKind _ _) (by k_asm) (by k_asm) (by k_updF) (by k_asm) (strKind_is _ _ _ _) (by rw [sizeLine_eq]; exact Nat.le_of_ble_eq_true (by with_unfolding_all rfl)) ?_)); intro h' o' F' N' hd'; (try dsimp only at N'); (try rw [stored_mixed] at hd'); (try rw [stored_nil] at hd')))
  (k_with "compareOp NotIn bytes ref" => (k_here; k_dflt ((first | with_reducible refine notin_bytes (by k_dflt (k_asm)) (by k_dflt (k_mem)) (by k_dflt (k_asm)) (by k_dflt (k_asm)) (by k_dflt (first | rfl | exact value_is _ _)) ?_ | refine notin_bytes (by k_asm) (by k_mem) (by k_asm) (by k_asm) (by first | rfl | exact value_is _ _) ?_))))
  (k_with "setItem ref bytes" => (k_here; k_dflt ((first | with_reducible refine kda_set (knd := PySem.W.bytesKind _ _) (by k_dflt (k_asm)) (by k_dflt (k_asm)) (by k_dflt (k_updF)) (by k_dflt (k_asm)) (bytesKind_at _ _ _ _) (by k_dflt (rw [sizeLine_eq]; exact Nat.le_of_ble_eq_true (by with_unfolding_all rfl))) ?_ | refine kda_set (knd := PySem.W.bytesKind _ _) (by k_asm) (by k_asm) (by k_updF) (by k_asm) (bytesKind_at _ _ _ _) (by rw [sizeLine_eq]; exact Nat.le_of_ble_eq_true (by with_unfolding_all rfl)) ?_)); intro h' o' F' N' hd'; (try dsimp only at N'); (try rw [stored_mixed] at hd'); (try rw [stored_nil] at hd')))
  (k_with "call builtin:len" => (k_here; (with_reducible show wpAny _ _ (call (Value.builtin "len") [Value.ref _]) _ _ _); k_dflt ((first | with_reducible refine kda_len (knd := PySem.W.bytesKind _ _) (by k_dflt (k_asm)) (by k_dflt (k_mem)) (by k_dflt (k_asm)) (by k_dflt (k_asm)) (Nat.le_of_ble_eq_true (by with_unfolding_all rfl)) ?_ | refine kda_len (knd := PySem.W.bytesKind _ _) (by k_asm) (by k_mem) (by k_asm) (by k_asm) (Nat.le_of_ble_eq_true (by with_unfolding_all rfl)) ?_))))
  (k_with "LeaveK" => ((try ((rename RestIn _ _ _ _ => rI); (rename Fr _ _ _ _ => lF'); (have rJ := RestIn.keeps rI lF'); (try ((rename News _ _ _ _ => lN'); (have rK := RestIn.apart rI lN'))))); (k_dflt ((first | with_reducible refine leaveK_ (by k_dflt (k_asm)) (by k_dflt (k_asm)) ?_ | refine leaveK_ (by k_asm) (by k_asm) ?_); k_whole); intro kF kN; ground_anew kF; (have kX := kFor kF (by k_asm)); (try dsimp only [InitBack, CmpBack, LenBack, StrBack, BoolBack]); (try refine ⟨rfl, ?_⟩); (try dsimp only [CmpBack, LenBack, StrBack, BoolBack]); (try (refine ⟨⟨by omega, by omega⟩, ?_⟩)); (try (refine handed_on rfl ?_; try dsimp only)))))
  trivial
theorem seqIndex_zero (v : Value) (l : List Value) : seqIndex? 0 ((v :: l).toArray).size = some 0 := by
  simp [seqIndex?]
theorem popAtO {prog : Program} {w : World} {A : Around} {E : Value → Shared → Prop} {s : Shared} {h₀ : Heap} {L D : Addr} {mm : Str → Option Value} {news news' : List (Addr × Obj)} {its : Array Value} {n : Nat} {i : Int} {u : Tok} {k : Nat} {p q : List Value} {y : Value} {Q : Value → Shared → Prop} (F : Fr h₀ L s.heap mm) (N : News h₀ L s.heap news)
    (U : Upd D (listOf its n) (listOf (p ++ q).toArray (n + 1)) news news') (hf : Builtin.List.listFitsIndex i = true) (hk : seqIndex? i its.size = some k) (e : kl_cut its.toList k = some (p, y, q))
    (hz : its.toList.length ≤ sizeLine) (h : ∀ h', Fr h₀ L h' mm → News h₀ L h' news' → Q y { s with heap := h' }) : wpAny (model prog w) A (call (.builtin "list.pop") [.ref D, .int i u]) Q E s :=
  kl_popAt F N hf hk e U hz h
theorem wordsSDrawc : True := by
  (k_with "call builtin:list.pop" => (k_here; k_dflt ((with_reducible show wpAny _ _ (call (Value.builtin _) [Value.ref _, Value.int _ _]) _ _ _); (first | with_reducible refine popAtO (by k_dflt (k_asm)) (by k_dflt (k_asm)) (by k_dflt (k_upd)) (by k_dflt (rfl)) (by k_dflt (exact seqIndex_zero _ _)) (by k_dflt (rfl)) (by k_dflt ((rw [sizeLine_eq]; simp only [List.length_cons] at *; omega))) ?_ | refine popAtO (by k_asm) (by k_asm) (by k_upd) (by rfl) (by exact seqIndex_zero _ _) (by rfl) (by (rw [sizeLine_eq]; simp only [List.length_cons] at *; omega)) ?_)); intro h' F' N'; (try dsimp only [List.nil_append, List.cons_append] at N')))
  trivial

def DeckOk (w : World) (oD : Obj) (lL : Addr) (vs : List Value) : Prop :=
  ∃ (mx : Int) (tx : Tok) (ns : List Int), oD.IsDictOf (PySem.strKind PySem.Challenge.rw_nt0280_01.row.prog w) [(Str.ofString "left", .ref lL), (Str.ofString "mixed", .int mx tx)] ∧ IntsAre vs ns ∧ (∀ k ∈ ns, 0 ≤ k ∧ k < 1000003) ∧ 0 ≤ mx ∧ mx < 1000003 ∧ vs.length ≤ 63
theorem fmod_in {a n : Int} (h : 0 < n) : 0 ≤ a.fmod n ∧ a.fmod n < n := ⟨Int.fmod_nonneg_of_pos _ h, Int.fmod_lt_of_pos _ h⟩
section
variable {w : World} {p : Program} {loose : List Str} {mean : ExcName → Option Value} {mg mb : Str → Option Value}
  {dp un : Nat} {gd : Option (List Code)} {cn : Str} {cs : Scope} {a : Addr} {ccd : Value} {cl : List (Str × Addr)} {outer : List Env} {A₀ : Around} {base h₀ : Heap} {L : Addr} {m : Str → Option Value} {s : Shared} {Q E : Value → Shared → Prop}

theorem draw {news : List (Addr × Obj)} {tm : Tok} {lL dD : Addr} {oD : Obj} {vs : List Value} {nn : Nat} {many : Int}
    (B : Below A₀ base outer h₀) (F : Fr h₀ L s.heap m) (X : (hd.heap_1 w.params).In h₀) (N : News h₀ L s.heap [(dD, oD), (lL, listOf vs.toArray nn)]) (NR : News h₀ L s.heap news) (hx : Apart [(dD, oD), (lL, listOf vs.toArray nn)] news) (T : Top p loose mean mg mb h₀) (hk : cs.kind = .function)
    (hd : dp + 5 < recursionLimit) (hu : un + 100 < cLine)
    (hD : DeckOk w oD lL vs) (hlo : (dD == sysModules) = false) (hl : @Ne Nat lL dD) (hm0 : 0 < many) (hm1 : many < 1000)
    (ret : ∀ (r : Int) (t : Tok) (h' : Heap) (tk' : Nat) (oD' : Obj) (vs' : List Value) (nn' : Nat), 0 ≤ r → r < many → DeckOk w oD' lL vs' → Fr h₀ L h' m → News h₀ L h' ((dD, oD') :: (lL, listOf vs'.toArray nn') :: news) → Q (.int r t) { s with heap := h', toks := tk' }) :
    wpAny (model PySem.Challenge.rw_nt0280_01.row.prog w) (ktrTop dp un gd cn cs L a ccd cl outer) (call (.ref 267) [.ref dD, .int many tm]) Q E s := by
  revert X; k_fill; intro X
  obtain ⟨mx, tx, ns, hD, hi, hr, hx0, hx1, hlen⟩ := hD
  have hmod := fmod_in (a := mx * 4801 + 97) (n := 1000003) (by decide)
  cases hi with
  | nil =>
    refine wpAny_call ?_
    k_dflt (first   | (refine' code_defR ?k1 ?k2 ?k3 N NR hx ?k5 ?kA ?kF ?kK ?k6 ?k7 ?k8 ?k9 ?kB ?_ ?c2 ?c3 ?c4 ?c5; (case kA => exact rfl); (case kF => exact rfl); (case kK => first | exact rfl | assumption); (case k1 => k_asm); (case k2 => k_asm); (case k3 => k_asm); (case k5 => k_asm); (case k6 => k_is); (case k7 => k_is); (case k8 => ktr_room); (case k9 => first | exact BindsTo.of_eq rfl | exact binds_K (by k_in) rfl (by k_is) rfl rfl rfl); (case c5 => decide); (case kB => exact locs rfl); (case c2 => exact rfl); (case c3 => exact rfl); (case c4 => exact rfl); k_whole; clear N NR hx; intro g' L' h' FG' F' N' B' X' T' R' l1; (try k_lt l1); (try dsimp only); (try k_lift B'); (try k_fold))   | (refine' code_defCR ?k1 ?k2 ?k3 N NR hx ?k5 ?kA ?kF ?kK ?k6 ?k7 ?k8 ?k9 ?kB ?kD ?_ ?c2 ?c3 ?c4; (case kA => exact rfl); (case kF => exact rfl); (case kK => first | exact rfl | assumption); (case k1 => k_asm); (case k2 => k_asm); (case k3 => k_asm); (case k5 => k_asm); (case k6 => k_is); (case k7 => k_is); (case k8 => ktr_room); (case k9 => first | exact BindsTo.of_eq rfl | exact binds_K (by k_in) rfl (by k_is) rfl rfl rfl); (case kB => exact rfl); (case kD => decide +kernel); (case c2 => exact rfl); (case c3 => exact rfl); (case c4 => exact rfl); k_whole; clear N NR hx; intro g' L' h' tk' cells' FG' F' N' Y' B' X' T' R' l1; (try k_lt l1); k_cells Y'; (try simp only [List.cons_append, List.nil_append] at N'); (try dsimp only); (try k_lift B'); (try k_fold)))
    w_strict (k_steps; (all_goals (try k_data)))
    exact ret _ _ _ _ _ [] _ (fmod_in hm0).1 (fmod_in hm0).2 ⟨_, _, [], by assumption, .nil, hr, hmod.1, hmod.2, hlen⟩ (by k_asm) ((by assumption : RestIn _ _ _ _).with (l := [_, _]) (news_tail (by k_asm)))
  | cons n t hi =>
    refine wpAny_call ?_
    k_dflt (first   | (refine' code_defR ?k1 ?k2 ?k3 N NR hx ?k5 ?kA ?kF ?kK ?k6 ?k7 ?k8 ?k9 ?kB ?_ ?c2 ?c3 ?c4 ?c5; (case kA => exact rfl); (case kF => exact rfl); (case kK => first | exact rfl | assumption); (case k1 => k_asm); (case k2 => k_asm); (case k3 => k_asm); (case k5 => k_asm); (case k6 => k_is); (case k7 => k_is); (case k8 => ktr_room); (case k9 => first | exact BindsTo.of_eq rfl | exact binds_K (by k_in) rfl (by k_is) rfl rfl rfl); (case c5 => decide); (case kB => exact locs rfl); (case c2 => exact rfl); (case c3 => exact rfl); (case c4 => exact rfl); k_whole; clear N NR hx; intro g' L' h' FG' F' N' B' X' T' R' l1; (try k_lt l1); (try dsimp only); (try k_lift B'); (try k_fold))   | (refine' code_defCR ?k1 ?k2 ?k3 N NR hx ?k5 ?kA ?kF ?kK ?k6 ?k7 ?k8 ?k9 ?kB ?kD ?_ ?c2 ?c3 ?c4; (case kA => exact rfl); (case kF => exact rfl); (case kK => first | exact rfl | assumption); (case k1 => k_asm); (case k2 => k_asm); (case k3 => k_asm); (case k5 => k_asm); (case k6 => k_is); (case k7 => k_is); (case k8 => ktr_room); (case k9 => first | exact BindsTo.of_eq rfl | exact binds_K (by k_in) rfl (by k_is) rfl rfl rfl); (case kB => exact rfl); (case kD => decide +kernel); (case c2 => exact rfl); (case c3 => exact rfl); (case c4 => exact rfl); k_whole; clear N NR hx; intro g' L' h' tk' cells' FG' F' N' Y' B' X' T' R' l1; (try k_lt l1); k_cells Y'; (try simp only [List.cons_append, List.nil_append] at N'); (try dsimp only); (try k_lift B'); (try k_fold)))
    w_strict (k_steps; (all_goals (try k_data)))
    · exact absurd (of_decide_eq_true (by assumption)) (List.cons_ne_nil _ _)
    exact ret _ _ _ _ _ _ _ (fmod_in hm0).1 (fmod_in hm0).2 ⟨mx, tx, _, hD, hi, fun k hk => hr k (.tail _ hk), hx0, hx1, by simp only [List.length_cons] at hlen; omega⟩ (by k_asm) ((by assumption : RestIn _ _ _ _).with (l := [_, _]) (news_tail (by k_asm)))
end

end

section
theorem wordsSDeckb : True := by
  w_top off
  k_with_none
  (k_with "exec For Name Subscript cons nil" => (k_here; (rename Fr _ _ _ _ => lF'); (with_unfolding_all refine For_invVF lF' (by exact rfl) (by exact rfl) ?_; k_whole)))
  (k_with "call ref" => (k_here; k_dflt (first | (refine call_meth (by k_asm) (by k_mem) ?_; k_whole; (first | ((first | with_reducible refine code_defO (by k_dflt (exact rfl)) (by k_dflt (exact rfl)) (by k_dflt (first | exact rfl | assumption)) (by k_dflt (k_asm)) (by k_dflt (k_asm)) (by k_dflt (k_asm)) (by k_dflt (k_asm)) (by k_dflt (k_asm)) (by k_dflt (k_is)) (by k_dflt (k_is)) (by k_dflt (ktr_room)) (by k_dflt (first | exact BindsTo.of_eq rfl | exact binds_K (by k_in) rfl (by k_is) rfl rfl rfl)) (by k_dflt (decide)) (by k_dflt (exact locs rfl)) (by k_dflt (exact rfl)) (by k_dflt (exact rfl)) (by k_dflt (exact rfl)) ?_ | refine code_defO (by exact rfl) (by exact rfl) (by first | exact rfl | assumption) (by k_asm) (by k_asm) (by k_asm) (by k_asm) (by k_asm) (by k_is) (by k_is) (by ktr_room) (by first | exact BindsTo.of_eq rfl | exact binds_K (by k_in) rfl (by k_is) rfl rfl rfl) (by decide) (by exact locs rfl) (by exact rfl) (by exact rfl) (by exact rfl) ?_); k_whole; intro g' L' h' FG' F' N' B' X' T'; (try dsimp only); (try k_lift B'); (try k_fold)) | ((first | with_reducible refine code_defCO (by k_dflt (exact rfl)) (by k_dflt (exact rfl)) (by k_dflt (first | exact rfl | assumption)) (by k_dflt (k_asm)) (by k_dflt (k_asm)) (by k_dflt (k_asm)) (by k_dflt (k_asm)) (by k_dflt (k_asm)) (by k_dflt (k_is)) (by k_dflt (k_is)) (by k_dflt (ktr_room)) (by k_dflt (first | exact BindsTo.of_eq rfl | exact binds_K (by k_in) rfl (by k_is) rfl rfl rfl)) (by k_dflt (exact rfl)) (by k_dflt (decide +kernel)) (by k_dflt (exact rfl)) (by k_dflt (exact rfl)) (by k_dflt (exact rfl)) ?_ | refine code_defCO (by exact rfl) (by exact rfl) (by first | exact rfl | assumption) (by k_asm) (by k_asm) (by k_asm) (by k_asm) (by k_asm) (by k_is) (by k_is) (by ktr_room) (by first | exact BindsTo.of_eq rfl | exact binds_K (by k_in) rfl (by k_is) rfl rfl rfl) (by exact rfl) (by decide +kernel) (by exact rfl) (by exact rfl) (by exact rfl) ?_); k_whole; intro g' L' h' tk' cells' FG' F' N' Y' B' X' T' l1; (try k_lt l1); k_cells Y'; (try simp only [List.cons_append, List.nil_append] at N'); (try dsimp only); (try k_lift B'); (try k_fold)))) | ((first | with_reducible refine call_cls (by k_dflt (k_asm)) (by k_dflt (k_asm)) (by k_dflt (k_asm)) (by k_dflt (k_is)) (by k_dflt (k_is)) (by k_dflt (k_is)) ?_ | refine call_cls (by k_asm) (by k_asm) (by k_asm) (by k_is) (by k_is) (by k_is) ?_); k_whole; intro x' d' h' F' N' l1 l2; (try k_lt l1); (try k_lt2 l2); (try k_sweep); (first | ((first | with_reducible refine code_defO (by k_dflt (exact rfl)) (by k_dflt (exact rfl)) (by k_dflt (first | exact rfl | assumption)) (by k_dflt (k_asm)) (by k_dflt (k_asm)) (by k_dflt (k_asm)) (by k_dflt (k_asm)) (by k_dflt (k_asm)) (by k_dflt (k_is)) (by k_dflt (k_is)) (by k_dflt (ktr_room)) (by k_dflt (first | exact BindsTo.of_eq rfl | exact binds_K (by k_in) rfl (by k_is) rfl rfl rfl)) (by k_dflt (decide)) (by k_dflt (exact locs rfl)) (by k_dflt (exact rfl)) (by k_dflt (exact rfl)) (by k_dflt (exact rfl)) ?_ | refine code_defO (by exact rfl) (by exact rfl) (by first | exact rfl | assumption) (by k_asm) (by k_asm) (by k_asm) (by k_asm) (by k_asm) (by k_is) (by k_is) (by ktr_room) (by first | exact BindsTo.of_eq rfl | exact binds_K (by k_in) rfl (by k_is) rfl rfl rfl) (by decide) (by exact locs rfl) (by exact rfl) (by exact rfl) (by exact rfl) ?_); k_whole; intro g' L' h' FG' F' N' B' X' T'; (try dsimp only); (try k_lift B'); (try k_fold)) | ((first | with_reducible refine code_defCO (by k_dflt (exact rfl)) (by k_dflt (exact rfl)) (by k_dflt (first | exact rfl | assumption)) (by k_dflt (k_asm)) (by k_dflt (k_asm)) (by k_dflt (k_asm)) (by k_dflt (k_asm)) (by k_dflt (k_asm)) (by k_dflt (k_is)) (by k_dflt (k_is)) (by k_dflt (ktr_room)) (by k_dflt (first | exact BindsTo.of_eq rfl | exact binds_K (by k_in) rfl (by k_is) rfl rfl rfl)) (by k_dflt (exact rfl)) (by k_dflt (decide +kernel)) (by k_dflt (exact rfl)) (by k_dflt (exact rfl)) (by k_dflt (exact rfl)) ?_ | refine code_defCO (by exact rfl) (by exact rfl) (by first | exact rfl | assumption) (by k_asm) (by k_asm) (by k_asm) (by k_asm) (by k_asm) (by k_is) (by k_is) (by ktr_room) (by first | exact BindsTo.of_eq rfl | exact binds_K (by k_in) rfl (by k_is) rfl rfl rfl) (by exact rfl) (by decide +kernel) (by exact rfl) (by exact rfl) (by exact rfl) ?_); k_whole; intro g' L' h' tk' cells' FG' F' N' Y' B' X' T' l1; (try k_lt l1); k_cells Y'; (try simp only [List.cons_append, List.nil_append] at N'); (try dsimp only); (try k_lift B'); (try k_fold)))) | ((first | with_reducible refine wpAny_call ?_ | refine wpAny_call ?_); (first | ((first | with_reducible refine code_defO (by k_dflt (exact rfl)) (by k_dflt (exact rfl)) (by k_dflt (first | exact rfl | assumption)) (by k_dflt (k_asm)) (by k_dflt (k_asm)) (by k_dflt (k_asm)) (by k_dflt (k_asm)) (by k_dflt (k_asm)) (by k_dflt (k_is)) (by k_dflt (k_is)) (by k_dflt (ktr_room)) (by k_dflt (first | exact BindsTo.of_eq rfl | exact binds_K (by k_in) rfl (by k_is) rfl rfl rfl)) (by k_dflt (decide)) (by k_dflt (exact locs rfl)) (by k_dflt (exact rfl)) (by k_dflt (exact rfl)) (by k_dflt (exact rfl)) ?_ | refine code_defO (by exact rfl) (by exact rfl) (by first | exact rfl | assumption) (by k_asm) (by k_asm) (by k_asm) (by k_asm) (by k_asm) (by k_is) (by k_is) (by ktr_room) (by first | exact BindsTo.of_eq rfl | exact binds_K (by k_in) rfl (by k_is) rfl rfl rfl) (by decide) (by exact locs rfl) (by exact rfl) (by exact rfl) (by exact rfl) ?_); k_whole; intro g' L' h' FG' F' N' B' X' T'; (try dsimp only); (try k_lift B'); (try k_fold)) | ((first | with_reducible refine code_defCO (by k_dflt (exact rfl)) (by k_dflt (exact rfl)) (by k_dflt (first | exact rfl | assumption)) (by k_dflt (k_asm)) (by k_dflt (k_asm)) (by k_dflt (k_asm)) (by k_dflt (k_asm)) (by k_dflt (k_asm)) (by k_dflt (k_is)) (by k_dflt (k_is)) (by k_dflt (ktr_room)) (by k_dflt (first | exact BindsTo.of_eq rfl | exact binds_K (by k_in) rfl (by k_is) rfl rfl rfl)) (by k_dflt (exact rfl)) (by k_dflt (decide +kernel)) (by k_dflt (exact rfl)) (by k_dflt (exact rfl)) (by k_dflt (exact rfl)) ?_ | refine code_defCO (by exact rfl) (by exact rfl) (by first | exact rfl | assumption) (by k_asm) (by k_asm) (by k_asm) (by k_asm) (by k_asm) (by k_is) (by k_is) (by ktr_room) (by first | exact BindsTo.of_eq rfl | exact binds_K (by k_in) rfl (by k_is) rfl rfl rfl) (by exact rfl) (by decide +kernel) (by exact rfl) (by exact rfl) (by exact rfl) ?_); k_whole; intro g' L' h' tk' cells' FG' F' N' Y' B' X' T' l1; (try k_lt l1); k_cells Y'; (try simp only [List.cons_append, List.nil_append] at N'); (try dsimp only); (try k_lift B'); (try k_fold)))))))
  (k_with "execs cons" => (k_here; (with_reducible (refine gen_toks ?_)); intro tk))
  (k_with "execs nil" => (k_here; (with_reducible (refine gen_toks ?_)); intro tk))
  (k_with "call builtin:list.append" => (k_here; k_dflt ((first | with_reducible refine app_K (by k_dflt (k_asm)) (by k_dflt (k_asm)) (by k_dflt (k_updF)) (by k_dflt ((simp only [List.length_append, List.length_cons, List.length_nil]; omega))) ?_ | refine app_K (by k_asm) (by k_asm) (by k_updF) (by (simp only [List.length_append, List.length_cons, List.length_nil]; omega)) ?_)); intro h' F' N'; (try dsimp only at N'); (try dsimp only)))
  (k_with "call ref" => (k_here; k_dflt (((with_reducible show wpAny _ _ (call (Value.ref 85) _) _ _ _); first | with_reducible refine abe (by k_dflt (k_asm)) (by k_dflt (k_asm)) (by k_dflt (k_asm)) (by k_dflt (k_asm)) (by k_dflt (k_asm)) (by k_dflt (first | exact rfl | assumption)) (by k_dflt (ktr_room)) (by k_dflt (ktr_units)) (by k_dflt (assumption)) (by k_dflt (omega)) (by k_dflt (omega)) (by k_dflt (omega)) (by k_dflt (omega)) ?_ | refine abe (by k_asm) (by k_asm) (by k_asm) (by k_asm) (by k_asm) (by first | exact rfl | assumption) (by ktr_room) (by ktr_units) (by assumption) (by omega) (by omega) (by omega) (by omega) ?_); k_whole); intro t9 h9 tk9 F9 N9; (try dsimp only); (try k_fold)))
  (k_with "subscriptTail" => (k_here; (with_reducible show wpAny _ _ (subscriptTail _ _ (Value.ref _) (Value.str _ _)) _ _ _); k_dflt ((first | with_reducible refine kda_item (knd := PySem.strKind _ _) (by k_dflt (k_asm)) (by k_dflt (k_mem)) (by k_dflt (k_asm)) (strKind_is _ _ _ _) (by k_dflt (rfl)) ?_ | refine kda_item (knd := PySem.strKind _ _) (by k_asm) (by k_mem) (by k_asm) (strKind_is _ _ _ _) (by rfl) ?_))))
  (k_with "subscriptTail" => (k_here; (with_reducible show wpAny _ _ (subscriptTail _ _ (Value.ref _) (Value.bytes _ _)) _ _ _); k_dflt ((first | with_reducible refine kda_item (knd := PySem.W.bytesKind _ _) (by k_dflt (k_asm)) (by k_dflt (k_mem)) (by k_dflt (k_asm)) (bytesKind_at _ _ _ _) (by k_dflt (first | exact value_one _ _ | rfl)) ?_ | refine kda_item (knd := PySem.W.bytesKind _ _) (by k_asm) (by k_mem) (by k_asm) (bytesKind_at _ _ _ _) (by first | exact value_one _ _ | rfl) ?_))))
  (k_with "setItem ref str" => (k_here; k_dflt ((first | with_reducible refine kda_set (knd := PySem.strKind _ _) (by k_dflt (k_asm)) (by k_dflt (k_asm)) (by k_dflt (k_updF)) (by k_dflt (k_asm)) (strKind_is _ _ _ _) (by k_dflt (rw [sizeLine_eq]; exact Nat.le_of_ble_eq_true (by with_unfolding_all rfl))) ?_ | refine kda_set (knd := PySem.strKind _ _) (by k_asm) (by k_asm) (by k_updF) (by k_asm) (strKind_is _ _ _ _) (by rw [sizeLine_eq]; exact Nat.le_of_ble_eq_true (by with_unfolding_all rfl)) ?_)); intro h' o' F' N' hd'; (try dsimp only at N'); (try rw [stored_mixed] at hd'); (try rw [stored_nil] at hd')))
  (k_with "compareOp NotIn bytes ref" => (k_here; k_dflt ((first | with_reducible refine notin_bytes (by k_dflt (k_asm)) (by k_dflt (k_mem)) (by k_dflt (k_asm)) (by k_dflt (k_asm)) (by k_dflt (first | rfl | exact value_is _ _)) ?_ | refine notin_bytes (by k_asm) (by k_mem) (by k_asm) (by k_asm) (by first | rfl | exact value_is _ _) ?_))))
  (k_with "setItem ref bytes" => (k_here; k_dflt ((first | with_reducible refine kda_set (knd := PySem.W.bytesKind _ _) (by k_dflt (k_asm)) (by k_dflt (k_asm)) (by k_dflt (k_updF)) (by k_dflt (k_asm)) (bytesKind_at _ _ _ _) (by k_dflt (rw [sizeLine_eq]; exact Nat.le_of_ble_eq_true (by with_unfolding_all rfl))) ?_ | refine kda_set (knd := PySem.W.bytesKind _ _) (by k_asm) (by k_asm) (by k_updF) (by k_asm) (bytesKind_at _ _ _ _) (by rw [sizeLine_eq]; exact Nat.le_of_ble_eq_true (by with_unfolding_all rfl)) ?_)); intro h' o' F' N' hd'; (try dsimp only at N'); (try rw [stored_mixed] at hd'); (try rw [stored_nil] at hd')))
  (k_with "call builtin:len" => (k_here; (with_reducible show wpAny _ _ (call (Value.builtin "len") [Value.ref _]) _ _ _); k_dflt ((first | with_reducible refine kda_len (knd := PySem.W.bytesKind _ _) (by k_dflt (k_asm)) (by k_dflt (k_mem)) (by k_dflt (k_asm)) (by k_dflt (k_asm)) (Nat.le_of_ble_eq_true (by with_unfolding_all rfl)) ?_ | refine kda_len (knd := PySem.W.bytesKind _ _) (by k_asm) (by k_mem) (by k_asm) (by k_asm) (Nat.le_of_ble_eq_true (by with_unfolding_all rfl)) ?_))))
  (k_with "LeaveK" => ((try ((rename RestIn _ _ _ _ => rI); (rename Fr _ _ _ _ => lF'); (have rJ := RestIn.keeps rI lF'); (try ((rename News _ _ _ _ => lN'); (have rK := RestIn.apart rI lN'))))); (k_dflt ((first | with_reducible refine leaveK_ (by k_dflt (k_asm)) (by k_dflt (k_asm)) ?_ | refine leaveK_ (by k_asm) (by k_asm) ?_); k_whole); intro kF kN; ground_anew kF; (have kX := kFor kF (by k_asm)); (try dsimp only [InitBack, CmpBack, LenBack, StrBack, BoolBack]); (try refine ⟨rfl, ?_⟩); (try dsimp only [CmpBack, LenBack, StrBack, BoolBack]); (try (refine ⟨⟨by omega, by omega⟩, ?_⟩)); (try (refine handed_on rfl ?_; try dsimp only)))))
  trivial
theorem wordsSDeckc : True := by
  (k_with "eval ListComp" => (k_here; k_dflt ((first | with_reducible refine LCg.ListComp_U (F₀ := by k_dflt (k_asm)) (by k_dflt (with_unfolding_all rfl)) (by k_dflt (decide)) (by k_dflt (rfl)) (by k_dflt (decide)) (by k_dflt (rfl)) ?_ | refine LCg.ListComp_U (F₀ := by k_asm) (by with_unfolding_all rfl) (by decide) (by rfl) (by decide) (by rfl) ?_))))
  trivial

theorem wordsSDeckd : True := by
  (k_with "CompSrc" => (k_here; k_dflt ((first | with_reducible refine LCg.CompSrc.ledger (by k_dflt (rfl)) (by k_dflt (k_asm)) (by k_dflt (k_asm)) (by k_dflt (k_mem)) (by k_dflt (kcf_size)) ?_ | refine LCg.CompSrc.ledger (by rfl) (by k_asm) (by k_asm) (by k_mem) (by kcf_size) ?_)); intro g'; refine kcf_list (fun c => Int.fmod c 1000003) (by assumption) ?_ ?_))
  trivial

theorem deckOk {w : World} {oD : Obj} {lL : Addr} {vs : List Value} {mx : Int} {tx : Tok} {ns : List Int} (h1 : oD.IsDictOf (PySem.strKind PySem.Challenge.rw_nt0280_01.row.prog w) [(Str.ofString "left", .ref lL), (Str.ofString "mixed", .int mx tx)])
    (h2 : IntsAre vs ns) (h3 : ∀ k ∈ ns, 0 ≤ k ∧ k < 1000003) (h4 : 0 ≤ mx) (h5 : mx < 1000003) (h6 : vs.length ≤ 63) : DeckOk w oD lL vs := ⟨mx, tx, ns, h1, h2, h3, h4, h5, h6⟩
theorem fold_in : ∀ (l : List Int) (a : Int), 0 ≤ a ∧ a < 1000003 → 0 ≤ l.foldl (fun a' n' => (a' * 31 + n' + 1).fmod 1000003) a ∧ l.foldl (fun a' n' => (a' * 31 + n' + 1).fmod 1000003) a < 1000003
  | [], _, h => h
  | _ :: l, _, _ => fold_in l _ (fmod_in (by decide))
section
variable {w : World} {p : Program} {loose : List Str} {mean : ExcName → Option Value} {mg mb : Str → Option Value}
  {dp un : Nat} {gd : Option (List Code)} {cn : Str} {cs : Scope} {a : Addr} {ccd : Value} {cl : List (Str × Addr)} {outer : List Env} {A₀ : Around} {base h₀ : Heap} {L : Addr} {m : Str → Option Value} {s : Shared} {Q E : Value → Shared → Prop}

theorem deck {news : List (Addr × Obj)} {l : Addr} {vs : List Value} {ns : List Int}
    (B : Below A₀ base outer h₀) (F : Fr h₀ L s.heap m) (X : (hd.heap_1 w.params).In h₀) (NR : News h₀ L s.heap news) (T : Top p loose mean mg mb h₀) (hk : cs.kind = .function)
    (hd : dp + 2 < recursionLimit) (hu : un + 16 < cLine)
    (hl : base.IsList l vs.toArray) (hi : IntsAre vs ns) (hm : ns.length ≤ 63)
    (ret : ∀ (dD lL : Addr) (oD : Obj) (vs' : List Value) (nn : Nat) (h' : Heap) (tk' : Nat), DeckOk w oD lL vs' → (dD == sysModules) = false → @Ne Nat lL dD → (∀ p ∈ news, p.1 ≠ dD) → (∀ p ∈ news, p.1 ≠ lL) → Fr h₀ L h' m → News h₀ L h' ((dD, oD) :: (lL, listOf vs'.toArray nn) :: news) → Q (.ref dD) { s with heap := h', toks := tk' }) :
    wpAny (model PySem.Challenge.rw_nt0280_01.row.prog w) (ktrTop dp un gd cn cs L a ccd cl outer) (call (.ref 260) [.ref l]) Q E s := by
  revert X; k_fill; intro X
  have N : News h₀ L s.heap [] := News.nil
  have hx : Apart [] news := Apart.nil
  refine wpAny_call ?_
  k_dflt (first   | (refine' code_defR ?k1 ?k2 ?k3 N NR hx ?k5 ?kA ?kF ?kK ?k6 ?k7 ?k8 ?k9 ?kB ?_ ?c2 ?c3 ?c4 ?c5; (case kA => exact rfl); (case kF => exact rfl); (case kK => first | exact rfl | assumption); (case k1 => k_asm); (case k2 => k_asm); (case k3 => k_asm); (case k5 => k_asm); (case k6 => k_is); (case k7 => k_is); (case k8 => ktr_room); (case k9 => first | exact BindsTo.of_eq rfl | exact binds_K (by k_in) rfl (by k_is) rfl rfl rfl); (case c5 => decide); (case kB => exact locs rfl); (case c2 => exact rfl); (case c3 => exact rfl); (case c4 => exact rfl); k_whole; clear N NR hx; intro g' L' h' FG' F' N' B' X' T' R' l1; (try k_lt l1); (try dsimp only); (try k_lift B'); (try k_fold))   | (refine' code_defCR ?k1 ?k2 ?k3 N NR hx ?k5 ?kA ?kF ?kK ?k6 ?k7 ?k8 ?k9 ?kB ?kD ?_ ?c2 ?c3 ?c4; (case kA => exact rfl); (case kF => exact rfl); (case kK => first | exact rfl | assumption); (case k1 => k_asm); (case k2 => k_asm); (case k3 => k_asm); (case k5 => k_asm); (case k6 => k_is); (case k7 => k_is); (case k8 => ktr_room); (case k9 => first | exact BindsTo.of_eq rfl | exact binds_K (by k_in) rfl (by k_is) rfl rfl rfl); (case kB => exact rfl); (case kD => decide +kernel); (case c2 => exact rfl); (case c3 => exact rfl); (case c4 => exact rfl); k_whole; clear N NR hx; intro g' L' h' tk' cells' FG' F' N' Y' B' X' T' R' l1; (try k_lt l1); k_cells Y'; (try simp only [List.cons_append, List.nil_append] at N'); (try dsimp only); (try k_lift B'); (try k_fold)))
  w_strict (repeat' (first | (k_unfold; (try dsimp only)) | walk1 | (dsimp only; walk1) | (leave1; try dsimp only) | fail "no step"))
  dsimp only
  refine' ret _ _ _ _ _ _ _ (deckOk ?hd ?hi ?hr ?b0 ?b1 ?hl) (by assumption) ?n1 (Apart.one (by assumption)) (Apart.one (Apart.tail (Apart.tail (by assumption)))) (by k_asm) ((by assumption : RestIn _ _ _ _).with (l := [_, _]) (news_13 (by k_asm)))
  case hd => assumption
  case hi => assumption
  case hr =>
    intro k hk
    obtain ⟨c, _, rfl⟩ := List.mem_map.mp hk
    exact fmod_in (by decide)
  case b0 => exact (fold_in _ _ (by decide)).1
  case b1 => exact (fold_in _ _ (by decide)).2
  case hl =>
    have h1 := (by assumption : IntsAre _ (List.map (fun c : Int => c.fmod 1000003) _)).length
    rw [List.length_map, List.length_take] at h1
    omega
  case n1 => omega
end

end

section
theorem wordsSBigb : True := by
  w_top off
  k_with_none
  (k_with "exec For Name Subscript cons nil" => (k_here; (rename Fr _ _ _ _ => lF'); (with_unfolding_all refine For_invVF lF' (by exact rfl) (by exact rfl) ?_; k_whole)))
  (k_with "call ref" => (k_here; k_dflt (first | (refine call_meth (by k_asm) (by k_mem) ?_; k_whole; (first | ((first | with_reducible refine code_defO (by k_dflt (exact rfl)) (by k_dflt (exact rfl)) (by k_dflt (first | exact rfl | assumption)) (by k_dflt (k_asm)) (by k_dflt (k_asm)) (by k_dflt (k_asm)) (by k_dflt (k_asm)) (by k_dflt (k_asm)) (by k_dflt (k_is)) (by k_dflt (k_is)) (by k_dflt (ktr_room)) (by k_dflt (first | exact BindsTo.of_eq rfl | exact binds_K (by k_in) rfl (by k_is) rfl rfl rfl)) (by k_dflt (decide)) (by k_dflt (exact locs rfl)) (by k_dflt (exact rfl)) (by k_dflt (exact rfl)) (by k_dflt (exact rfl)) ?_ | refine code_defO (by exact rfl) (by exact rfl) (by first | exact rfl | assumption) (by k_asm) (by k_asm) (by k_asm) (by k_asm) (by k_asm) (by k_is) (by k_is) (by ktr_room) (by first | exact BindsTo.of_eq rfl | exact binds_K (by k_in) rfl (by k_is) rfl rfl rfl) (by decide) (by exact locs rfl) (by exact rfl) (by exact rfl) (by exact rfl) ?_); k_whole; intro g' L' h' FG' F' N' B' X' T'; (try dsimp only); (try k_lift B'); (try k_fold)) | ((first | with_reducible refine code_defCO (by k_dflt (exact rfl)) (by k_dflt (exact rfl)) (by k_dflt (first | exact rfl | assumption)) (by k_dflt (k_asm)) (by k_dflt (k_asm)) (by k_dflt (k_asm)) (by k_dflt (k_asm)) (by k_dflt (k_asm)) (by k_dflt (k_is)) (by k_dflt (k_is)) (by k_dflt (ktr_room)) (by k_dflt (first | exact BindsTo.of_eq rfl | exact binds_K (by k_in) rfl (by k_is) rfl rfl rfl)) (by k_dflt (exact rfl)) (by k_dflt (decide +kernel)) (by k_dflt (exact rfl)) (by k_dflt (exact rfl)) (by k_dflt (exact rfl)) ?_ | refine code_defCO (by exact rfl) (by exact rfl) (by first | exact rfl | assumption) (by k_asm) (by k_asm) (by k_asm) (by k_asm) (by k_asm) (by k_is) (by k_is) (by ktr_room) (by first | exact BindsTo.of_eq rfl | exact binds_K (by k_in) rfl (by k_is) rfl rfl rfl) (by exact rfl) (by decide +kernel) (by exact rfl) (by exact rfl) (by exact rfl) ?_); k_whole; intro g' L' h' tk' cells' FG' F' N' Y' B' X' T' l1; (try k_lt l1); k_cells Y'; (try simp only [List.cons_append, List.nil_append] at N'); (try dsimp only); (try k_lift B'); (try k_fold)))) | ((first | with_reducible refine call_cls (by k_dflt (k_asm)) (by k_dflt (k_asm)) (by k_dflt (k_asm)) (by k_dflt (k_is)) (by k_dflt (k_is)) (by k_dflt (k_is)) ?_ | refine call_cls (by k_asm) (by k_asm) (by k_asm) (by k_is) (by k_is) (by k_is) ?_); k_whole; intro x' d' h' F' N' l1 l2; (try k_lt l1); (try k_lt2 l2); (try k_sweep); (first | ((first | with_reducible refine code_defO (by k_dflt (exact rfl)) (by k_dflt (exact rfl)) (by k_dflt (first | exact rfl | assumption)) (by k_dflt (k_asm)) (by k_dflt (k_asm)) (by k_dflt (k_asm)) (by k_dflt (k_asm)) (by k_dflt (k_asm)) (by k_dflt (k_is)) (by k_dflt (k_is)) (by k_dflt (ktr_room)) (by k_dflt (first | exact BindsTo.of_eq rfl | exact binds_K (by k_in) rfl (by k_is) rfl rfl rfl)) (by k_dflt (decide)) (by k_dflt (exact locs rfl)) (by k_dflt (exact rfl)) (by k_dflt (exact rfl)) (by k_dflt (exact rfl)) ?_ | refine code_defO (by exact rfl) (by exact rfl) (by first | exact rfl | assumption) (by k_asm) (by k_asm) (by k_asm) (by k_asm) (by k_asm) (by k_is) (by k_is) (by ktr_room) (by first | exact BindsTo.of_eq rfl | exact binds_K (by k_in) rfl (by k_is) rfl rfl rfl) (by decide) (by exact locs rfl) (by exact rfl) (by exact rfl) (by exact rfl) ?_); k_whole; intro g' L' h' FG' F' N' B' X' T'; (try dsimp only); (try k_lift B'); (try k_fold)) | ((first | with_reducible refine code_defCO (by k_dflt (exact rfl)) (by k_dflt (exact rfl)) (by k_dflt (first | exact rfl | assumption)) (by k_dflt (k_asm)) (by k_dflt (k_asm)) (by k_dflt (k_asm)) (by k_dflt (k_asm)) (by k_dflt (k_asm)) (by k_dflt (k_is)) (by k_dflt (k_is)) (by k_dflt (ktr_room)) (by k_dflt (first | exact BindsTo.of_eq rfl | exact binds_K (by k_in) rfl (by k_is) rfl rfl rfl)) (by k_dflt (exact rfl)) (by k_dflt (decide +kernel)) (by k_dflt (exact rfl)) (by k_dflt (exact rfl)) (by k_dflt (exact rfl)) ?_ | refine code_defCO (by exact rfl) (by exact rfl) (by first | exact rfl | assumption) (by k_asm) (by k_asm) (by k_asm) (by k_asm) (by k_asm) (by k_is) (by k_is) (by ktr_room) (by first | exact BindsTo.of_eq rfl | exact binds_K (by k_in) rfl (by k_is) rfl rfl rfl) (by exact rfl) (by decide +kernel) (by exact rfl) (by exact rfl) (by exact rfl) ?_); k_whole; intro g' L' h' tk' cells' FG' F' N' Y' B' X' T' l1; (try k_lt l1); k_cells Y'; (try simp only [List.cons_append, List.nil_append] at N'); (try dsimp only); (try k_lift B'); (try k_fold)))) | ((first | with_reducible refine wpAny_call ?_ | refine wpAny_call ?_); (first | ((first | with_reducible refine code_defO (by k_dflt (exact rfl)) (by k_dflt (exact rfl)) (by k_dflt (first | exact rfl | assumption)) (by k_dflt (k_asm)) (by k_dflt (k_asm)) (by k_dflt (k_asm)) (by k_dflt (k_asm)) (by k_dflt (k_asm)) (by k_dflt (k_is)) (by k_dflt (k_is)) (by k_dflt (ktr_room)) (by k_dflt (first | exact BindsTo.of_eq rfl | exact binds_K (by k_in) rfl (by k_is) rfl rfl rfl)) (by k_dflt (decide)) (by k_dflt (exact locs rfl)) (by k_dflt (exact rfl)) (by k_dflt (exact rfl)) (by k_dflt (exact rfl)) ?_ | refine code_defO (by exact rfl) (by exact rfl) (by first | exact rfl | assumption) (by k_asm) (by k_asm) (by k_asm) (by k_asm) (by k_asm) (by k_is) (by k_is) (by ktr_room) (by first | exact BindsTo.of_eq rfl | exact binds_K (by k_in) rfl (by k_is) rfl rfl rfl) (by decide) (by exact locs rfl) (by exact rfl) (by exact rfl) (by exact rfl) ?_); k_whole; intro g' L' h' FG' F' N' B' X' T'; (try dsimp only); (try k_lift B'); (try k_fold)) | ((first | with_reducible refine code_defCO (by k_dflt (exact rfl)) (by k_dflt (exact rfl)) (by k_dflt (first | exact rfl | assumption)) (by k_dflt (k_asm)) (by k_dflt (k_asm)) (by k_dflt (k_asm)) (by k_dflt (k_asm)) (by k_dflt (k_asm)) (by k_dflt (k_is)) (by k_dflt (k_is)) (by k_dflt (ktr_room)) (by k_dflt (first | exact BindsTo.of_eq rfl | exact binds_K (by k_in) rfl (by k_is) rfl rfl rfl)) (by k_dflt (exact rfl)) (by k_dflt (decide +kernel)) (by k_dflt (exact rfl)) (by k_dflt (exact rfl)) (by k_dflt (exact rfl)) ?_ | refine code_defCO (by exact rfl) (by exact rfl) (by first | exact rfl | assumption) (by k_asm) (by k_asm) (by k_asm) (by k_asm) (by k_asm) (by k_is) (by k_is) (by ktr_room) (by first | exact BindsTo.of_eq rfl | exact binds_K (by k_in) rfl (by k_is) rfl rfl rfl) (by exact rfl) (by decide +kernel) (by exact rfl) (by exact rfl) (by exact rfl) ?_); k_whole; intro g' L' h' tk' cells' FG' F' N' Y' B' X' T' l1; (try k_lt l1); k_cells Y'; (try simp only [List.cons_append, List.nil_append] at N'); (try dsimp only); (try k_lift B'); (try k_fold)))))))
  (k_with "execs cons" => (k_here; (with_reducible (refine gen_toks ?_)); intro tk))
  (k_with "execs nil" => (k_here; (with_reducible (refine gen_toks ?_)); intro tk))
  (k_with "call builtin:list.append" => (k_here; k_dflt ((first | with_reducible refine app_K (by k_dflt (k_asm)) (by k_dflt (k_asm)) (by k_dflt (k_updF)) (by k_dflt ((simp only [List.length_append, List.length_cons, List.length_nil]; omega))) ?_ | refine app_K (by k_asm) (by k_asm) (by k_updF) (by (simp only [List.length_append, List.length_cons, List.length_nil]; omega)) ?_)); intro h' F' N'; (try dsimp only at N'); (try dsimp only)))
  (k_with "compareOp Lt bytes bytes" => refine lt_bytes ?_)
  (k_with "compareOp LtE bytes bytes" => refine le_bytes ?_)
  (k_with "LeaveK" => ((try ((rename RestIn _ _ _ _ => rI); (rename Fr _ _ _ _ => lF'); (have rJ := RestIn.keeps rI lF'); (try ((rename News _ _ _ _ => lN'); (have rK := RestIn.apart rI lN'))))); (k_dflt ((first | with_reducible refine leaveK_ (by k_dflt (k_asm)) (by k_dflt (k_asm)) ?_ | refine leaveK_ (by k_asm) (by k_asm) ?_); k_whole); intro kF kN; ground_anew kF; (have kX := kFor kF (by k_asm)); (try dsimp only [InitBack, CmpBack, LenBack, StrBack, BoolBack]); (try refine ⟨rfl, ?_⟩); (try dsimp only [CmpBack, LenBack, StrBack, BoolBack]); (try (refine ⟨⟨by omega, by omega⟩, ?_⟩)); (try (refine handed_on rfl ?_; try dsimp only)))))
  trivial
def beL (m : Nat) (x : Int) : List Int := (downL ((m : Int) - 1) m).map fun k => (x.fdiv (256 ^ k.toNat)).fmod 256
theorem relInts {g : Int → Int} : ∀ {ks : List Int} {vs : List Value}, RelL (fun k y => ∃ t, y = Value.int (g k) t) ks vs → IntsAre vs (ks.map g)
  | _, _, .nil => .nil
  | _, _, .cons ⟨t, e⟩ r => by
    subst e
    exact .cons _ t (relInts r)
theorem beL_in (l : List Int) (x : Int) : KBa.In (l.map fun k => (x.fdiv (256 ^ k.toNat)).fmod 256) := by
  intro n hn
  obtain ⟨k, _, rfl⟩ := List.mem_map.mp hn
  exact ⟨Int.fmod_nonneg_of_pos _ (by decide), Int.fmod_lt_of_pos _ (by decide)⟩
theorem wordsSBigc : True := by
  (k_with "call type:bytes" => (k_here; (with_reducible show wpAny _ _ (call (Value.type "bytes") [Value.ref _]) _ _ _); k_dflt ((first | with_reducible refine KBa.make_K (by k_dflt (k_asm)) (by k_dflt (k_asm)) (by k_dflt (rfl)) (by k_dflt (kba_isList)) (by k_dflt (assumption)) (by k_dflt (exact beL_in _ _)) (by k_dflt (exact Nat.le_of_ble_eq_true rfl)) ?_ | refine KBa.make_K (by k_asm) (by k_asm) (by rfl) (by kba_isList) (by assumption) (by exact beL_in _ _) (by exact Nat.le_of_ble_eq_true rfl) ?_)); intro _ _ _ F' N' kbaIn))
  trivial

theorem wordsSBigd : True := by
  (k_with "eval ListComp" => (k_here; k_dflt ((first | with_reducible refine ListComp_D (F₀ := by k_dflt (k_asm)) (by k_dflt (with_unfolding_all rfl)) (by k_dflt (decide)) (by k_dflt (rfl)) (by k_dflt (decide)) (by k_dflt (rfl)) ?_ | refine ListComp_D (F₀ := by k_asm) (by with_unfolding_all rfl) (by decide) (by rfl) (by decide) (by rfl) ?_))))
  trivial

section
variable {w : World} {p : Program} {loose : List Str} {mean : ExcName → Option Value} {mg mb : Str → Option Value}
  {dp un : Nat} {gd : Option (List Code)} {cn : Str} {cs : Scope} {a : Addr} {ccd : Value} {cl : List (Str × Addr)} {outer : List Env} {A₀ : Around} {base h₀ : Heap} {L : Addr} {m : Str → Option Value} {s : Shared} {Q E : Value → Shared → Prop}

theorem big4 {news : List (Addr × Obj)} {x : Int} {t1 t2 : Tok}
    (B : Below A₀ base outer h₀) (F : Fr h₀ L s.heap m) (X : (hd.heap_1 w.params).In h₀) (NR : News h₀ L s.heap news) (T : Top p loose mean mg mb h₀) (hk : cs.kind = .function)
    (hd : dp + 2 < recursionLimit) (hu : un + 16 < cLine)
    (ret : ∀ (b : Array UInt8) (t : Tok) (h' : Heap) (tk' : Nat), KBw.bInts b = beL 4 x → Fr h₀ L h' m → News h₀ L h' news → Q (.bytes b t) { s with heap := h', toks := tk' }) :
    wpAny (model PySem.Challenge.rw_nt0280_01.row.prog w) (ktrTop dp un gd cn cs L a ccd cl outer) (call (.ref 272) [.int x t1, .int 4 t2]) Q E s := by
  revert X; k_fill; intro X
  have N : News h₀ L s.heap [] := News.nil
  have hx : Apart [] news := Apart.nil
  refine wpAny_call ?_
  k_dflt (first   | (refine' code_defR ?k1 ?k2 ?k3 N NR hx ?k5 ?kA ?kF ?kK ?k6 ?k7 ?k8 ?k9 ?kB ?_ ?c2 ?c3 ?c4 ?c5; (case kA => exact rfl); (case kF => exact rfl); (case kK => first | exact rfl | assumption); (case k1 => k_asm); (case k2 => k_asm); (case k3 => k_asm); (case k5 => k_asm); (case k6 => k_is); (case k7 => k_is); (case k8 => ktr_room); (case k9 => first | exact BindsTo.of_eq rfl | exact binds_K (by k_in) rfl (by k_is) rfl rfl rfl); (case c5 => decide); (case kB => exact locs rfl); (case c2 => exact rfl); (case c3 => exact rfl); (case c4 => exact rfl); k_whole; clear N NR hx; intro g' L' h' FG' F' N' B' X' T' R' l1; (try k_lt l1); (try dsimp only); (try k_lift B'); (try k_fold))   | (refine' code_defCR ?k1 ?k2 ?k3 N NR hx ?k5 ?kA ?kF ?kK ?k6 ?k7 ?k8 ?k9 ?kB ?kD ?_ ?c2 ?c3 ?c4; (case kA => exact rfl); (case kF => exact rfl); (case kK => first | exact rfl | assumption); (case k1 => k_asm); (case k2 => k_asm); (case k3 => k_asm); (case k5 => k_asm); (case k6 => k_is); (case k7 => k_is); (case k8 => ktr_room); (case k9 => first | exact BindsTo.of_eq rfl | exact binds_K (by k_in) rfl (by k_is) rfl rfl rfl); (case kB => exact rfl); (case kD => decide +kernel); (case c2 => exact rfl); (case c3 => exact rfl); (case c4 => exact rfl); k_whole; clear N NR hx; intro g' L' h' tk' cells' FG' F' N' Y' B' X' T' R' l1; (try k_lt l1); k_cells Y'; (try simp only [List.cons_append, List.nil_append] at N'); (try dsimp only); (try k_lift B'); (try k_fold)))
  w_strict (repeat' (first | (k_unfold; (try dsimp only)) | walk1 | (dsimp only; walk1) | (leave1; try dsimp only) | fail "no step"))
  refine SrcDown.mk (n := 4) (by rfl) (by k_asm) (by k_asm) (by assumption) (by decide) (by rfl) (by decide) (fun k y => ∃ t, y = Value.int ((x.fdiv (256 ^ k.toNat)).fmod 256) t) ?_ ?_
  · intro g k t I oI C oC D m₂ ys h tk E' hk0 hk1 hC hxx F N off ne mk
    have k4 : k = 0 ∨ k = 1 ∨ k = 2 ∨ k = 3 := by omega
    (try simp only [LCg.Off3, and_true] at off)
    rcases k4 with rfl | rfl | rfl | rfl
    all_goals (w_strict (repeat' (first | (k_unfold; (try dsimp only)) | walk1 | (dsimp only; walk1) | (leave1; try dsimp only) | fail "no step")))
  · intro g
    unfold KPfDone
    intro ys hys
    have hI := relInts hys
    dsimp only
    w_strict (repeat' (first | (k_unfold; (try dsimp only)) | walk1 | (dsimp only; walk1) | (leave1; try dsimp only) | fail "no step"))
    exact ret _ _ _ _ (KBa.ints_make (by assumption)) (by k_asm) ((by assumption : RestIn _ _ _ _).news)
end
section
variable {w : World} {p : Program} {loose : List Str} {mean : ExcName → Option Value} {mg mb : Str → Option Value}
  {dp un : Nat} {gd : Option (List Code)} {cn : Str} {cs : Scope} {a : Addr} {ccd : Value} {cl : List (Str × Addr)} {outer : List Env} {A₀ : Around} {base h₀ : Heap} {L : Addr} {m : Str → Option Value} {s : Shared} {Q E : Value → Shared → Prop}

theorem big8 {news : List (Addr × Obj)} {x : Int} {t1 t2 : Tok}
    (B : Below A₀ base outer h₀) (F : Fr h₀ L s.heap m) (X : (hd.heap_1 w.params).In h₀) (NR : News h₀ L s.heap news) (T : Top p loose mean mg mb h₀) (hk : cs.kind = .function)
    (hd : dp + 2 < recursionLimit) (hu : un + 16 < cLine)
    (ret : ∀ (b : Array UInt8) (t : Tok) (h' : Heap) (tk' : Nat), KBw.bInts b = beL 8 x → Fr h₀ L h' m → News h₀ L h' news → Q (.bytes b t) { s with heap := h', toks := tk' }) :
    wpAny (model PySem.Challenge.rw_nt0280_01.row.prog w) (ktrTop dp un gd cn cs L a ccd cl outer) (call (.ref 272) [.int x t1, .int 8 t2]) Q E s := by
  revert X; k_fill; intro X
  have N : News h₀ L s.heap [] := News.nil
  have hx : Apart [] news := Apart.nil
  refine wpAny_call ?_
  k_dflt (first   | (refine' code_defR ?k1 ?k2 ?k3 N NR hx ?k5 ?kA ?kF ?kK ?k6 ?k7 ?k8 ?k9 ?kB ?_ ?c2 ?c3 ?c4 ?c5; (case kA => exact rfl); (case kF => exact rfl); (case kK => first | exact rfl | assumption); (case k1 => k_asm); (case k2 => k_asm); (case k3 => k_asm); (case k5 => k_asm); (case k6 => k_is); (case k7 => k_is); (case k8 => ktr_room); (case k9 => first | exact BindsTo.of_eq rfl | exact binds_K (by k_in) rfl (by k_is) rfl rfl rfl); (case c5 => decide); (case kB => exact locs rfl); (case c2 => exact rfl); (case c3 => exact rfl); (case c4 => exact rfl); k_whole; clear N NR hx; intro g' L' h' FG' F' N' B' X' T' R' l1; (try k_lt l1); (try dsimp only); (try k_lift B'); (try k_fold))   | (refine' code_defCR ?k1 ?k2 ?k3 N NR hx ?k5 ?kA ?kF ?kK ?k6 ?k7 ?k8 ?k9 ?kB ?kD ?_ ?c2 ?c3 ?c4; (case kA => exact rfl); (case kF => exact rfl); (case kK => first | exact rfl | assumption); (case k1 => k_asm); (case k2 => k_asm); (case k3 => k_asm); (case k5 => k_asm); (case k6 => k_is); (case k7 => k_is); (case k8 => ktr_room); (case k9 => first | exact BindsTo.of_eq rfl | exact binds_K (by k_in) rfl (by k_is) rfl rfl rfl); (case kB => exact rfl); (case kD => decide +kernel); (case c2 => exact rfl); (case c3 => exact rfl); (case c4 => exact rfl); k_whole; clear N NR hx; intro g' L' h' tk' cells' FG' F' N' Y' B' X' T' R' l1; (try k_lt l1); k_cells Y'; (try simp only [List.cons_append, List.nil_append] at N'); (try dsimp only); (try k_lift B'); (try k_fold)))
  w_strict (repeat' (first | (k_unfold; (try dsimp only)) | walk1 | (dsimp only; walk1) | (leave1; try dsimp only) | fail "no step"))
  refine SrcDown.mk (n := 8) (by rfl) (by k_asm) (by k_asm) (by assumption) (by decide) (by rfl) (by decide) (fun k y => ∃ t, y = Value.int ((x.fdiv (256 ^ k.toNat)).fmod 256) t) ?_ ?_
  · intro g k t I oI C oC D m₂ ys h tk E' hk0 hk1 hC hxx F N off ne mk
    have k4 : k = 0 ∨ k = 1 ∨ k = 2 ∨ k = 3 ∨ k = 4 ∨ k = 5 ∨ k = 6 ∨ k = 7 := by omega
    (try simp only [LCg.Off3, and_true] at off)
    rcases k4 with rfl | rfl | rfl | rfl | rfl | rfl | rfl | rfl
    all_goals (w_strict (repeat' (first | (k_unfold; (try dsimp only)) | walk1 | (dsimp only; walk1) | (leave1; try dsimp only) | fail "no step")))
  · intro g
    unfold KPfDone
    intro ys hys
    have hI := relInts hys
    dsimp only
    w_strict (repeat' (first | (k_unfold; (try dsimp only)) | walk1 | (dsimp only; walk1) | (leave1; try dsimp only) | fail "no step"))
    exact ret _ _ _ _ (KBa.ints_make (by assumption)) (by k_asm) ((by assumption : RestIn _ _ _ _).news)
end

end

section
theorem wordsEnumCb : True := by
  w_top off
  k_with_none
  (k_with "exec For Name Subscript cons nil" => (k_here; (rename Fr _ _ _ _ => lF'); (with_unfolding_all refine For_invVF lF' (by exact rfl) (by exact rfl) ?_; k_whole)))
  (k_with "call ref" => (k_here; k_dflt (first | (refine call_meth (by k_asm) (by k_mem) ?_; k_whole; (first | ((first | with_reducible refine code_defO (by k_dflt (exact rfl)) (by k_dflt (exact rfl)) (by k_dflt (first | exact rfl | assumption)) (by k_dflt (k_asm)) (by k_dflt (k_asm)) (by k_dflt (k_asm)) (by k_dflt (k_asm)) (by k_dflt (k_asm)) (by k_dflt (k_is)) (by k_dflt (k_is)) (by k_dflt (ktr_room)) (by k_dflt (first | exact BindsTo.of_eq rfl | exact binds_K (by k_in) rfl (by k_is) rfl rfl rfl)) (by k_dflt (decide)) (by k_dflt (exact locs rfl)) (by k_dflt (exact rfl)) (by k_dflt (exact rfl)) (by k_dflt (exact rfl)) ?_ | refine code_defO (by exact rfl) (by exact rfl) (by first | exact rfl | assumption) (by k_asm) (by k_asm) (by k_asm) (by k_asm) (by k_asm) (by k_is) (by k_is) (by ktr_room) (by first | exact BindsTo.of_eq rfl | exact binds_K (by k_in) rfl (by k_is) rfl rfl rfl) (by decide) (by exact locs rfl) (by exact rfl) (by exact rfl) (by exact rfl) ?_); k_whole; intro g' L' h' FG' F' N' B' X' T'; (try dsimp only); (try k_lift B'); (try k_fold)) | ((first | with_reducible refine code_defCO (by k_dflt (exact rfl)) (by k_dflt (exact rfl)) (by k_dflt (first | exact rfl | assumption)) (by k_dflt (k_asm)) (by k_dflt (k_asm)) (by k_dflt (k_asm)) (by k_dflt (k_asm)) (by k_dflt (k_asm)) (by k_dflt (k_is)) (by k_dflt (k_is)) (by k_dflt (ktr_room)) (by k_dflt (first | exact BindsTo.of_eq rfl | exact binds_K (by k_in) rfl (by k_is) rfl rfl rfl)) (by k_dflt (exact rfl)) (by k_dflt (decide +kernel)) (by k_dflt (exact rfl)) (by k_dflt (exact rfl)) (by k_dflt (exact rfl)) ?_ | refine code_defCO (by exact rfl) (by exact rfl) (by first | exact rfl | assumption) (by k_asm) (by k_asm) (by k_asm) (by k_asm) (by k_asm) (by k_is) (by k_is) (by ktr_room) (by first | exact BindsTo.of_eq rfl | exact binds_K (by k_in) rfl (by k_is) rfl rfl rfl) (by exact rfl) (by decide +kernel) (by exact rfl) (by exact rfl) (by exact rfl) ?_); k_whole; intro g' L' h' tk' cells' FG' F' N' Y' B' X' T' l1; (try k_lt l1); k_cells Y'; (try simp only [List.cons_append, List.nil_append] at N'); (try dsimp only); (try k_lift B'); (try k_fold)))) | ((first | with_reducible refine call_cls (by k_dflt (k_asm)) (by k_dflt (k_asm)) (by k_dflt (k_asm)) (by k_dflt (k_is)) (by k_dflt (k_is)) (by k_dflt (k_is)) ?_ | refine call_cls (by k_asm) (by k_asm) (by k_asm) (by k_is) (by k_is) (by k_is) ?_); k_whole; intro x' d' h' F' N' l1 l2; (try k_lt l1); (try k_lt2 l2); (try k_sweep); (first | ((first | with_reducible refine code_defO (by k_dflt (exact rfl)) (by k_dflt (exact rfl)) (by k_dflt (first | exact rfl | assumption)) (by k_dflt (k_asm)) (by k_dflt (k_asm)) (by k_dflt (k_asm)) (by k_dflt (k_asm)) (by k_dflt (k_asm)) (by k_dflt (k_is)) (by k_dflt (k_is)) (by k_dflt (ktr_room)) (by k_dflt (first | exact BindsTo.of_eq rfl | exact binds_K (by k_in) rfl (by k_is) rfl rfl rfl)) (by k_dflt (decide)) (by k_dflt (exact locs rfl)) (by k_dflt (exact rfl)) (by k_dflt (exact rfl)) (by k_dflt (exact rfl)) ?_ | refine code_defO (by exact rfl) (by exact rfl) (by first | exact rfl | assumption) (by k_asm) (by k_asm) (by k_asm) (by k_asm) (by k_asm) (by k_is) (by k_is) (by ktr_room) (by first | exact BindsTo.of_eq rfl | exact binds_K (by k_in) rfl (by k_is) rfl rfl rfl) (by decide) (by exact locs rfl) (by exact rfl) (by exact rfl) (by exact rfl) ?_); k_whole; intro g' L' h' FG' F' N' B' X' T'; (try dsimp only); (try k_lift B'); (try k_fold)) | ((first | with_reducible refine code_defCO (by k_dflt (exact rfl)) (by k_dflt (exact rfl)) (by k_dflt (first | exact rfl | assumption)) (by k_dflt (k_asm)) (by k_dflt (k_asm)) (by k_dflt (k_asm)) (by k_dflt (k_asm)) (by k_dflt (k_asm)) (by k_dflt (k_is)) (by k_dflt (k_is)) (by k_dflt (ktr_room)) (by k_dflt (first | exact BindsTo.of_eq rfl | exact binds_K (by k_in) rfl (by k_is) rfl rfl rfl)) (by k_dflt (exact rfl)) (by k_dflt (decide +kernel)) (by k_dflt (exact rfl)) (by k_dflt (exact rfl)) (by k_dflt (exact rfl)) ?_ | refine code_defCO (by exact rfl) (by exact rfl) (by first | exact rfl | assumption) (by k_asm) (by k_asm) (by k_asm) (by k_asm) (by k_asm) (by k_is) (by k_is) (by ktr_room) (by first | exact BindsTo.of_eq rfl | exact binds_K (by k_in) rfl (by k_is) rfl rfl rfl) (by exact rfl) (by decide +kernel) (by exact rfl) (by exact rfl) (by exact rfl) ?_); k_whole; intro g' L' h' tk' cells' FG' F' N' Y' B' X' T' l1; (try k_lt l1); k_cells Y'; (try simp only [List.cons_append, List.nil_append] at N'); (try dsimp only); (try k_lift B'); (try k_fold)))) | ((first | with_reducible refine wpAny_call ?_ | refine wpAny_call ?_); (first | ((first | with_reducible refine code_defO (by k_dflt (exact rfl)) (by k_dflt (exact rfl)) (by k_dflt (first | exact rfl | assumption)) (by k_dflt (k_asm)) (by k_dflt (k_asm)) (by k_dflt (k_asm)) (by k_dflt (k_asm)) (by k_dflt (k_asm)) (by k_dflt (k_is)) (by k_dflt (k_is)) (by k_dflt (ktr_room)) (by k_dflt (first | exact BindsTo.of_eq rfl | exact binds_K (by k_in) rfl (by k_is) rfl rfl rfl)) (by k_dflt (decide)) (by k_dflt (exact locs rfl)) (by k_dflt (exact rfl)) (by k_dflt (exact rfl)) (by k_dflt (exact rfl)) ?_ | refine code_defO (by exact rfl) (by exact rfl) (by first | exact rfl | assumption) (by k_asm) (by k_asm) (by k_asm) (by k_asm) (by k_asm) (by k_is) (by k_is) (by ktr_room) (by first | exact BindsTo.of_eq rfl | exact binds_K (by k_in) rfl (by k_is) rfl rfl rfl) (by decide) (by exact locs rfl) (by exact rfl) (by exact rfl) (by exact rfl) ?_); k_whole; intro g' L' h' FG' F' N' B' X' T'; (try dsimp only); (try k_lift B'); (try k_fold)) | ((first | with_reducible refine code_defCO (by k_dflt (exact rfl)) (by k_dflt (exact rfl)) (by k_dflt (first | exact rfl | assumption)) (by k_dflt (k_asm)) (by k_dflt (k_asm)) (by k_dflt (k_asm)) (by k_dflt (k_asm)) (by k_dflt (k_asm)) (by k_dflt (k_is)) (by k_dflt (k_is)) (by k_dflt (ktr_room)) (by k_dflt (first | exact BindsTo.of_eq rfl | exact binds_K (by k_in) rfl (by k_is) rfl rfl rfl)) (by k_dflt (exact rfl)) (by k_dflt (decide +kernel)) (by k_dflt (exact rfl)) (by k_dflt (exact rfl)) (by k_dflt (exact rfl)) ?_ | refine code_defCO (by exact rfl) (by exact rfl) (by first | exact rfl | assumption) (by k_asm) (by k_asm) (by k_asm) (by k_asm) (by k_asm) (by k_is) (by k_is) (by ktr_room) (by first | exact BindsTo.of_eq rfl | exact binds_K (by k_in) rfl (by k_is) rfl rfl rfl) (by exact rfl) (by decide +kernel) (by exact rfl) (by exact rfl) (by exact rfl) ?_); k_whole; intro g' L' h' tk' cells' FG' F' N' Y' B' X' T' l1; (try k_lt l1); k_cells Y'; (try simp only [List.cons_append, List.nil_append] at N'); (try dsimp only); (try k_lift B'); (try k_fold)))))))
  (k_with "execs cons" => (k_here; (with_reducible (refine gen_toks ?_)); intro tk))
  (k_with "execs nil" => (k_here; (with_reducible (refine gen_toks ?_)); intro tk))
  (k_with "call builtin:list.append" => (k_here; k_dflt ((first | with_reducible refine app_K (by k_dflt (k_asm)) (by k_dflt (k_asm)) (by k_dflt (k_updF)) (by k_dflt ((simp only [List.length_append, List.length_cons, List.length_nil]; omega))) ?_ | refine app_K (by k_asm) (by k_asm) (by k_updF) (by (simp only [List.length_append, List.length_cons, List.length_nil]; omega)) ?_)); intro h' F' N'; (try dsimp only at N'); (try dsimp only)))
  trivial
section
variable {prog : Program} {w : World} {A : Around} {E : Value → Shared → Prop} {s : Shared} {h₀ : Heap} {L : Addr} {m : Str → Option Value} {env : Env}
def EnEnd (h₀ : Heap) (L : Addr) (m : Str → Option Value) (s₁ : Shared) (led : List (Addr × Obj)) (s' : Shared) : Prop := ∃ h' tk', s' = { s₁ with heap := h', toks := tk' } ∧ Fr h₀ L h' m ∧ News h₀ L h' led
theorem EnEnd.intro {s₁ : Shared} {led : List (Addr × Obj)} {h' : Heap} {tk' : Nat} (F : Fr h₀ L h' m) (N : News h₀ L h' led) : EnEnd h₀ L m s₁ led { s₁ with heap := h', toks := tk' } := ⟨h', tk', rfl, F, N⟩
def EnEl (h₀ : Heap) (L : Addr) (m : Str → Option Value) (s₁ : Shared) (led : List (Addr × Obj)) (b : Bool) (y : Value) (s' : Shared) : Prop := b = true ∧ EnEnd h₀ L m s₁ led s'
def EnNo (h₀ : Heap) (L : Addr) (m : Str → Option Value) (s₁ : Shared) (led : List (Addr × Obj)) (b : Bool) (s' : Shared) : Prop := b = false ∧ EnEnd h₀ L m s₁ led s'
def EnTurn (prog : Program) (w : World) (A : Around) (h₀ : Heap) (L : Addr) (m : Str → Option Value) (env : Env) (c elt : PySem.Expr) (a b : Str) (scope : Scope) (cl : List (Str × Addr)) (s : Shared) (news : List (Addr × Obj)) (vs : List Value) (tst : Nat → Bool) : Prop :=
  ∀ (i : Nat) (x : Value) (t : Tok) e it C D oE oIt oC m₂ ys h tk (E' : Value → Shared → Prop), i < vs.length → vs[i]? = some x → LCg.NsObj oC m₂ → m₂ a = some (.int i t) → m₂ b = some x → Fr h₀ L h m → News h₀ L h ((e, oE) :: (it, oIt) :: (C, oC) :: (D, LCg.lst ys) :: news) →
    wpAny (model prog w) A (isTrue c (compEnvC scope cl C env) (eval c (compEnvC scope cl C env))) (fun ok s' => if ok = true then
      wpAny (model prog w) A (eval elt (compEnvC scope cl C env)) (EnEl h₀ L m { s with heap := h, toks := tk } ((e, oE) :: (it, oIt) :: (C, oC) :: (D, LCg.lst ys) :: news) (tst i)) E' s'
      else EnNo h₀ L m { s with heap := h, toks := tk } ((e, oE) :: (it, oIt) :: (C, oC) :: (D, LCg.lst ys) :: news) (tst i) s') E' { s with heap := h, toks := tk }
theorem en_block {elt iter c : PySem.Expr} {a b : Str} {pa pb tp : Pos} {kk : Nat} {scope : Scope} {cl : List (Str × Addr)} {pos : Pos} {s₂ : Shared} {e it l : Addr} {vs : List Value} {nn : Nat} {old : Value} {news : List (Addr × Obj)} (tst : Nat → Bool)
    {Fin : List Value → List (Addr × Obj) → Prop} {RR : Value → Addr → Result → Shared → Prop}
    (hh : A.handled = none) (hsz : vs.length ≤ 1000) (hml : (l, listOf vs.toArray nn) ∈ news) (hE : IsEnum s₂.heap e it 0 old) (hLi : s₂.heap.IsListIter it l 0) (hei : e ≠ it)
    (hcell : ∀ y ∈ scope.names, y.2 ≠ .cell) (hkind : scope.kind = .function) (hxa : scope.names.lookup a = some .local) (hxb : scope.names.lookup b = some .local) (hab : ¬ a = b)
    (F : Fr h₀ L s₂.heap m) (N : News h₀ L s₂.heap news) (hLe : L ≠ e) (hLit : L ≠ it) (he₀ : h₀.get? e = none) (hit₀ : h₀.get? it = none) (off : ∀ p ∈ news, p.1 ≠ e ∧ p.1 ≠ it)
    (R : EnTurn prog w A h₀ L m env c elt a b scope cl s₂ news vs tst) (fin₀ : ∀ ys : List Value, ys.length = ((List.range vs.length).filter tst).length → Fin ys news)
    (hRR : ∀ D C h tk m' ys news', Fr h₀ L h m → News h₀ L h ((D, LCg.lst ys) :: news') → LCg.Off1 D news' → h.Ns C m' → h₀.get? C = none → h₀.get? D = none → C ≠ L → D ≠ L → C ≠ D → (∀ p ∈ news', p.1 ≠ C) → Fin ys news' → RR (.ref D) C (.ok .next) { s₂ with heap := h, toks := tk }) :
    wpAny (model prog w) A (newList []) (fun acc s₃ => wpAny (model prog w) A (newFunctionEnv scope env.globals cl [] env.qual none .none (some env)) (fun cenv s₄ =>
      codeAny (model prog w) A (.compStart (.ListComp elt [⟨.Tuple [.Name a pa, .Name b pb] kk tp, iter, [c], 0⟩] scope pos) 0 (.ref e) acc { cenv with scope := relabel scope env }) (RR acc cenv.locals) s₄) E s₃) E s₂ := by
  refine wpAny_newObj_type (wpAny_newFunctionEnv hcell (by intro y hy; simp at hy) (fun h₁ hns₁ hsb₁ => ?_) hkind)
  dsimp only at hns₁ hsb₁ ⊢
  generalize hH2 : s₂.heap.push { cls := .type "list", dict := none, data := .seq ([] : List Value).toArray } = H2 at hns₁ hsb₁ ⊢
  have hC : H2.objs.size = s₂.heap.objs.size + 1 := by rw [← hH2, Heap.size_push]
  have hDC : s₂.heap.objs.size ≠ H2.objs.size := by rw [hC]; exact Nat.ne_of_lt (Nat.lt_succ_self _)
  have below : ∀ b, b < s₂.heap.objs.size → b ≠ H2.objs.size ∧ b ≠ s₂.heap.objs.size := fun b hb => ⟨by rw [hC]; exact Nat.ne_of_lt (Nat.lt_succ_of_lt hb), Nat.ne_of_lt hb⟩
  have hLi' := hLi
  obtain ⟨oit0, hoit0, _⟩ := hLi'
  have helt : e < s₂.heap.objs.size := Heap.lt_size hE
  have hitlt : it < s₂.heap.objs.size := Heap.lt_size hoit0
  have hllt : l < s₂.heap.objs.size := Heap.lt_size (N _ hml).1
  have hle : l ≠ e := (off _ hml).1
  have hlit : l ≠ it := (off _ hml).2
  have old₁ : ∀ b o, s₂.heap.get? b = some o → h₁.get? b = some o := fun b o q => hsb₁.extBut b o (below b (Heap.lt_size q)).1 (Heap.get?_push_of_some _ (hH2 ▸ Heap.get?_push_of_some _ q))
  have hacc : h₁.get? s₂.heap.objs.size = some (LCg.lst []) := hsb₁.extBut _ _ hDC (Heap.get?_push_of_some _ (hH2 ▸ Heap.get?_push_size _ rfl))
  have fresh : ∀ a, s₂.heap.objs.size ≤ a → s₂.heap.get? a = none := fun a ha => by
    cases q : s₂.heap.get? a with
    | none => rfl
    | some o' => exact absurd (Heap.lt_size q) (Nat.not_lt.mpr ha)
  have fresh₀ : ∀ a, s₂.heap.objs.size ≤ a → h₀.get? a = none := fun a ha => by
    cases q : h₀.get? a with
    | none => rfl
    | some o' => have := F.keep a o' q; rw [fresh a ha] at this; cases this
  have hD₀ : h₀.get? s₂.heap.objs.size = none := fresh₀ _ (Nat.le_refl _)
  have hC₀ : h₀.get? H2.objs.size = none := fresh₀ _ (by rw [hC]; exact Nat.le_succ _)
  have hLlt : L < s₂.heap.objs.size := F.ns.lt
  have hDL : s₂.heap.objs.size ≠ L := Ne.symm (below L hLlt).2
  have hCL : H2.objs.size ≠ L := Ne.symm (below L hLlt).1
  have hCe : e ≠ H2.objs.size := (below e helt).1
  have hDe : e ≠ s₂.heap.objs.size := (below e helt).2
  have hCit : it ≠ H2.objs.size := (below it hitlt).1
  have hDit : it ≠ s₂.heap.objs.size := (below it hitlt).2
  have offC : ∀ p ∈ news, p.1 ≠ H2.objs.size := fun p hp => (below _ (Heap.lt_size (N p hp).1)).1
  have offD : ∀ p ∈ news, p.1 ≠ s₂.heap.objs.size := fun p hp => (below _ (Heap.lt_size (N p hp).1)).2
  have W := KTurns.ofWalksU (elts := [.Name a pa, .Name b pb]) (k := kk) (pos := tp) (WalksT.enumerate (prog := prog) (w := w) hh e it l hei hle hlit vs.toArray).toU
  have WF := (WalksT.enumerate (prog := prog) (w := w) hh e it l hei hle hlit vs.toArray)
  have hvl : vs.toArray.size = vs.length := List.size_toArray
  rw [hvl] at W WF
  have loop : ∀ s₃ : Shared, s₃ = { s₂ with heap := h₁, toks := s₂.toks + ([] : List (Str × Value)).length } →
      codeAny (model prog w) A (.compLoop (.ListComp elt [⟨.Tuple [.Name a pa, .Name b pb] kk tp, iter, [c], 0⟩] scope pos) 0 (.ref e) (.ref s₂.heap.objs.size) (compEnvC scope cl H2.objs.size env))
        (RR (.ref s₂.heap.objs.size) H2.objs.size) s₃ := by
    rintro s₃ rfl
    refine kct_loop
      (fun k s' => ∃ h' tk i ys m', s' = { s₂ with heap := h', toks := tk } ∧ i ≤ vs.length ∧ k = vs.length + 1 - i ∧ ys.length = ((List.range i).filter tst).length ∧ ((∃ old, IsEnum h' e it i old) ∧ h'.IsListIter it l i ∧ h'.IsList l vs.toArray) ∧ Fr h₀ L h' m ∧ h'.Ns H2.objs.size m' ∧
        News h₀ L h' ((s₂.heap.objs.size, LCg.lst ys) :: news)) ?_ (vs.length + 1)
      ⟨h₁, _, 0, [], _, rfl, Nat.zero_le _, rfl, rfl, ⟨⟨_, old₁ _ _ hE⟩, hLi.at fun o q => old₁ _ _ q, PySem.IsL.isList (n := nn) (old₁ _ _ (N _ hml).1)⟩, F.keeps old₁, hns₁, fun p hp => ?_⟩
    · rintro k s' ⟨h', tk, i, ys, m', rfl, hi, rfl, hyl, hst', F', hn', N'⟩
      by_cases hlt : i < vs.length
      · refine W.item i _ _ _ hlt hst' fun v h₂ tk₂ hMd hk₂ => ?_
        refine W.go i v _ _ _ hMd fun h₃ hP hst₃ hk₃ => ?_
        obtain ⟨T, vals, rfl, ⟨t, x, hx, rfl⟩, hT⟩ := hP
        have up₃ : ∀ c o, c ≠ e → c ≠ it → h'.get? c = some o → h₃.get? c = some o := fun c o hc hc' q => hk₃ c o (by simp [hc, hc']) (hk₂ c o (by simp [hc, hc']) q)
        refine kcp_assign (env := compEnvC scope cl H2.objs.size env) hh hT (lookup_relabel_local hxa) (lookup_relabel_local hxb) (by simp [compEnvC, relabel, hkind]) (hn'.at' fun o q => up₃ _ o (Ne.symm hCe) (Ne.symm hCit) q) fun h₄ tk₄ hn₄ hs₄ => ?_
        have up : ∀ c o, c ≠ e → c ≠ it → c ≠ H2.objs.size → h'.get? c = some o → h₄.get? c = some o := fun c o h1 h2 h3 q => hs₄ c o h3 (up₃ c o h1 h2 q)
        have hst₄ := WF.frame (i + 1) h₃ h₄ hst₃ fun b hb o q => hs₄ b o (by
          rcases List.mem_cons.mp hb with r | hb
          · rw [r]; exact hCe
          rcases List.mem_cons.mp hb with r | hb
          · rw [r]; exact hCit
          · rw [List.mem_singleton.mp hb]; exact (below l hllt).1) q
        obtain ⟨⟨old', hE₄⟩, hLi₄, hl₄⟩ := hst₄
        obtain ⟨oE, heE⟩ : ∃ oE : Obj, h₄.get? e = some oE := ⟨_, hE₄⟩
        obtain ⟨oIt, heIt, _⟩ := id hLi₄
        obtain ⟨oC, heC, hoC⟩ := LCg.ns_obj hn₄
        have F₄ : Fr h₀ L h₄ m := ⟨F'.ns.at' fun o q => up _ o hLe hLit (Ne.symm hCL) q, fun c o q => up c o (fun r => by rw [r, he₀] at q; cases q) (fun r => by rw [r, hit₀] at q; cases q) (fun r => by rw [r, hC₀] at q; cases q) (F'.keep c o q), F'.above⟩
        have N₄ : News h₀ L h₄ ((e, oE) :: (it, oIt) :: (H2.objs.size, oC) :: (s₂.heap.objs.size, LCg.lst ys) :: news) := fun q hq => by
          rcases List.mem_cons.mp hq with rfl | hq
          · exact ⟨heE, Ne.symm hLe, he₀⟩
          rcases List.mem_cons.mp hq with rfl | hq
          · exact ⟨heIt, Ne.symm hLit, hit₀⟩
          rcases List.mem_cons.mp hq with rfl | hq
          · exact ⟨heC, hCL, hC₀⟩
          rcases List.mem_cons.mp hq with rfl | hq
          · exact ⟨up _ _ (Ne.symm hDe) (Ne.symm hDit) hDC (N' _ (.head _)).1, (N' _ (.head _)).2⟩
          · exact ⟨up _ _ (off q hq).1 (off q hq).2 (offC q hq) (N' _ (.tail _ hq)).1, (N' _ (.tail _ hq)).2⟩
        have hx' : vs[i]? = some x := by simpa using hx
        have stAt : ∀ h₅ : Heap, News h₀ L h₅ ((e, oE) :: (it, oIt) :: news) → ((∃ old, IsEnum h₅ e it ((i + 1 : Nat) : Int) old) ∧ h₅.IsListIter it l (i + 1) ∧ h₅.IsList l vs.toArray) := fun h₅ N₅ =>
          WF.frame (i + 1) h₄ h₅ ⟨⟨old', hE₄⟩, hLi₄, hl₄⟩ fun b hb o q => by
            rcases List.mem_cons.mp hb with r | hb
            · rw [r] at q ⊢
              rw [heE] at q; cases q; exact (N₅ _ (.head _)).1
            rcases List.mem_cons.mp hb with r | hb
            · rw [r] at q ⊢
              rw [heIt] at q; cases q; exact (N₅ _ (.tail _ (.head _))).1
            · rw [List.mem_singleton.mp hb] at q ⊢
              have z := (N₄ _ (.tail _ (.tail _ (.tail _ (.tail _ hml))))).1
              rw [z] at q; cases q; exact (N₅ _ (.tail _ (.tail _ hml))).1
        have cnt : ∀ b, tst i = b → ((List.range (i + 1)).filter tst).length = ((List.range i).filter tst).length + (if b = true then 1 else 0) := fun b hb => by
          subst hb
          rw [List.range_succ, List.filter_append, List.length_append]
          cases htb : tst i <;> simp [htb]
        refine wpAny_mono (R i x t e it H2.objs.size s₂.heap.objs.size oE oIt oC _ ys h₄ _ _ hlt hx' hoC (by simp [hab]) (by simp) F₄ N₄) (fun okb s₅ h₅ => ?_) fun _ _ q => q
        cases okb with
        | false =>
          simp only [Bool.false_eq_true, if_false] at h₅ ⊢
          obtain ⟨htst, h₅, tk₅, rfl, F₅, N₅⟩ := h₅
          refine ⟨vs.length + 1 - (i + 1), by omega, h₅, tk₅, i + 1, ys, _, rfl, hlt, rfl, ?_, stAt h₅ fun p hp => ?_, F₅, hoC.ns (N₅ _ (.tail _ (.tail _ (.head _)))).1, fun p hp => N₅ p (.tail _ (.tail _ (.tail _ hp)))⟩
          · rw [cnt _ htst, hyl]; simp
          · rcases List.mem_cons.mp hp with r | hp
            · rw [r]; exact N₅ _ (.head _)
            rcases List.mem_cons.mp hp with r | hp
            · rw [r]; exact N₅ _ (.tail _ (.head _))
            · exact N₅ _ (.tail _ (.tail _ (.tail _ (.tail _ hp))))
        | true =>
          simp only [if_true] at h₅ ⊢
          refine wpAny_mono h₅ (fun y s₆ h₆ => ?_) fun _ _ q => q
          obtain ⟨htst, h₅, tk₅, rfl, F₅, N₅⟩ := h₆
          have zD := (N₅ _ (.tail _ (.tail _ (.tail _ (.head _))))).1
          have hyb : ys.length ≤ i := by
            rw [hyl]; exact Nat.le_trans (List.length_filter_le _ _) (by simp)
          refine append_at (hsz := by show ys.toArray.size ≤ sizeLine; rw [List.size_toArray, sizeLine_eq]; omega) zD fun h₆ hs₆ hD₆ => ?_
          refine ⟨vs.length + 1 - (i + 1), by omega, h₆, _, i + 1, ys ++ [y], _, rfl, hlt, rfl, ?_, stAt h₆ fun p hp => ?_, F₅.change hs₆ hDL hD₀, (hoC.ns (N₅ _ (.tail _ (.tail _ (.head _)))).1).sameBut hs₆ (Ne.symm hDC), fun p hp => ?_⟩
          · rw [cnt _ htst, List.length_append, hyl]; simp
          · rcases List.mem_cons.mp hp with r | hp
            · rw [r]; exact ⟨hs₆.extBut _ _ hDe (N₅ _ (.head _)).1, (N₅ _ (.head _)).2⟩
            rcases List.mem_cons.mp hp with r | hp
            · rw [r]; exact ⟨hs₆.extBut _ _ hDit (N₅ _ (.tail _ (.head _))).1, (N₅ _ (.tail _ (.head _))).2⟩
            · have z := N₅ _ (.tail _ (.tail _ (.tail _ (.tail _ hp))))
              exact ⟨hs₆.extBut _ _ (offD p hp) z.1, z.2⟩
          · rcases List.mem_cons.mp hp with r | hp
            · rw [r]; exact ⟨hD₆.trans (congrArg some (LCg.lst_snoc ys y)), hDL, hD₀⟩
            · have z := N₅ _ (.tail _ (.tail _ (.tail _ (.tail _ hp))))
              exact ⟨hs₆.extBut _ _ (offD p hp) z.1, z.2⟩
      · have hin : i = vs.length := Nat.le_antisymm hi (Nat.not_lt.mp hlt)
        subst hin
        refine W.done _ _ _ hst' fun h₂ tk₂ hk₂ => ?_
        have up : ∀ c o, c ≠ e → c ≠ it → h'.get? c = some o → h₂.get? c = some o := fun c o h1 h2 q => hk₂ c o (by simp [h1, h2]) q
        refine hRR _ _ h₂ tk₂ _ ys news ⟨F'.ns.at' fun o q => up _ o hLe hLit q, fun c o q => up c o (fun r => by rw [r, he₀] at q; cases q) (fun r => by rw [r, hit₀] at q; cases q) (F'.keep c o q), F'.above⟩ (fun p hp => ?_) ((LCg.Off3.of (I := H2.objs.size) (C := H2.objs.size) fun p hp => ⟨offC p hp, offC p hp, offD p hp⟩).one) (hn'.at' fun o q => up _ o (Ne.symm hCe) (Ne.symm hCit) q) hC₀ hD₀ hCL hDL (Ne.symm hDC) offC (fin₀ ys hyl)
        rcases List.mem_cons.mp hp with r | hp
        · rw [r]; exact ⟨up _ _ (Ne.symm hDe) (Ne.symm hDit) (N' _ (.head _)).1, (N' _ (.head _)).2⟩
        · exact ⟨up _ _ (off p hp).1 (off p hp).2 (N' _ (.tail _ hp)).1, (N' _ (.tail _ hp)).2⟩
    · rcases List.mem_cons.mp hp with rfl | hp
      · exact ⟨hacc, hDL, hD₀⟩
      · exact ⟨old₁ _ _ (N p hp).1, (N p hp).2⟩
  exact codeAny_compStart_list (loop _ rfl) (WF.self 0 _ _ _ ⟨⟨_, old₁ _ _ hE⟩, hLi.at fun o q => old₁ _ _ q, PySem.IsL.isList (n := nn) (old₁ _ _ (N _ hml).1)⟩ (loop _ rfl))
def EnSrc (prog : Program) (w : World) (A : Around) (h₀ : Heap) (L : Addr) (m : Str → Option Value) (env : Env) (c elt : PySem.Expr) (a b : Str) (scope : Scope) (cl : List (Str × Addr)) (Fin : Shared → List Value → List (Addr × Obj) → Prop) (xv : Value) (s₁ : Shared) : Prop :=
  ∃ (e it l : Addr) (vs : List Value) (nn : Nat) (news : List (Addr × Obj)) (tst : Nat → Bool), xv = .ref e ∧ A.handled = none ∧ vs.length ≤ 1000 ∧ (l, listOf vs.toArray nn) ∈ news ∧ IsEnum s₁.heap e it 0 .none ∧ s₁.heap.IsListIter it l 0 ∧ e ≠ it ∧ Fr h₀ L s₁.heap m ∧ News h₀ L s₁.heap news ∧ L ≠ e ∧ L ≠ it ∧ h₀.get? e = none ∧ h₀.get? it = none ∧ (∀ p ∈ news, p.1 ≠ e ∧ p.1 ≠ it) ∧
    (∀ g, EnTurn prog w A h₀ L m env c elt a b scope cl { s₁ with heap := g } news vs tst) ∧ ∀ g ys, ys.length = ((List.range vs.length).filter tst).length → Fin { s₁ with heap := g } ys news
theorem en_call {c elt : PySem.Expr} {a b : Str} {scope : Scope} {cl : List (Str × Addr)} {l : Addr} {vs : List Value} {nn : Nat} {news : List (Addr × Obj)} {Fin : Shared → List Value → List (Addr × Obj) → Prop} (tst : Nat → Bool)
    (hh : A.handled = none) (F : Fr h₀ L s.heap m) (N : News h₀ L s.heap news) (hm : (l, listOf vs.toArray nn) ∈ news) (hsz : vs.length ≤ 1000)
    (turn : ∀ g, EnTurn prog w A h₀ L m env c elt a b scope cl { s with heap := g } news vs tst) (fin : ∀ g ys, ys.length = ((List.range vs.length).filter tst).length → Fin { s with heap := g } ys news) :
    wpAny (model prog w) A (call (.type "enumerate") [.ref l]) (EnSrc prog w A h₀ L m env c elt a b scope cl Fin) E s := by
  have hl : s.heap.IsList l vs.toArray := PySem.IsL.isList (n := nn) (N _ hm).1
  have hLs : L < s.heap.objs.size := F.ns.lt
  refine call_enumerate_list hl fun h' hE hI hsz' hk => ?_
  refine ⟨s.heap.objs.size + 1, s.heap.objs.size, l, vs, nn, news, tst, rfl, hh, hsz, hm, hE, hI, Nat.succ_ne_self _, F.keeps hk, N.grown hk, Nat.ne_of_lt (Nat.lt_succ_of_lt hLs), Nat.ne_of_lt hLs, ktu_new F (Nat.le_add_right _ _), ktu_new F (Nat.le_refl _), fun p hp => ?_, turn, fin⟩
  have := Heap.lt_size (N p hp).1
  exact ⟨Nat.ne_of_lt (Nat.lt_succ_of_lt this), Nat.ne_of_lt this⟩
theorem ListComp_E {elt iter c : PySem.Expr} {a b : Str} {pa pb tp : Pos} {kk : Nat} {scope : Scope} {cl : List (Str × Addr)} {pos : Pos} {Q : Value → Shared → Prop} (_F₀ : Fr h₀ L s.heap m)
    (hclos : closureFor scope env = pure cl) (hcell : ∀ y ∈ scope.names, y.2 ≠ .cell) (hkind : scope.kind = .function)
    (hnames : ∀ y ∈ scope.names, y.2 = .local → scope.names.lookup y.1 = some .local) (hxa : scope.names.lookup a = some .local) (hxb : scope.names.lookup b = some .local) (hab : ¬ a = b)
    (h : wpAny (model prog w) A (eval iter env) (EnSrc prog w A h₀ L m env c elt a b scope cl (fun s₂ => LCg.FinE h₀ L m s₂ Q)) E s)
    (hs : ∀ x, foldedSetIterable iter env x = pure x := by intro _; rfl) :
    wpAny (model prog w) A (eval (.ListComp elt [⟨.Tuple [.Name a pa, .Name b pb] kk tp, iter, [c], 0⟩] scope pos) env) Q E s := by
  rw [eval_ListComp]
  refine wpAny_comprehension_free (use := none) rfl hs hclos hkind hnames (wpAny_mono h (fun xv s₁ h₁ => ?_) fun _ _ e => e)
  obtain ⟨e, it, l, vs, nn, news, tst, rfl, hh, hsz, hm, hE, hI, hei, F, N, hLe, hLit, he₀, hit₀, off, turn, fin⟩ := h₁
  refine wpAny_pyIter_enum hE ?_
  refine en_block tst hh hsz hm hE hI hei hcell hkind hxa hxb hab F N hLe hLit he₀ hit₀ off (turn s₁.heap) (fin s₁.heap) ?_
  intro D C h tk m' ys news' F' N' o1 hn hC₀ hD₀ hCL hDL hCD offC fin
  refine ⟨m', hn, fun h'' hs'' => fin D h'' tk (F'.change hs'' hCL hC₀) (fun p hp => ?_) o1⟩
  refine ⟨hs''.extBut _ _ ?_ (N' p hp).1, (N' p hp).2⟩
  rcases List.mem_cons.mp hp with rfl | hp
  · exact Ne.symm hCD
  · exact offC p hp
end

end

section
theorem wordsOctRb : True := by
  w_top off
  k_with_none
  (k_with "exec For Name Subscript cons nil" => (k_here; (rename Fr _ _ _ _ => lF'); (with_unfolding_all refine For_invVF lF' (by exact rfl) (by exact rfl) ?_; k_whole)))
  (k_with "call ref" => (k_here; k_dflt (first | (refine call_meth (by k_asm) (by k_mem) ?_; k_whole; (first | ((first | with_reducible refine code_defO (by k_dflt (exact rfl)) (by k_dflt (exact rfl)) (by k_dflt (first | exact rfl | assumption)) (by k_dflt (k_asm)) (by k_dflt (k_asm)) (by k_dflt (k_asm)) (by k_dflt (k_asm)) (by k_dflt (k_asm)) (by k_dflt (k_is)) (by k_dflt (k_is)) (by k_dflt (ktr_room)) (by k_dflt (first | exact BindsTo.of_eq rfl | exact binds_K (by k_in) rfl (by k_is) rfl rfl rfl)) (by k_dflt (decide)) (by k_dflt (exact locs rfl)) (by k_dflt (exact rfl)) (by k_dflt (exact rfl)) (by k_dflt (exact rfl)) ?_ | refine code_defO (by exact rfl) (by exact rfl) (by first | exact rfl | assumption) (by k_asm) (by k_asm) (by k_asm) (by k_asm) (by k_asm) (by k_is) (by k_is) (by ktr_room) (by first | exact BindsTo.of_eq rfl | exact binds_K (by k_in) rfl (by k_is) rfl rfl rfl) (by decide) (by exact locs rfl) (by exact rfl) (by exact rfl) (by exact rfl) ?_); k_whole; intro g' L' h' FG' F' N' B' X' T'; (try dsimp only); (try k_lift B'); (try k_fold)) | ((first | with_reducible refine code_defCO (by k_dflt (exact rfl)) (by k_dflt (exact rfl)) (by k_dflt (first | exact rfl | assumption)) (by k_dflt (k_asm)) (by k_dflt (k_asm)) (by k_dflt (k_asm)) (by k_dflt (k_asm)) (by k_dflt (k_asm)) (by k_dflt (k_is)) (by k_dflt (k_is)) (by k_dflt (ktr_room)) (by k_dflt (first | exact BindsTo.of_eq rfl | exact binds_K (by k_in) rfl (by k_is) rfl rfl rfl)) (by k_dflt (exact rfl)) (by k_dflt (decide +kernel)) (by k_dflt (exact rfl)) (by k_dflt (exact rfl)) (by k_dflt (exact rfl)) ?_ | refine code_defCO (by exact rfl) (by exact rfl) (by first | exact rfl | assumption) (by k_asm) (by k_asm) (by k_asm) (by k_asm) (by k_asm) (by k_is) (by k_is) (by ktr_room) (by first | exact BindsTo.of_eq rfl | exact binds_K (by k_in) rfl (by k_is) rfl rfl rfl) (by exact rfl) (by decide +kernel) (by exact rfl) (by exact rfl) (by exact rfl) ?_); k_whole; intro g' L' h' tk' cells' FG' F' N' Y' B' X' T' l1; (try k_lt l1); k_cells Y'; (try simp only [List.cons_append, List.nil_append] at N'); (try dsimp only); (try k_lift B'); (try k_fold)))) | ((first | with_reducible refine call_cls (by k_dflt (k_asm)) (by k_dflt (k_asm)) (by k_dflt (k_asm)) (by k_dflt (k_is)) (by k_dflt (k_is)) (by k_dflt (k_is)) ?_ | refine call_cls (by k_asm) (by k_asm) (by k_asm) (by k_is) (by k_is) (by k_is) ?_); k_whole; intro x' d' h' F' N' l1 l2; (try k_lt l1); (try k_lt2 l2); (try k_sweep); (first | ((first | with_reducible refine code_defO (by k_dflt (exact rfl)) (by k_dflt (exact rfl)) (by k_dflt (first | exact rfl | assumption)) (by k_dflt (k_asm)) (by k_dflt (k_asm)) (by k_dflt (k_asm)) (by k_dflt (k_asm)) (by k_dflt (k_asm)) (by k_dflt (k_is)) (by k_dflt (k_is)) (by k_dflt (ktr_room)) (by k_dflt (first | exact BindsTo.of_eq rfl | exact binds_K (by k_in) rfl (by k_is) rfl rfl rfl)) (by k_dflt (decide)) (by k_dflt (exact locs rfl)) (by k_dflt (exact rfl)) (by k_dflt (exact rfl)) (by k_dflt (exact rfl)) ?_ | refine code_defO (by exact rfl) (by exact rfl) (by first | exact rfl | assumption) (by k_asm) (by k_asm) (by k_asm) (by k_asm) (by k_asm) (by k_is) (by k_is) (by ktr_room) (by first | exact BindsTo.of_eq rfl | exact binds_K (by k_in) rfl (by k_is) rfl rfl rfl) (by decide) (by exact locs rfl) (by exact rfl) (by exact rfl) (by exact rfl) ?_); k_whole; intro g' L' h' FG' F' N' B' X' T'; (try dsimp only); (try k_lift B'); (try k_fold)) | ((first | with_reducible refine code_defCO (by k_dflt (exact rfl)) (by k_dflt (exact rfl)) (by k_dflt (first | exact rfl | assumption)) (by k_dflt (k_asm)) (by k_dflt (k_asm)) (by k_dflt (k_asm)) (by k_dflt (k_asm)) (by k_dflt (k_asm)) (by k_dflt (k_is)) (by k_dflt (k_is)) (by k_dflt (ktr_room)) (by k_dflt (first | exact BindsTo.of_eq rfl | exact binds_K (by k_in) rfl (by k_is) rfl rfl rfl)) (by k_dflt (exact rfl)) (by k_dflt (decide +kernel)) (by k_dflt (exact rfl)) (by k_dflt (exact rfl)) (by k_dflt (exact rfl)) ?_ | refine code_defCO (by exact rfl) (by exact rfl) (by first | exact rfl | assumption) (by k_asm) (by k_asm) (by k_asm) (by k_asm) (by k_asm) (by k_is) (by k_is) (by ktr_room) (by first | exact BindsTo.of_eq rfl | exact binds_K (by k_in) rfl (by k_is) rfl rfl rfl) (by exact rfl) (by decide +kernel) (by exact rfl) (by exact rfl) (by exact rfl) ?_); k_whole; intro g' L' h' tk' cells' FG' F' N' Y' B' X' T' l1; (try k_lt l1); k_cells Y'; (try simp only [List.cons_append, List.nil_append] at N'); (try dsimp only); (try k_lift B'); (try k_fold)))) | ((first | with_reducible refine wpAny_call ?_ | refine wpAny_call ?_); (first | ((first | with_reducible refine code_defO (by k_dflt (exact rfl)) (by k_dflt (exact rfl)) (by k_dflt (first | exact rfl | assumption)) (by k_dflt (k_asm)) (by k_dflt (k_asm)) (by k_dflt (k_asm)) (by k_dflt (k_asm)) (by k_dflt (k_asm)) (by k_dflt (k_is)) (by k_dflt (k_is)) (by k_dflt (ktr_room)) (by k_dflt (first | exact BindsTo.of_eq rfl | exact binds_K (by k_in) rfl (by k_is) rfl rfl rfl)) (by k_dflt (decide)) (by k_dflt (exact locs rfl)) (by k_dflt (exact rfl)) (by k_dflt (exact rfl)) (by k_dflt (exact rfl)) ?_ | refine code_defO (by exact rfl) (by exact rfl) (by first | exact rfl | assumption) (by k_asm) (by k_asm) (by k_asm) (by k_asm) (by k_asm) (by k_is) (by k_is) (by ktr_room) (by first | exact BindsTo.of_eq rfl | exact binds_K (by k_in) rfl (by k_is) rfl rfl rfl) (by decide) (by exact locs rfl) (by exact rfl) (by exact rfl) (by exact rfl) ?_); k_whole; intro g' L' h' FG' F' N' B' X' T'; (try dsimp only); (try k_lift B'); (try k_fold)) | ((first | with_reducible refine code_defCO (by k_dflt (exact rfl)) (by k_dflt (exact rfl)) (by k_dflt (first | exact rfl | assumption)) (by k_dflt (k_asm)) (by k_dflt (k_asm)) (by k_dflt (k_asm)) (by k_dflt (k_asm)) (by k_dflt (k_asm)) (by k_dflt (k_is)) (by k_dflt (k_is)) (by k_dflt (ktr_room)) (by k_dflt (first | exact BindsTo.of_eq rfl | exact binds_K (by k_in) rfl (by k_is) rfl rfl rfl)) (by k_dflt (exact rfl)) (by k_dflt (decide +kernel)) (by k_dflt (exact rfl)) (by k_dflt (exact rfl)) (by k_dflt (exact rfl)) ?_ | refine code_defCO (by exact rfl) (by exact rfl) (by first | exact rfl | assumption) (by k_asm) (by k_asm) (by k_asm) (by k_asm) (by k_asm) (by k_is) (by k_is) (by ktr_room) (by first | exact BindsTo.of_eq rfl | exact binds_K (by k_in) rfl (by k_is) rfl rfl rfl) (by exact rfl) (by decide +kernel) (by exact rfl) (by exact rfl) (by exact rfl) ?_); k_whole; intro g' L' h' tk' cells' FG' F' N' Y' B' X' T' l1; (try k_lt l1); k_cells Y'; (try simp only [List.cons_append, List.nil_append] at N'); (try dsimp only); (try k_lift B'); (try k_fold)))))))
  (k_with "execs cons" => (k_here; (with_reducible (refine gen_toks ?_)); intro tk))
  (k_with "execs nil" => (k_here; (with_reducible (refine gen_toks ?_)); intro tk))
  (k_with "call builtin:list.append" => (k_here; k_dflt ((first | with_reducible refine app_K (by k_dflt (k_asm)) (by k_dflt (k_asm)) (by k_dflt (k_updF)) (by k_dflt ((simp only [List.length_append, List.length_cons, List.length_nil]; omega))) ?_ | refine app_K (by k_asm) (by k_asm) (by k_updF) (by (simp only [List.length_append, List.length_cons, List.length_nil]; omega)) ?_)); intro h' F' N'; (try dsimp only at N'); (try dsimp only)))
  (k_with "compareOp Lt bytes bytes" => refine lt_bytes ?_)
  (k_with "compareOp LtE bytes bytes" => refine le_bytes ?_)
  trivial
section
variable {prog : Program} {w : World} {A : Around} {E : Value → Shared → Prop} {s : Shared} {h₀ : Heap} {L D : Addr} {m : Str → Option Value} {news : List (Addr × Obj)} {vs : List Value} {ns ks ls : List Int} {b c : Array UInt8} {t u : Tok} {nn : Nat} {k : Int}
theorem bsize {b : Array UInt8} {ks : List Int} (h : KBw.bInts b = ks) : b.size = ks.length := by rw [← h, KBw.ints_length]
theorem add_B {Q : Value → Shared → Prop} (hb : KBw.bInts b = ks) (hc : KBw.bInts c = ls) (hsz : b.size + c.size ≤ 16777216) (h : ∀ d t' k, KBw.bInts d = ks ++ ls → d.size = b.size + c.size → Q (.bytes d t') { s with toks := k }) :
    wpAny (model prog w) A (binaryOp .Add (.bytes b t) (.bytes c u)) Q E s :=
  KBy.add_bytes hsz fun t' k => h (b ++ c) t' k (KBw.ints_app hb hc) Array.size_append
theorem bInts_list (l : List UInt8) : KBw.bInts l.toArray = l.map fun x => (x.toNat : Int) := rfl
theorem mul_B {n : Int} {Q : Value → Shared → Prop} (hb : KBw.bInts b = ks) (hl : ks.length = 4) (h0 : 0 ≤ n) (hn : n ≤ 1000) (h : ∀ d t' k, KBw.bInts d = (List.replicate n.toNat ks).flatten → d.size = 4 * n.toNat → Q (.bytes d t') { s with toks := k }) :
    wpAny (model prog w) A (binaryOp .Mult (.bytes b t) (.int n u)) Q E s := by
  have hz := bsize hb
  have e : b = b.toList.toArray := by simp
  have e9 : KBw.bInts ((List.replicate n.toNat b.toList).flatten).toArray = (List.replicate n.toNat ks).flatten := by
    rw [bInts_list, List.map_flatten, List.map_replicate, ← hb]
    rfl
  rw [e]
  refine bytes_mul_any (by intro q; have : b.toList.length = 0 := by rw [q]; rfl
                           simp at this; simp [this] at hz; omega) (by omega) (by omega) (by simp; omega) fun t' k => h _ t' k e9 ?_
  have := bsize e9
  rw [this]
  simp [hl]
  omega
theorem mk_B {Q : Value → Shared → Prop} (F : Fr h₀ L s.heap m) (N : News h₀ L s.heap news) (hh : A.handled = none) (hm : (D, listOf vs.toArray nn) ∈ news) (hi : IntsAre vs ns) (hr : KBa.In ns) (hn : ns.length ≤ 1000)
    (h : ∀ h' d t' k, Fr h₀ L h' m → News h₀ L h' news → KBw.bInts d = ns → d.size = ns.length → Q (.bytes d t') { s with heap := h', toks := k }) : wpAny (model prog w) A (call (.type "bytes") [.ref D]) Q E s :=
  KBa.make_K F N hh (PySem.IsL.isList (n := nn) (N _ hm).1) hi hr (by omega) fun h' t' k F' N' _ => h h' _ t' k F' N' (KBa.ints_make hr) (bsize (KBa.ints_make hr))
theorem in_B {Q : Value → Shared → Prop} (N : News h₀ L s.heap news) (hm : (D, listOf vs.toArray nn) ∈ news) (hi : IntsAre vs ns) (h1 : k ∈ ns → Q (.bool true) s) (h2 : k ∉ ns → Q (.bool false) s) :
    wpAny (model prog w) A (compareOp .In (.int k t) (.ref D)) Q E s :=
  SeqInW.in_listW (isInt k) (fun y hy => eq_isInt k t hi y (by simpa using hy)) (PySem.IsL.isList (n := nn) (N _ hm).1) (by
    rw [List.any_toArray, any_isInt k hi]
    by_cases e : k ∈ ns
    · have : (ns.any fun x => x == k) = true := by simpa using e
      rw [this]; exact h1 e
    · have : (ns.any fun x => x == k) = false := by
        rw [List.any_eq_false]; intro x hx q
        exact e ((eq_of_beq q) ▸ hx)
      rw [this]; exact h2 e)
theorem notin_B {Q : Value → Shared → Prop} (N : News h₀ L s.heap news) (hm : (D, listOf vs.toArray nn) ∈ news) (hi : IntsAre vs ns) (h1 : k ∉ ns → Q (.bool true) s) (h2 : k ∈ ns → Q (.bool false) s) :
    wpAny (model prog w) A (compareOp .NotIn (.int k t) (.ref D)) Q E s :=
  SeqInW.notIn_listW (isInt k) (fun y hy => eq_isInt k t hi y (by simpa using hy)) (PySem.IsL.isList (n := nn) (N _ hm).1) (by
    rw [List.any_toArray, any_isInt k hi]
    by_cases e : k ∈ ns
    · have : (ns.any fun x => x == k) = true := by simpa using e
      rw [this]; exact h2 e
    · have : (ns.any fun x => x == k) = false := by
        rw [List.any_eq_false]; intro x hx q
        exact e ((eq_of_beq q) ▸ hx)
      rw [this]; exact h1 e)
theorem kf_ints_of {vs : List Value} {ns : List Int} (h : IntsAre vs ns) : kf_ints vs = true := by
  induction h with
  | nil => rfl
  | cons n t _ ih => exact ih
theorem kf_at_of (k : Int) : ∀ {vs : List Value} {ns : List Int}, IntsAre vs ns → k ∈ ns → kf_at k vs = some (ns.idxOf k)
  | _, _, .nil, h => nomatch h
  | _, _, .cons (ns := r) n t hi, h => by
    unfold kf_at
    simp only [isInt]
    by_cases e : n = k
    · subst e; simp
    · have e' : (n == k) = false := by simp [e]
      rw [e']
      have hr : k ∈ r := by
        rcases List.mem_cons.mp h with q | q
        · exact absurd q.symm e
        · exact q
      rw [kf_at_of k hi hr, List.idxOf_cons, e']
      rfl
theorem idx_B {Q : Value → Shared → Prop} (N : News h₀ L s.heap news) (hm : (D, listOf vs.toArray nn) ∈ news) (hi : IntsAre vs ns) (hk : k ∈ ns) (hz : ns.length ≤ 1000) (h : Q (.int (ns.idxOf k : Nat) s.toks) { s with toks := s.toks + 1 }) :
    wpAny (model prog w) A (call (.builtin "list.index") [.ref D, .int k t]) Q E s :=
  kf_index (its := vs.toArray) N hm (kf_ints_of hi) (kf_at_of k hi hk) rfl (by rw [sizeLine_eq]; have := hi.length; simp; omega) h
theorem filt_lt (n i : Nat) (h : i ≤ n) : ((List.range n).filter fun j => decide (j < i)).length = i := by
  induction n generalizing i with
  | zero => have : i = 0 := by omega
            subst this; rfl
  | succ n ih =>
    rw [List.range_succ, List.filter_append, List.length_append]
    by_cases e : i = n + 1
    · subst e
      have hall : (List.range n).filter (fun j => decide (j < n + 1)) = List.range n := List.filter_eq_self.mpr fun a ha => by
        have := List.mem_range.mp ha
        simp; omega
      rw [hall]; simp
    · rw [ih i (by omega)]
      have : ¬ n < i := by omega
      simp [this]
theorem beL_len (j : Nat) (x : Int) : (beL j x).length = j := by unfold beL downL; simp
def geL : List Int → List Int := fun ps => ps.filter fun k => decide (2147483648 ≤ k)
def gG : List Int → Int → List Int := fun l k => if 2147483648 ≤ k then l ++ [k] else l
theorem gG_fold (ps : List Int) : ∀ l, ps.foldl gG l = l ++ geL ps := by
  induction ps with
  | nil => intro l; simp [geL]
  | cons k r ih =>
    intro l
    rw [List.foldl_cons, ih]
    unfold gG geL
    by_cases e : 2147483648 ≤ k
    · simp [e]
    · simp [e]
theorem gG_pos {l : List Int} {k : Int} (h : (2 : Int) ^ Int.toNat 31 ≤ k) : gG l k = l ++ [k] := by
  have e : (2 : Int) ^ Int.toNat 31 = 2147483648 := by decide
  rw [e] at h
  unfold gG; rw [if_pos h]
theorem gG_neg {l : List Int} {k : Int} (h : ¬ (2 : Int) ^ Int.toNat 31 ≤ k) : gG l k = l := by
  have e : (2 : Int) ^ Int.toNat 31 = 2147483648 := by decide
  rw [e] at h
  unfold gG; rw [if_neg h]
theorem gG_grows : KPfGrows gG := by
  intro l k
  unfold gG
  split
  · rw [List.length_append]; exact Nat.le_refl _
  · exact Nat.le_succ _
theorem flat8 {α : Type} (G : α → List Int) (h : ∀ x, (G x).length ≤ 8) : ∀ l : List α, ((l.map G).flatten).length ≤ 8 * l.length
  | [] => by simp
  | a :: r => by
    have := flat8 G h r
    have := h a
    simp only [List.map_cons, List.flatten_cons, List.length_append, List.length_cons]
    omega
theorem size_grown {α : Type} {b b0 : Array UInt8} {l : List α} {G : α → List Int} (hb : KBw.bInts b = KBw.bInts b0 ++ (l.map G).flatten) (h : ∀ x, (G x).length ≤ 8) : b.size ≤ b0.size + 8 * l.length := by
  have e := bsize hb
  rw [List.length_append, KBw.ints_length] at e
  have := flat8 G h l
  omega
theorem news_front3 {h : Heap} {a b c : Addr × Obj} {r : List (Addr × Obj)} (N : News h₀ L h (a :: b :: c :: r)) : News h₀ L h (c :: a :: b :: r) := fun p hp => N p (by
  simp only [List.mem_cons] at hp ⊢
  rcases hp with h | h | h | h <;> simp [h])
theorem news_front4 {h : Heap} {a b c d : Addr × Obj} {r : List (Addr × Obj)} (N : News h₀ L h (a :: b :: c :: d :: r)) : News h₀ L h (d :: a :: b :: c :: r) := fun p hp => N p (by
  simp only [List.mem_cons] at hp ⊢
  rcases hp with h | h | h | h | h <;> simp [h])
theorem iter_listC {env : Env} {x : Str} {px : Pos} {body : List Stmt} {Q : Flow → Shared → Prop} {l c : Addr} {m₀ : Str → Option Value} {b0 : Array UInt8} {t0 : Tok} {o0 : Obj} {post : List (Addr × Obj)} (xf xn : Str) (G : Int → List Int)
    (hh : A.handled = none) (hm : (l, listOf vs.toArray nn) ∈ post) (hi : IntsAre vs ns) (F : Fr h₀ env.locals s.heap m₀) (N : News h₀ env.locals s.heap ((c, o0) :: post)) (ho : ∃ v, o0.data = .cell v) (hf : m₀ xf = some (.bytes b0 t0))
    (turn : ∀ i n t b tb u o v I oI (s₁ : Shared), i < ns.length → n ∈ ns → o.data = .cell v → KBw.bInts b = KBw.bInts b0 ++ ((ns.take i).map G).flatten → AllNeB I ((c, o) :: post) → Fr h₀ env.locals s₁.heap (Mid m₀ xf xn b tb u) → News h₀ env.locals s₁.heap ((I, oI) :: (c, o) :: post) →
      wpAny (model prog w) A (assign (.Name x px) env (.int n t)) (fun _ s₃ => wpAny (model prog w) A (execs body env) (TurnB h₀ env.locals I oI (fun o => (c, o) :: post) (fun o => ∃ v, o.data = .cell v) m₀ xf xn (KBw.bInts b ++ G n) s₁) E s₃) E s₁)
    (done : ∀ h' tk b tb u o v, o.data = .cell v → KBw.bInts b = KBw.bInts b0 ++ (ns.map G).flatten → Fr h₀ env.locals h' (Mid m₀ xf xn b tb u) → News h₀ env.locals h' ((c, o) :: post) → Q .next { s with heap := h', toks := tk }) :
    wpAny (model prog w) A (pyIter (.ref l)) (fun it s₂ => LoopAtT prog w A h₀ env (.Name x px) body Q E it s₂) E s :=
  iter_listB (Led := fun o => (c, o) :: post) (Ok := fun o => ∃ v, o.data = .cell v) xf xn G hh (fun _ _ => .tail _ hm) hi (fun o _ p hp => by
    rcases List.mem_cons.mp hp with e | hp
    · rw [e]; exact .head _
    · exact .tail _ (List.mem_map_of_mem hp)) F N ho hf
    (fun i n t b tb u o I oI s₁ hi' hn hok hb hoff F₁ N₁ => by
      obtain ⟨v, hv⟩ := hok
      exact turn i n t b tb u o v I oI s₁ hi' hn hv hb (allNeB_of hoff) F₁ N₁)
    (fun h' tk b tb u o hok hb F' N' => by
      obtain ⟨v, hv⟩ := hok
      exact done h' tk b tb u o v hv hb F' N')
theorem en_callI {env : Env} {ce elt : PySem.Expr} {a bn : Str} {scope : Scope} {cl : List (Str × Addr)} {l : Addr} {Fin : Shared → List Value → List (Addr × Obj) → Prop} (p : Int)
    (hh : A.handled = none) (F : Fr h₀ L s.heap m) (N : News h₀ L s.heap news) (hm : (l, listOf vs.toArray nn) ∈ news) (hi : IntsAre vs ns) (hp : p ∈ ns) (hsz : ns.length ≤ 1000)
    (turn : ∀ g, EnTurn prog w A h₀ L m env ce elt a bn scope cl { s with heap := g } news vs (fun j => decide (j < ns.idxOf p))) (fin : ∀ g ys, ys.length = ns.idxOf p → Fin { s with heap := g } ys news) :
    wpAny (model prog w) A (call (.type "enumerate") [.ref l]) (EnSrc prog w A h₀ L m env ce elt a bn scope cl Fin) E s :=
  en_call (fun j => decide (j < ns.idxOf p)) hh F N hm (by rw [hi.length]; exact hsz) turn fun g ys hy => fin g ys (by
    rw [hy, hi.length]
    exact filt_lt _ _ (Nat.le_of_lt (List.idxOf_lt_length_of_mem hp)))
end
def SzB (n : Nat) (b : Array UInt8) : Prop := b.size ≤ n
theorem szb_of {j : Nat} {x : Int} {b : Array UInt8} (h : KBw.bInts b = beL j x) : SzB j b := Nat.le_of_eq ((bsize h).trans (beL_len _ _))
theorem szb_lit {b : Array UInt8} : SzB b.size b := Nat.le_refl _
theorem szb_ints {b : Array UInt8} {l : List Int} (h : KBw.bInts b = l) : SzB l.length b := Nat.le_of_eq (bsize h)
theorem szb_grown {α : Type} {b b0 : Array UInt8} {l : List α} {G : α → List Int} {n : Nat} (hb : KBw.bInts b = KBw.bInts b0 ++ (l.map G).flatten) (h : ∀ x, (G x).length ≤ 8) (s0 : SzB n b0) (hl : l.length ≤ 3) : SzB (n + 24) b := by
  have := size_grown hb h
  have s1 : b0.size ≤ n := s0
  show b.size ≤ n + 24
  omega
section
variable {prog : Program} {w : World} {A : Around} {E : Value → Shared → Prop} {s : Shared} {h₀ : Heap} {L D : Addr} {m : Str → Option Value} {news : List (Addr × Obj)} {vs : List Value} {ns ks ls : List Int} {b c : Array UInt8} {t u : Tok} {nn i j : Nat}
theorem add_S {Q : Value → Shared → Prop} (hb : KBw.bInts b = ks) (hc : KBw.bInts c = ls) (sb : SzB i b) (sc : SzB j c) (hz : i + j ≤ 16777216) (h : ∀ d t' k, KBw.bInts d = ks ++ ls → SzB (i + j) d → Q (.bytes d t') { s with toks := k }) :
    wpAny (model prog w) A (binaryOp .Add (.bytes b t) (.bytes c u)) Q E s :=
  add_B hb hc (Nat.le_trans (Nat.add_le_add sb sc) hz) fun d t' k hd hs => h d t' k hd (by show d.size ≤ i + j; rw [hs]; exact Nat.add_le_add sb sc)
theorem mul_S {n : Int} {Q : Value → Shared → Prop} (hb : KBw.bInts b = ks) (hl : ks.length = 4) (h0 : 0 ≤ n) (hn : n ≤ 1000) (h : ∀ d t' k, KBw.bInts d = (List.replicate n.toNat ks).flatten → SzB 4000 d → Q (.bytes d t') { s with toks := k }) :
    wpAny (model prog w) A (binaryOp .Mult (.bytes b t) (.int n u)) Q E s :=
  mul_B hb hl h0 hn fun d t' k hd hs => h d t' k hd (by show d.size ≤ 4000; rw [hs]; omega)
end

end

section
theorem wordsLawRb : True := by
  w_top off
  k_with_none
  (k_with "exec For Name Subscript cons nil" => (k_here; (rename Fr _ _ _ _ => lF'); (with_unfolding_all refine For_invVF lF' (by exact rfl) (by exact rfl) ?_; k_whole)))
  (k_with "call ref" => (k_here; k_dflt (first | (refine call_meth (by k_asm) (by k_mem) ?_; k_whole; (first | ((first | with_reducible refine code_defO (by k_dflt (exact rfl)) (by k_dflt (exact rfl)) (by k_dflt (first | exact rfl | assumption)) (by k_dflt (k_asm)) (by k_dflt (k_asm)) (by k_dflt (k_asm)) (by k_dflt (k_asm)) (by k_dflt (k_asm)) (by k_dflt (k_is)) (by k_dflt (k_is)) (by k_dflt (ktr_room)) (by k_dflt (first | exact BindsTo.of_eq rfl | exact binds_K (by k_in) rfl (by k_is) rfl rfl rfl)) (by k_dflt (decide)) (by k_dflt (exact locs rfl)) (by k_dflt (exact rfl)) (by k_dflt (exact rfl)) (by k_dflt (exact rfl)) ?_ | refine code_defO (by exact rfl) (by exact rfl) (by first | exact rfl | assumption) (by k_asm) (by k_asm) (by k_asm) (by k_asm) (by k_asm) (by k_is) (by k_is) (by ktr_room) (by first | exact BindsTo.of_eq rfl | exact binds_K (by k_in) rfl (by k_is) rfl rfl rfl) (by decide) (by exact locs rfl) (by exact rfl) (by exact rfl) (by exact rfl) ?_); k_whole; intro g' L' h' FG' F' N' B' X' T'; (try dsimp only); (try k_lift B'); (try k_fold)) | ((first | with_reducible refine code_defCO (by k_dflt (exact rfl)) (by k_dflt (exact rfl)) (by k_dflt (first | exact rfl | assumption)) (by k_dflt (k_asm)) (by k_dflt (k_asm)) (by k_dflt (k_asm)) (by k_dflt (k_asm)) (by k_dflt (k_asm)) (by k_dflt (k_is)) (by k_dflt (k_is)) (by k_dflt (ktr_room)) (by k_dflt (first | exact BindsTo.of_eq rfl | exact binds_K (by k_in) rfl (by k_is) rfl rfl rfl)) (by k_dflt (exact rfl)) (by k_dflt (decide +kernel)) (by k_dflt (exact rfl)) (by k_dflt (exact rfl)) (by k_dflt (exact rfl)) ?_ | refine code_defCO (by exact rfl) (by exact rfl) (by first | exact rfl | assumption) (by k_asm) (by k_asm) (by k_asm) (by k_asm) (by k_asm) (by k_is) (by k_is) (by ktr_room) (by first | exact BindsTo.of_eq rfl | exact binds_K (by k_in) rfl (by k_is) rfl rfl rfl) (by exact rfl) (by decide +kernel) (by exact rfl) (by exact rfl) (by exact rfl) ?_); k_whole; intro g' L' h' tk' cells' FG' F' N' Y' B' X' T' l1; (try k_lt l1); k_cells Y'; (try simp only [List.cons_append, List.nil_append] at N'); (try dsimp only); (try k_lift B'); (try k_fold)))) | ((first | with_reducible refine call_cls (by k_dflt (k_asm)) (by k_dflt (k_asm)) (by k_dflt (k_asm)) (by k_dflt (k_is)) (by k_dflt (k_is)) (by k_dflt (k_is)) ?_ | refine call_cls (by k_asm) (by k_asm) (by k_asm) (by k_is) (by k_is) (by k_is) ?_); k_whole; intro x' d' h' F' N' l1 l2; (try k_lt l1); (try k_lt2 l2); (try k_sweep); (first | ((first | with_reducible refine code_defO (by k_dflt (exact rfl)) (by k_dflt (exact rfl)) (by k_dflt (first | exact rfl | assumption)) (by k_dflt (k_asm)) (by k_dflt (k_asm)) (by k_dflt (k_asm)) (by k_dflt (k_asm)) (by k_dflt (k_asm)) (by k_dflt (k_is)) (by k_dflt (k_is)) (by k_dflt (ktr_room)) (by k_dflt (first | exact BindsTo.of_eq rfl | exact binds_K (by k_in) rfl (by k_is) rfl rfl rfl)) (by k_dflt (decide)) (by k_dflt (exact locs rfl)) (by k_dflt (exact rfl)) (by k_dflt (exact rfl)) (by k_dflt (exact rfl)) ?_ | refine code_defO (by exact rfl) (by exact rfl) (by first | exact rfl | assumption) (by k_asm) (by k_asm) (by k_asm) (by k_asm) (by k_asm) (by k_is) (by k_is) (by ktr_room) (by first | exact BindsTo.of_eq rfl | exact binds_K (by k_in) rfl (by k_is) rfl rfl rfl) (by decide) (by exact locs rfl) (by exact rfl) (by exact rfl) (by exact rfl) ?_); k_whole; intro g' L' h' FG' F' N' B' X' T'; (try dsimp only); (try k_lift B'); (try k_fold)) | ((first | with_reducible refine code_defCO (by k_dflt (exact rfl)) (by k_dflt (exact rfl)) (by k_dflt (first | exact rfl | assumption)) (by k_dflt (k_asm)) (by k_dflt (k_asm)) (by k_dflt (k_asm)) (by k_dflt (k_asm)) (by k_dflt (k_asm)) (by k_dflt (k_is)) (by k_dflt (k_is)) (by k_dflt (ktr_room)) (by k_dflt (first | exact BindsTo.of_eq rfl | exact binds_K (by k_in) rfl (by k_is) rfl rfl rfl)) (by k_dflt (exact rfl)) (by k_dflt (decide +kernel)) (by k_dflt (exact rfl)) (by k_dflt (exact rfl)) (by k_dflt (exact rfl)) ?_ | refine code_defCO (by exact rfl) (by exact rfl) (by first | exact rfl | assumption) (by k_asm) (by k_asm) (by k_asm) (by k_asm) (by k_asm) (by k_is) (by k_is) (by ktr_room) (by first | exact BindsTo.of_eq rfl | exact binds_K (by k_in) rfl (by k_is) rfl rfl rfl) (by exact rfl) (by decide +kernel) (by exact rfl) (by exact rfl) (by exact rfl) ?_); k_whole; intro g' L' h' tk' cells' FG' F' N' Y' B' X' T' l1; (try k_lt l1); k_cells Y'; (try simp only [List.cons_append, List.nil_append] at N'); (try dsimp only); (try k_lift B'); (try k_fold)))) | ((first | with_reducible refine wpAny_call ?_ | refine wpAny_call ?_); (first | ((first | with_reducible refine code_defO (by k_dflt (exact rfl)) (by k_dflt (exact rfl)) (by k_dflt (first | exact rfl | assumption)) (by k_dflt (k_asm)) (by k_dflt (k_asm)) (by k_dflt (k_asm)) (by k_dflt (k_asm)) (by k_dflt (k_asm)) (by k_dflt (k_is)) (by k_dflt (k_is)) (by k_dflt (ktr_room)) (by k_dflt (first | exact BindsTo.of_eq rfl | exact binds_K (by k_in) rfl (by k_is) rfl rfl rfl)) (by k_dflt (decide)) (by k_dflt (exact locs rfl)) (by k_dflt (exact rfl)) (by k_dflt (exact rfl)) (by k_dflt (exact rfl)) ?_ | refine code_defO (by exact rfl) (by exact rfl) (by first | exact rfl | assumption) (by k_asm) (by k_asm) (by k_asm) (by k_asm) (by k_asm) (by k_is) (by k_is) (by ktr_room) (by first | exact BindsTo.of_eq rfl | exact binds_K (by k_in) rfl (by k_is) rfl rfl rfl) (by decide) (by exact locs rfl) (by exact rfl) (by exact rfl) (by exact rfl) ?_); k_whole; intro g' L' h' FG' F' N' B' X' T'; (try dsimp only); (try k_lift B'); (try k_fold)) | ((first | with_reducible refine code_defCO (by k_dflt (exact rfl)) (by k_dflt (exact rfl)) (by k_dflt (first | exact rfl | assumption)) (by k_dflt (k_asm)) (by k_dflt (k_asm)) (by k_dflt (k_asm)) (by k_dflt (k_asm)) (by k_dflt (k_asm)) (by k_dflt (k_is)) (by k_dflt (k_is)) (by k_dflt (ktr_room)) (by k_dflt (first | exact BindsTo.of_eq rfl | exact binds_K (by k_in) rfl (by k_is) rfl rfl rfl)) (by k_dflt (exact rfl)) (by k_dflt (decide +kernel)) (by k_dflt (exact rfl)) (by k_dflt (exact rfl)) (by k_dflt (exact rfl)) ?_ | refine code_defCO (by exact rfl) (by exact rfl) (by first | exact rfl | assumption) (by k_asm) (by k_asm) (by k_asm) (by k_asm) (by k_asm) (by k_is) (by k_is) (by ktr_room) (by first | exact BindsTo.of_eq rfl | exact binds_K (by k_in) rfl (by k_is) rfl rfl rfl) (by exact rfl) (by decide +kernel) (by exact rfl) (by exact rfl) (by exact rfl) ?_); k_whole; intro g' L' h' tk' cells' FG' F' N' Y' B' X' T' l1; (try k_lt l1); k_cells Y'; (try simp only [List.cons_append, List.nil_append] at N'); (try dsimp only); (try k_lift B'); (try k_fold)))))))
  (k_with "execs cons" => (k_here; (with_reducible (refine gen_toks ?_)); intro tk))
  (k_with "execs nil" => (k_here; (with_reducible (refine gen_toks ?_)); intro tk))
  (k_with "call builtin:list.append" => (k_here; k_dflt ((first | with_reducible refine app_K (by k_dflt (k_asm)) (by k_dflt (k_asm)) (by k_dflt (k_updF)) (by k_dflt ((simp only [List.length_append, List.length_cons, List.length_nil]; omega))) ?_ | refine app_K (by k_asm) (by k_asm) (by k_updF) (by (simp only [List.length_append, List.length_cons, List.length_nil]; omega)) ?_)); intro h' F' N'; (try dsimp only at N'); (try dsimp only)))
  (k_with "call ref" => (k_here; k_dflt (((with_reducible show wpAny _ _ (call (Value.ref 85) _) _ _ _); first | with_reducible refine abe (by k_dflt (k_asm)) (by k_dflt (k_asm)) (by k_dflt (k_asm)) (by k_dflt (k_asm)) (by k_dflt (k_asm)) (by k_dflt (first | exact rfl | assumption)) (by k_dflt (ktr_room)) (by k_dflt (ktr_units)) (by k_dflt (assumption)) (by k_dflt (omega)) (by k_dflt (omega)) (by k_dflt (omega)) (by k_dflt (omega)) ?_ | refine abe (by k_asm) (by k_asm) (by k_asm) (by k_asm) (by k_asm) (by first | exact rfl | assumption) (by ktr_room) (by ktr_units) (by assumption) (by omega) (by omega) (by omega) (by omega) ?_); k_whole); intro t9 h9 tk9 F9 N9; (try dsimp only); (try k_fold)))
  (k_with "compareOp Lt bytes bytes" => refine lt_bytes ?_)
  (k_with "compareOp LtE bytes bytes" => refine le_bytes ?_)
  (k_with "subscriptTail" => (k_here; (with_reducible show wpAny _ _ (subscriptTail _ _ (Value.ref _) (Value.str _ _)) _ _ _); k_dflt ((first | with_reducible refine kda_item (knd := PySem.strKind _ _) (by k_dflt (k_asm)) (by k_dflt (k_mem)) (by k_dflt (k_asm)) (strKind_is _ _ _ _) (by k_dflt (rfl)) ?_ | refine kda_item (knd := PySem.strKind _ _) (by k_asm) (by k_mem) (by k_asm) (strKind_is _ _ _ _) (by rfl) ?_))))
  (k_with "subscriptTail" => (k_here; (with_reducible show wpAny _ _ (subscriptTail _ _ (Value.ref _) (Value.bytes _ _)) _ _ _); k_dflt ((first | with_reducible refine kda_item (knd := PySem.W.bytesKind _ _) (by k_dflt (k_asm)) (by k_dflt (k_mem)) (by k_dflt (k_asm)) (bytesKind_at _ _ _ _) (by k_dflt (first | exact value_one _ _ | rfl)) ?_ | refine kda_item (knd := PySem.W.bytesKind _ _) (by k_asm) (by k_mem) (by k_asm) (bytesKind_at _ _ _ _) (by first | exact value_one _ _ | rfl) ?_))))
  (k_with "setItem ref str" => (k_here; k_dflt ((first | with_reducible refine kda_set (knd := PySem.strKind _ _) (by k_dflt (k_asm)) (by k_dflt (k_asm)) (by k_dflt (k_updF)) (by k_dflt (k_asm)) (strKind_is _ _ _ _) (by k_dflt (rw [sizeLine_eq]; exact Nat.le_of_ble_eq_true (by with_unfolding_all rfl))) ?_ | refine kda_set (knd := PySem.strKind _ _) (by k_asm) (by k_asm) (by k_updF) (by k_asm) (strKind_is _ _ _ _) (by rw [sizeLine_eq]; exact Nat.le_of_ble_eq_true (by with_unfolding_all rfl)) ?_)); intro h' o' F' N' hd'; (try dsimp only at N'); (try rw [stored_mixed] at hd'); (try rw [stored_nil] at hd')))
  (k_with "compareOp NotIn bytes ref" => (k_here; k_dflt ((first | with_reducible refine notin_bytes (by k_dflt (k_asm)) (by k_dflt (k_mem)) (by k_dflt (k_asm)) (by k_dflt (k_asm)) (by k_dflt (first | rfl | exact value_is _ _)) ?_ | refine notin_bytes (by k_asm) (by k_mem) (by k_asm) (by k_asm) (by first | rfl | exact value_is _ _) ?_))))
  (k_with "setItem ref bytes" => (k_here; k_dflt ((first | with_reducible refine kda_set (knd := PySem.W.bytesKind _ _) (by k_dflt (k_asm)) (by k_dflt (k_asm)) (by k_dflt (k_updF)) (by k_dflt (k_asm)) (bytesKind_at _ _ _ _) (by k_dflt (rw [sizeLine_eq]; exact Nat.le_of_ble_eq_true (by with_unfolding_all rfl))) ?_ | refine kda_set (knd := PySem.W.bytesKind _ _) (by k_asm) (by k_asm) (by k_updF) (by k_asm) (bytesKind_at _ _ _ _) (by rw [sizeLine_eq]; exact Nat.le_of_ble_eq_true (by with_unfolding_all rfl)) ?_)); intro h' o' F' N' hd'; (try dsimp only at N'); (try rw [stored_mixed] at hd'); (try rw [stored_nil] at hd')))
  (k_with "call builtin:len" => (k_here; (with_reducible show wpAny _ _ (call (Value.builtin "len") [Value.ref _]) _ _ _); k_dflt ((first | with_reducible refine kda_len (knd := PySem.W.bytesKind _ _) (by k_dflt (k_asm)) (by k_dflt (k_mem)) (by k_dflt (k_asm)) (by k_dflt (k_asm)) (Nat.le_of_ble_eq_true (by with_unfolding_all rfl)) ?_ | refine kda_len (knd := PySem.W.bytesKind _ _) (by k_asm) (by k_mem) (by k_asm) (by k_asm) (Nat.le_of_ble_eq_true (by with_unfolding_all rfl)) ?_))))
  (k_with "call type:bytes" => (k_here; (with_reducible show wpAny _ _ (call (Value.type "bytes") [Value.bytes _ _]) _ _ _); (refine call_bytesB ?_)))
  (k_with "LeaveK" => ((try ((rename RestIn _ _ _ _ => rI); (rename Fr _ _ _ _ => lF'); (have rJ := RestIn.keeps rI lF'); (try ((rename News _ _ _ _ => lN'); (have rK := RestIn.apart rI lN'))))); (k_dflt ((first | with_reducible refine leaveK_ (by k_dflt (k_asm)) (by k_dflt (k_asm)) ?_ | refine leaveK_ (by k_asm) (by k_asm) ?_); k_whole); intro kF kN; ground_anew kF; (have kX := kFor kF (by k_asm)); (try dsimp only [InitBack, CmpBack, LenBack, StrBack, BoolBack]); (try refine ⟨rfl, ?_⟩); (try dsimp only [CmpBack, LenBack, StrBack, BoolBack]); (try (refine ⟨⟨by omega, by omega⟩, ?_⟩)); (try (refine handed_on rfl ?_; try dsimp only)))))
  (k_with "setAttr ref" => (k_here; k_dflt ((first | with_reducible refine exc_set (K := Mine.hd.heap_1 _) (by k_dflt (k_asm)) (by k_dflt (k_asm)) (by k_dflt (k_asm)) (by k_dflt ((intro p hp; first | exact nomatch hp))) (by k_dflt (k_is)) (by k_dflt (k_is)) (by k_dflt ((intro self; exact PySem.F.store_Exception.passes self))) (by k_dflt (decide)) (by k_dflt (decide)) (by k_dflt (exact rfl)) (by k_dflt (k_is)) ?_ | refine exc_set (K := Mine.hd.heap_1 _) (by k_asm) (by k_asm) (by k_asm) (by (intro p hp; first | exact nomatch hp)) (by k_is) (by k_is) (by (intro self; exact PySem.F.store_Exception.passes self)) (by decide) (by decide) (by exact rfl) (by k_is) ?_); intro h' D oD tk F' N' hpD hDe); (try dsimp only)))
  (k_with "call ref" => (k_here; k_dflt (((with_reducible show wpAny _ _ (call (Value.ref 64) _) _ _ _); first | with_reducible refine badpack (by k_dflt (k_asm)) (by k_dflt (k_asm)) (by k_dflt (k_asm)) (by k_dflt (k_asm)) (by k_dflt (first | exact rfl | assumption)) (by k_dflt (ktr_room)) (by k_dflt (ktr_units)) (by k_dflt (k_asm)) ?_ | refine badpack (by k_asm) (by k_asm) (by k_asm) (by k_asm) (by first | exact rfl | assumption) (by ktr_room) (by ktr_units) (by k_asm) ?_); k_whole); intro e9 t9 d9 o9 h9 tk9 F9 N9; (try dsimp only); (try k_fold)))
  (k_with "exec Raise some none" => (k_here; k_dflt ((first | with_reducible refine Raise_x (K := Mine.hd.heap_1 _) (C := 64) (by k_dflt (k_asm)) (by k_dflt (k_is)) (by k_dflt (decide)) (by k_dflt (first | exact rfl | assumption)) ?_ | refine Raise_x (K := Mine.hd.heap_1 _) (C := 64) (by k_asm) (by k_is) (by decide) (by first | exact rfl | assumption) ?_); k_whole)))
  (k_with "RaisableX" => (k_here; k_dflt ((first | with_reducible refine raisable_x (by k_dflt (k_asm)) (by k_dflt (k_asm)) ?_ | refine raisable_x (by k_asm) (by k_asm) ?_); k_whole)))
  (k_with "leaving ref" => (k_here; k_dflt ((first | with_reducible refine leave_X (by k_dflt (assumption)) (by k_dflt (k_asm)) (by k_dflt (k_asm)) ?_ (by k_dflt (exact rfl)) | refine leave_X (by assumption) (by k_asm) (by k_asm) ?_ (by exact rfl)); k_whole); intro h' R' U'; (try dsimp only at R' U' ⊢)))
  (k_with "binaryOp Mult ref int" => (k_here; (with_reducible show wpAny _ _ (binaryOp Operator.Mult (Value.ref _) (Value.int _ _)) _ _ _); k_dflt ((first | with_reducible refine zeros_K (by k_dflt (k_asm)) (by k_dflt (k_asm)) (by k_dflt (k_mem)) ?_ | refine zeros_K (by k_asm) (by k_asm) (by k_mem) ?_)); intro D' h' ws' F' N' l1 i1; (try k_lt l1)))
  (k_with "subscriptTail" => (k_here; (with_reducible show wpAny _ _ (subscriptTail _ _ (Value.bytes _ _) (Value.int 0 _)) _ _ _); k_dflt ((first | with_reducible refine oid0 ?_ | refine oid0 ?_)); intro _ _))
  (k_with "getItem ref int" => (k_here; k_dflt ((first | with_reducible refine cnt_item (by k_dflt (k_asm)) (by k_dflt (k_mem)) (by k_dflt (assumption)) ?_ | refine cnt_item (by k_asm) (by k_mem) (by assumption) ?_)); intro _))
  (k_with "setItem ref int" => (k_here; k_dflt ((first | with_reducible refine cnt_store (by k_dflt (k_asm)) (by k_dflt (k_asm)) (by k_dflt (k_updF)) (by k_dflt (assumption)) ?_ | refine cnt_store (by k_asm) (by k_asm) (by k_updF) (by assumption) ?_)); intro h' ws' F' N' hi'; (try dsimp only at N')))
  (k_with "subscriptTail Name Name ref int" => (k_here; k_dflt (first | ((first | with_reducible refine cnt_sub (by k_dflt (k_asm)) (by k_dflt (k_mem)) (by k_dflt (assumption)) (by k_dflt (omega)) (by k_dflt (omega)) ?_ | refine cnt_sub (by k_asm) (by k_mem) (by assumption) (by omega) (by omega) ?_); intro t9 x9 f9) | ((first | with_reducible refine fan_sub (by k_dflt (k_asm)) (by k_dflt (k_mem)) (by k_dflt (assumption)) (by k_dflt (omega)) (by k_dflt (omega)) ?_ | refine fan_sub (by k_asm) (by k_mem) (by assumption) (by omega) (by omega) ?_); intro t9 x9 f9))))
  (k_with "call ref" => (k_here; k_dflt (((with_reducible show wpAny _ _ (call (Value.ref 71) _) _ _ _); first | with_reducible refine be4 (by k_dflt (k_asm)) (by k_dflt (k_asm)) (by k_dflt (k_asm)) (by k_dflt (k_asm)) (by k_dflt (k_asm)) (by k_dflt (first | exact rfl | assumption)) (by k_dflt (ktr_room)) (by k_dflt (ktr_units)) (by k_dflt (first | exact .inl rfl | exact .inr rfl)) ?_ | refine be4 (by k_asm) (by k_asm) (by k_asm) (by k_asm) (by k_asm) (by first | exact rfl | assumption) (by ktr_room) (by ktr_units) (by first | exact .inl rfl | exact .inr rfl) ?_); k_whole); intro b9 t9 h9 tk9 hb9 F9 N9; (try dsimp only); (try k_fold)))
  (k_with "call ref" => (k_here; k_dflt (((with_reducible show wpAny _ _ (call (Value.ref 121) _) _ _ _); first | with_reducible refine dig2c (by k_dflt (k_asm)) (by k_dflt (k_asm)) (by k_dflt (k_asm)) (by k_dflt (k_asm)) (by k_dflt (k_asm)) (by k_dflt (first | exact rfl | assumption)) (by k_dflt (ktr_room)) (by k_dflt (ktr_units)) (by k_dflt (assumption)) (by k_dflt (assumption)) (by k_dflt (assumption)) ?_ | refine dig2c (by k_asm) (by k_asm) (by k_asm) (by k_asm) (by k_asm) (by first | exact rfl | assumption) (by ktr_room) (by ktr_units) (by assumption) (by assumption) (by assumption) ?_); k_whole); intro b9 t9 h9 tk9 hb9 F9 N9; (try dsimp only); (try k_fold)))
  (k_with "call ref" => (k_here; k_dflt (((with_reducible show wpAny _ _ (call (Value.ref 161) _) _ _ _); first | with_reducible refine plc (by k_dflt (k_asm)) (by k_dflt (k_asm)) (by k_dflt (k_asm)) (by k_dflt (k_asm)) (by k_dflt (first | exact rfl | assumption)) (by k_dflt (ktr_room)) (by k_dflt (ktr_units)) (by k_dflt (k_asm)) (by k_dflt (assumption)) (by k_dflt (omega)) (by k_dflt (omega)) (by k_dflt (omega)) (by k_dflt (omega)) (by k_dflt (omega)) (by k_dflt (omega)) (by k_dflt (omega)) (by k_dflt (omega)) ?_ ?_ | refine plc (by k_asm) (by k_asm) (by k_asm) (by k_asm) (by first | exact rfl | assumption) (by ktr_room) (by ktr_units) (by k_asm) (by assumption) (by omega) (by omega) (by omega) (by omega) (by omega) (by omega) (by omega) (by omega) ?_ ?_); k_whole); (all_goals (intros; (try dsimp only); (try k_fold)))))
  (k_with "call ref" => (k_here; k_dflt (((with_reducible show wpAny _ _ (call (Value.ref 154) _) _ _ _); first | with_reducible refine chkW (by k_dflt (k_asm)) (by k_dflt (k_asm)) (by k_dflt (k_asm)) (by k_dflt (k_asm)) (by k_dflt (first | exact rfl | assumption)) (by k_dflt (ktr_room)) (by k_dflt (ktr_units)) (by k_dflt (k_asm)) (by k_dflt (k_mem)) (by k_dflt (k_mem)) (by k_dflt (first | with_reducible assumption | (refine Ne.symm ?_; with_reducible assumption) | omega)) (by k_dflt (omega)) (by k_dflt (omega)) (by k_dflt (assumption)) (by k_dflt (assumption)) (by k_dflt (assumption)) ?_ | refine chkW (by k_asm) (by k_asm) (by k_asm) (by k_asm) (by first | exact rfl | assumption) (by ktr_room) (by ktr_units) (by k_asm) (by k_mem) (by k_mem) (by first | with_reducible assumption | (refine Ne.symm ?_; with_reducible assumption) | omega) (by omega) (by omega) (by assumption) (by assumption) (by assumption) ?_); k_whole); intro h9 tk9 F9 N9; (try dsimp only); (try k_fold)))
  (k_with "call ref" => (k_here; k_dflt (first | (((with_reducible show wpAny _ _ (call (Value.ref 272) _) _ _ _); first | with_reducible refine big4 (by k_dflt (k_asm)) (by k_dflt (k_asm)) (by k_dflt (k_asm)) (by k_dflt (k_asm)) (by k_dflt (k_asm)) (by k_dflt (first | exact rfl | assumption)) (by k_dflt (ktr_room)) (by k_dflt (ktr_units)) ?_ | refine big4 (by k_asm) (by k_asm) (by k_asm) (by k_asm) (by k_asm) (by first | exact rfl | assumption) (by ktr_room) (by ktr_units) ?_); k_whole) | (((with_reducible show wpAny _ _ (call (Value.ref 272) _) _ _ _); first | with_reducible refine big8 (by k_dflt (k_asm)) (by k_dflt (k_asm)) (by k_dflt (k_asm)) (by k_dflt (k_asm)) (by k_dflt (k_asm)) (by k_dflt (first | exact rfl | assumption)) (by k_dflt (ktr_room)) (by k_dflt (ktr_units)) ?_ | refine big8 (by k_asm) (by k_asm) (by k_asm) (by k_asm) (by k_asm) (by first | exact rfl | assumption) (by ktr_room) (by ktr_units) ?_); k_whole)); intro b9 t9 h9 tk9 hb9 F9 N9; (have hz9 := szb_of hb9); (try dsimp only); (try k_fold)))
  (k_with "binaryOp Add bytes bytes" => (k_here; k_dflt ((first | with_reducible refine add_S (by k_dflt (first | assumption | exact rfl)) (by k_dflt (first | assumption | exact rfl)) (by k_dflt (first | assumption | exact szb_lit)) (by k_dflt (assumption)) (by k_dflt (exact Nat.le_of_ble_eq_true rfl)) ?_ | refine add_S (by first | assumption | exact rfl) (by first | assumption | exact rfl) (by first | assumption | exact szb_lit) (by assumption) (by exact Nat.le_of_ble_eq_true rfl) ?_)); intro d9 t9 k9 hb9 hz9; (try dsimp only)))
  (k_with "binaryOp Mult bytes int" => (k_here; k_dflt ((first | with_reducible refine mul_S (by k_dflt (assumption)) (by k_dflt (exact beL_len _ _)) (by k_dflt (omega)) (by k_dflt (omega)) ?_ | refine mul_S (by assumption) (by exact beL_len _ _) (by omega) (by omega) ?_)); intro d9 t9 k9 hb9 hz9; (try dsimp only)))
  (k_with "call type:bytes" => (k_here; (with_reducible show wpAny _ _ (call (Value.type "bytes") [Value.ref _]) _ _ _); k_dflt ((first | with_reducible refine mk_B (by k_dflt (k_asm)) (by k_dflt (k_asm)) (by k_dflt (rfl)) (by k_dflt (k_mem)) (by k_dflt (exact .cons _ _ (.cons _ _ (.cons _ _ (.cons _ _ .nil))))) (by k_dflt ((intro n9 hn9; (simp only [List.mem_cons, List.not_mem_nil, or_false] at hn9); omega))) (by k_dflt (exact Nat.le_of_ble_eq_true rfl)) ?_ | refine mk_B (by k_asm) (by k_asm) (by rfl) (by k_mem) (by exact .cons _ _ (.cons _ _ (.cons _ _ (.cons _ _ .nil)))) (by (intro n9 hn9; (simp only [List.mem_cons, List.not_mem_nil, or_false] at hn9); omega)) (by exact Nat.le_of_ble_eq_true rfl) ?_)); intro h9 d9 t9 k9 F9 N9 hb9 hz9; (replace hz9 := szb_ints hb9); (try dsimp only)))
  (k_with "compareOp In int ref" => (k_here; k_dflt ((first | with_reducible refine in_B (by k_dflt (k_asm)) (by k_dflt (k_mem)) (by k_dflt (assumption)) ?_ ?_ | refine in_B (by k_asm) (by k_mem) (by assumption) ?_ ?_)); intro hb9; (try dsimp only)))
  (k_with "compareOp NotIn int ref" => (k_here; k_dflt ((first | with_reducible refine notin_B (by k_dflt (k_asm)) (by k_dflt (k_mem)) (by k_dflt (assumption)) ?_ ?_ | refine notin_B (by k_asm) (by k_mem) (by assumption) ?_ ?_)); intro hb9; (try dsimp only)))
  (k_with "call builtin:list.index" => (k_here; k_dflt ((first | with_reducible refine idx_B (by k_dflt (k_asm)) (by k_dflt (k_mem)) (by k_dflt (assumption)) (by k_dflt (assumption)) (by k_dflt (omega)) ?_ | refine idx_B (by k_asm) (by k_mem) (by assumption) (by assumption) (by omega) ?_)); (try dsimp only)))
  (k_with "eval ListComp" => (k_here; (with_reducible show wpAny _ _ (eval (PySem.Expr.ListComp _ [⟨PySem.Expr.Name _ _, _, [_], _⟩] _ _) _) _ _ _); k_dflt ((first | with_reducible refine LCt.ListComp_T (F₀ := by k_dflt (k_asm)) (by k_dflt (with_unfolding_all rfl)) (by k_dflt (decide)) (by k_dflt (rfl)) (by k_dflt (decide)) (by k_dflt (rfl)) ?_ | refine LCt.ListComp_T (F₀ := by k_asm) (by with_unfolding_all rfl) (by decide) (by rfl) (by decide) (by rfl) ?_))))
  (k_with "CompSrcT" => (k_here; k_dflt ((first | with_reducible refine LCt.CompSrcT.ledger (by k_dflt (rfl)) (by k_dflt (k_asm)) (by k_dflt (k_asm)) (by k_dflt (k_mem)) (by k_dflt (rw [List.size_toArray, PySem.sizeLine_eq]; omega)) ?_ | refine LCt.CompSrcT.ledger (by rfl) (by k_asm) (by k_asm) (by k_mem) (by rw [List.size_toArray, PySem.sizeLine_eq]; omega) ?_)); intro g'; (refine' kci_list gG (by assumption) ?_ ?_ ?_)))
  (k_with "eval ListComp" => (k_here; (with_reducible show wpAny _ _ (eval (PySem.Expr.ListComp _ [⟨PySem.Expr.Tuple _ _ _, _, _, _⟩] _ _) _) _ _ _); k_dflt ((first | with_reducible refine ListComp_E (_F₀ := by k_dflt (k_asm)) (by k_dflt (with_unfolding_all rfl)) (by k_dflt (decide)) (by k_dflt (rfl)) (by k_dflt (decide)) (by k_dflt (rfl)) (by k_dflt (rfl)) (by k_dflt (decide)) ?_ | refine ListComp_E (_F₀ := by k_asm) (by with_unfolding_all rfl) (by decide) (by rfl) (by decide) (by rfl) (by rfl) (by decide) ?_))))
  (k_with "call type:enumerate" => (k_here; k_dflt ((first | with_reducible refine en_callI n (by k_dflt (rfl)) (by k_dflt (k_asm)) (by k_dflt (k_asm)) (by k_dflt (k_mem)) (by k_dflt (assumption)) (by k_dflt (assumption)) (by k_dflt (omega)) ?_ ?_ | refine en_callI n (by rfl) (by k_asm) (by k_asm) (by k_mem) (by assumption) (by assumption) (by omega) ?_ ?_)); (all_goals (first | (intro g9 ys9 hys9; (show LCg.FinE _ _ _ _ _ _ _)) | (intro g9; unfold EnTurn; intro i9 x9 t9 e9 it9 C9 D9 oE9 oIt9 oC9 m9 ys9 h9 tk9 E9 hi9 hx9 hC9 ha9 hb9 F9 N9)))))
  trivial
inductive Pick (D : Addr) (o : Obj) : List (Addr × Obj) → List (Addr × Obj) → Prop
  | head {l : List (Addr × Obj)} : (∀ p ∈ l, p.1 ≠ D) → Pick D o ((D, o) :: l) l
  | tail {p : Addr × Obj} {l r : List (Addr × Obj)} : @Ne Nat p.1 D → Pick D o l r → Pick D o (p :: l) (p :: r)
theorem Pick.mem {D : Addr} {o : Obj} {l r : List (Addr × Obj)} (h : Pick D o l r) : (D, o) ∈ l := by
  induction h with
  | head _ => exact .head _
  | tail _ _ ih => exact .tail _ ih
theorem Pick.sub {D : Addr} {o : Obj} {l r : List (Addr × Obj)} (h : Pick D o l r) : ∀ p ∈ r, p ∈ l := by
  induction h with
  | head _ => exact fun p hp => .tail _ hp
  | tail _ _ ih =>
    intro p hp
    rcases List.mem_cons.mp hp with e | hp
    · rw [e]; exact .head _
    · exact .tail _ (ih p hp)
theorem Pick.ne {D : Addr} {o : Obj} {l r : List (Addr × Obj)} (h : Pick D o l r) : ∀ p ∈ r, p.1 ≠ D := by
  induction h with
  | head h => exact h
  | tail h _ ih =>
    intro p hp
    rcases List.mem_cons.mp hp with e | hp
    · rw [e]; exact h
    · exact ih p hp
theorem Pick.news {h₀ h : Heap} {L D : Addr} {o : Obj} {l r : List (Addr × Obj)} (P : Pick D o l r) (N : News h₀ L h l) : News h₀ L h r := fun p hp => N p (P.sub p hp)
theorem Apart.cons {D : Addr} {o : Obj} {rel rest : List (Addr × Obj)} (h : Apart rel rest) (hn : ∀ p ∈ rest, p.1 ≠ D) : Apart ((D, o) :: rel) rest := fun p hp hq => by
  rcases List.mem_cons.mp hq with e | hq
  · exact hn p hp e
  · exact h p hp hq
section
variable {w : World} {p : Program} {loose : List Str} {mean : ExcName → Option Value} {mg mb : Str → Option Value}
  {dp un : Nat} {gd : Option (List Code)} {cn : Str} {cs : Scope} {a : Addr} {ccd : Value} {cl : List (Str × Addr)} {outer : List Env} {A₀ : Around} {base h₀ : Heap} {L : Addr} {m : Str → Option Value} {s : Shared} {Q E : Value → Shared → Prop}

theorem drawW {full r1 r2 : List (Addr × Obj)} {tm : Tok} {lL dD : Addr} {oD : Obj} {vs : List Value} {nn : Nat} {many : Int}
    (B : Below A₀ base outer h₀) (F : Fr h₀ L s.heap m) (X : (hd.heap_1 w.params).In h₀) (N : News h₀ L s.heap full) (hD : DeckOk w oD lL vs) (P1 : Pick dD oD full r1) (P2 : Pick lL (listOf vs.toArray nn) r1 r2) (T : Top p loose mean mg mb h₀) (hk : cs.kind = .function)
    (hd : dp + 5 < recursionLimit) (hu : un + 100 < cLine)
    (hlo : (dD == sysModules) = false) (hl : @Ne Nat lL dD) (hm0 : 0 < many) (hm1 : many < 1000)
    (ret : ∀ (r : Int) (t : Tok) (h' : Heap) (tk' : Nat) (oD' : Obj) (vs' : List Value) (nn' : Nat), 0 ≤ r → r < many → DeckOk w oD' lL vs' → Fr h₀ L h' m → News h₀ L h' ((dD, oD') :: (lL, listOf vs'.toArray nn') :: r2) → Q (.int r t) { s with heap := h', toks := tk' }) :
    wpAny (model PySem.Challenge.rw_nt0280_01.row.prog w) (ktrTop dp un gd cn cs L a ccd cl outer) (call (.ref 267) [.ref dD, .int many tm]) Q E s :=
  draw (news := r2) B F X (fun p hp => by
    rcases List.mem_cons.mp hp with e | hp
    · rw [e]; exact N _ P1.mem
    · rw [List.mem_singleton.mp hp]; exact P1.news N _ P2.mem) (P2.news (P1.news N)) (Apart.mk2 (fun p hp => P1.ne p (P2.sub p hp)) P2.ne) T hk hd hu hD hlo hl hm0 hm1 ret
end
theorem menu_in {l : List Int} {k : Int} (h0 : 0 ≤ k) (h1 : k < l.length) : l.getD k.toNat 0 ∈ l := by
  have : k.toNat < l.length := by omega
  rw [List.getD_eq_getElem?_getD, List.getElem?_eq_getElem this]
  exact List.getElem_mem this
theorem bytes_of_str {prog : Program} {w : World} {o : Obj} (h : o.IsDictOf (PySem.strKind prog w) []) : o.IsDictOf (PySem.W.bytesKind prog w) [] := by
  obtain ⟨es, ep, hx, hd, hk, hp, hn⟩ := h
  have e : es.toList = [] := by
    generalize es.toList = l at hp
    cases hp
    rfl
  have e' : es = #[] := by
    obtain ⟨l⟩ := es
    simp only at e
    rw [e]
  subst e'
  exact ⟨#[], ep, hx, hd, (fun e he => absurd he (by simp)), .nil, List.nodup_nil⟩
section
variable {prog : Program} {w : World} {A : Around} {E : Value → Shared → Prop} {s : Shared} {env : Env} {h₀ : Heap} {x : Str} {px : Pos} {body : List Stmt} {Q : Flow → Shared → Prop}
def PsOk (ps : List Int) (i : Nat) : Prop := ps.Nodup ∧ (∀ p ∈ ps, 0 ≤ p ∧ p ≤ 9223372036854775808) ∧ ps.length ≤ i ∧ (0 < i → ps ≠ [])
def JP (w : World) (dD lL lP : Addr) (post : List (Addr × Obj)) (i : Nat) (news : List (Addr × Obj)) : Prop :=
  ∃ oD dv dn vs nn ps, news = (dD, oD) :: (lL, listOf dv.toArray dn) :: (lP, listOf vs.toArray nn) :: post ∧ DeckOk w oD lL dv ∧ IntsAre vs ps ∧ PsOk ps i
theorem iter_places {r dD lL lP : Addr} {n : Nat} {e0 : Int} {t₁ t₂ t₃ : Tok} {oD0 : Obj} {dv0 vs0 : List Value} {dn0 nn0 : Nat} {post : List (Addr × Obj)} {m₀ : Str → Option Value} (x1 x2 : Str)
    (hh : A.handled = none) (hr : IsRange s.heap r 0 e0 1 t₁ t₂ t₃) (hen : e0 = (n : Int)) (hn : n ≤ 1000) (F : Fr h₀ env.locals s.heap m₀) (N : News h₀ env.locals s.heap ((dD, oD0) :: (lL, listOf dv0.toArray dn0) :: (lP, listOf vs0.toArray nn0) :: post)) (hD : DeckOk w oD0 lL dv0) (hv0 : vs0 = [])
    (turn : ∀ (i : Nat) t u1 u2 I oI oD dv dn vs nn ps (s₁ : Shared), i < n → DeckOk w oD lL dv → IntsAre vs ps → PsOk ps i → AllNeB I ((dD, oD) :: (lL, listOf dv.toArray dn) :: (lP, listOf vs.toArray nn) :: post) → Fr h₀ env.locals s₁.heap (Mid2 m₀ x1 x2 u1 u2) → News h₀ env.locals s₁.heap ((I, oI) :: (dD, oD) :: (lL, listOf dv.toArray dn) :: (lP, listOf vs.toArray nn) :: post) →
      wpAny (model prog w) A (assign (.Name x px) env (.int (i : Int) t)) (fun _ s₃ => wpAny (model prog w) A (execs body env) (TurnL h₀ env.locals I oI (JP w dD lL lP post (i + 1)) m₀ x1 x2 s₁) E s₃) E s₁)
    (done : ∀ h' tk u1 u2 oD dv dn vs nn ps, DeckOk w oD lL dv → IntsAre vs ps → PsOk ps n → Fr h₀ env.locals h' (Mid2 m₀ x1 x2 u1 u2) → News h₀ env.locals h' ((dD, oD) :: (lL, listOf dv.toArray dn) :: (lP, listOf vs.toArray nn) :: post) → Q .next { s with heap := h', toks := tk }) :
    wpAny (model prog w) A (pyIter (.ref r)) (fun it s₂ => LoopAtT prog w A h₀ env (.Name x px) body Q E it s₂) E s :=
  iter_rangeL x1 x2 (JP w dD lL lP post) hh hr hen hn F N ⟨oD0, dv0, dn0, vs0, nn0, [], rfl, hD, (by rw [hv0]; exact .nil), ⟨List.nodup_nil, (fun _ h => nomatch h), Nat.le_refl _, (fun h => absurd h (Nat.lt_irrefl _))⟩⟩
    (fun i news₁ hj p hp => by
      obtain ⟨oD, dv, dn, vs, nn, ps, rfl, _⟩ := hj
      rcases List.mem_cons.mp hp with e | hp
      · rw [e]; exact .head _
      rcases List.mem_cons.mp hp with e | hp
      · rw [e]; exact .tail _ (.head _)
      rcases List.mem_cons.mp hp with e | hp
      · rw [e]; exact .tail _ (.tail _ (.head _))
      · exact .tail _ (.tail _ (.tail _ (List.mem_map_of_mem hp))))
    (fun i t u1 u2 I oI news₁ s₁ hi hj hoff F₁ N₁ => by
      obtain ⟨oD, dv, dn, vs, nn, ps, rfl, hD', hi', hp'⟩ := hj
      exact turn i t u1 u2 I oI oD dv dn vs nn ps s₁ hi hD' hi' hp' (allNeB_of hoff) F₁ N₁)
    (fun h' tk u1 u2 news' hj F' N' => by
      obtain ⟨oD, dv, dn, vs, nn, ps, rfl, hD', hi', hp'⟩ := hj
      exact done h' tk u1 u2 oD dv dn vs nn ps hD' hi' hp' F' N')
theorem TurnP.intro {L I dD lL lP : Addr} {oI oD : Obj} {dv vs : List Value} {dn nn i : Nat} {ps : List Int} {post : List (Addr × Obj)} {m₀ m' : Str → Option Value} {x1 x2 : Str} {s₁ : Shared} {h' : Heap} {tk : Nat}
    (F : Fr h₀ L h' m') (N : News h₀ L h' ((I, oI) :: (dD, oD) :: (lL, listOf dv.toArray dn) :: (lP, listOf vs.toArray nn) :: post)) (hD : DeckOk w oD lL dv) (hi : IntsAre vs ps) (hp : PsOk ps (i + 1)) (hm : ∀ y, y ≠ x1 → y ≠ x2 → m' y = m₀ y) :
    TurnL h₀ L I oI (JP w dD lL lP post (i + 1)) m₀ x1 x2 s₁ .next { s₁ with heap := h', toks := tk } :=
  ⟨rfl, h', tk, m', _, rfl, F, N, ⟨oD, dv, dn, vs, nn, ps, rfl, hD, hi, hp⟩, hm⟩
theorem PsOk.snoc {ps : List Int} {i : Nat} {p : Int} (h : PsOk ps i) (hn : p ∉ ps) (h0 : 0 ≤ p ∧ p ≤ 9223372036854775808) : PsOk (ps ++ [p]) (i + 1) :=
  ⟨List.nodup_append.mpr ⟨h.1, List.pairwise_singleton _ _, fun a ha b hb e => hn (by rw [List.mem_singleton.mp hb] at e; exact e ▸ ha)⟩, (fun q hq => by
    rcases List.mem_append.mp hq with hq | hq
    · exact h.2.1 q hq
    · rw [List.mem_singleton.mp hq]; exact h0), (by rw [List.length_append, List.length_singleton]; exact Nat.succ_le_succ h.2.2.1), fun _ e => by simp at e⟩
theorem PsOk.same {ps : List Int} {i : Nat} {p : Int} (h : PsOk ps i) (hn : p ∈ ps) : PsOk ps (i + 1) :=
  ⟨h.1, h.2.1, Nat.le_succ_of_le h.2.2.1, fun _ e => by rw [e] at hn; cases hn⟩
end
section
variable {prog : Program} {w : World} {A : Around} {E : Value → Shared → Prop} {s : Shared} {h₀ : Heap} {L D : Addr} {news : List (Addr × Obj)} {vs : List Value} {ns : List Int} {nn : Nat} {k lo hi : Int} {u : Tok} {value slice : PySem.Expr} {Q : Value → Shared → Prop}
theorem menu_K (N : News h₀ L s.heap news) (hm : (D, listOf vs.toArray nn) ∈ news) (hI : IntsAre vs ns) (h0 : 0 ≤ k) (h1 : k < ns.length) (h2 : ns.length ≤ 1000) (lo hi : Int) (hb : ∀ p ∈ ns, lo ≤ p ∧ p ≤ hi) (h : ∀ p t, lo ≤ p ∧ p ≤ hi → Q (.int p t) s)
    (hs : subscripted slice false (.ref D) (.int k u) = operate [.ref D, .int k u] (getItem (.ref D) (.int k u)) := by with_unfolding_all rfl) :
    wpAny (model prog w) A (subscriptTail value slice (.ref D) (.int k u)) Q E s :=
  ksa_sub N hm hI h0 h1 (by omega) (fun t => h _ t (hb _ (menu_in h0 h1))) hs
end
section
variable {prog : Program} {w : World} {A : Around} {E : Value → Shared → Prop} {s : Shared} {t u : Tok} {Q : Value → Shared → Prop}
theorem pow31 (h : Q (.int 2147483648 s.toks) { s with toks := s.toks + 1 }) : wpAny (model prog w) A (binaryOp .Pow (.int 2 t) (.int 31 u)) Q E s :=
  PyProof.Rows.pow_int_small (by decide) (by decide) (by decide) h
theorem pow63 (h : Q (.int 9223372036854775808 s.toks) { s with toks := s.toks + 1 }) : wpAny (model prog w) A (binaryOp .Pow (.int 2 t) (.int 63 u)) Q E s :=
  PyProof.Rows.pow_int_small (by decide) (by decide) (by decide) h
theorem pow40 (h : Q (.int 1099511627776 s.toks) { s with toks := s.toks + 1 }) : wpAny (model prog w) A (binaryOp .Pow (.int 2 t) (.int 40 u)) Q E s :=
  PyProof.Rows.pow_int_small (by decide) (by decide) (by decide) h
end
section
variable {w : World} {h₀ : Heap}
theorem TurnP.snoc {L I dD lL lP : Addr} {oI oD : Obj} {dv vs : List Value} {dn nn i : Nat} {ps : List Int} {post : List (Addr × Obj)} {m₀ m' : Str → Option Value} {x1 x2 : Str} {s₁ : Shared} {h' : Heap} {tk : Nat} {p : Int} {t : Tok}
    (hn : p ∉ ps) (hD : DeckOk w oD lL dv) (F : Fr h₀ L h' m') (N : News h₀ L h' ((I, oI) :: (dD, oD) :: (lL, listOf dv.toArray dn) :: (lP, listOf (vs ++ [Value.int p t]).toArray nn) :: post)) (hi : IntsAre vs ps) (hp : PsOk ps i) (h0 : 0 ≤ p ∧ p ≤ 9223372036854775808) (hm : ∀ y, y ≠ x1 → y ≠ x2 → m' y = m₀ y) :
    TurnL h₀ L I oI (JP w dD lL lP post (i + 1)) m₀ x1 x2 s₁ .next { s₁ with heap := h', toks := tk } :=
  TurnP.intro F N hD (ints_snoc hi p t) (hp.snoc hn h0) hm
end

end

section
theorem wordsSOctb : True := by
  w_top off
  k_with_none
  (k_with "exec For Name Subscript cons nil" => (k_here; (rename Fr _ _ _ _ => lF'); (with_unfolding_all refine For_invVF lF' (by exact rfl) (by exact rfl) ?_; k_whole)))
  (k_with "call ref" => (k_here; k_dflt (first | (refine call_meth (by k_asm) (by k_mem) ?_; k_whole; (first | ((first | with_reducible refine code_defO (by k_dflt (exact rfl)) (by k_dflt (exact rfl)) (by k_dflt (first | exact rfl | assumption)) (by k_dflt (k_asm)) (by k_dflt (k_asm)) (by k_dflt (k_asm)) (by k_dflt (k_asm)) (by k_dflt (k_asm)) (by k_dflt (k_is)) (by k_dflt (k_is)) (by k_dflt (ktr_room)) (by k_dflt (first | exact BindsTo.of_eq rfl | exact binds_K (by k_in) rfl (by k_is) rfl rfl rfl)) (by k_dflt (decide)) (by k_dflt (exact locs rfl)) (by k_dflt (exact rfl)) (by k_dflt (exact rfl)) (by k_dflt (exact rfl)) ?_ | refine code_defO (by exact rfl) (by exact rfl) (by first | exact rfl | assumption) (by k_asm) (by k_asm) (by k_asm) (by k_asm) (by k_asm) (by k_is) (by k_is) (by ktr_room) (by first | exact BindsTo.of_eq rfl | exact binds_K (by k_in) rfl (by k_is) rfl rfl rfl) (by decide) (by exact locs rfl) (by exact rfl) (by exact rfl) (by exact rfl) ?_); k_whole; intro g' L' h' FG' F' N' B' X' T'; (try dsimp only); (try k_lift B'); (try k_fold)) | ((first | with_reducible refine code_defCO (by k_dflt (exact rfl)) (by k_dflt (exact rfl)) (by k_dflt (first | exact rfl | assumption)) (by k_dflt (k_asm)) (by k_dflt (k_asm)) (by k_dflt (k_asm)) (by k_dflt (k_asm)) (by k_dflt (k_asm)) (by k_dflt (k_is)) (by k_dflt (k_is)) (by k_dflt (ktr_room)) (by k_dflt (first | exact BindsTo.of_eq rfl | exact binds_K (by k_in) rfl (by k_is) rfl rfl rfl)) (by k_dflt (exact rfl)) (by k_dflt (decide +kernel)) (by k_dflt (exact rfl)) (by k_dflt (exact rfl)) (by k_dflt (exact rfl)) ?_ | refine code_defCO (by exact rfl) (by exact rfl) (by first | exact rfl | assumption) (by k_asm) (by k_asm) (by k_asm) (by k_asm) (by k_asm) (by k_is) (by k_is) (by ktr_room) (by first | exact BindsTo.of_eq rfl | exact binds_K (by k_in) rfl (by k_is) rfl rfl rfl) (by exact rfl) (by decide +kernel) (by exact rfl) (by exact rfl) (by exact rfl) ?_); k_whole; intro g' L' h' tk' cells' FG' F' N' Y' B' X' T' l1; (try k_lt l1); k_cells Y'; (try simp only [List.cons_append, List.nil_append] at N'); (try dsimp only); (try k_lift B'); (try k_fold)))) | ((first | with_reducible refine call_cls (by k_dflt (k_asm)) (by k_dflt (k_asm)) (by k_dflt (k_asm)) (by k_dflt (k_is)) (by k_dflt (k_is)) (by k_dflt (k_is)) ?_ | refine call_cls (by k_asm) (by k_asm) (by k_asm) (by k_is) (by k_is) (by k_is) ?_); k_whole; intro x' d' h' F' N' l1 l2; (try k_lt l1); (try k_lt2 l2); (try k_sweep); (first | ((first | with_reducible refine code_defO (by k_dflt (exact rfl)) (by k_dflt (exact rfl)) (by k_dflt (first | exact rfl | assumption)) (by k_dflt (k_asm)) (by k_dflt (k_asm)) (by k_dflt (k_asm)) (by k_dflt (k_asm)) (by k_dflt (k_asm)) (by k_dflt (k_is)) (by k_dflt (k_is)) (by k_dflt (ktr_room)) (by k_dflt (first | exact BindsTo.of_eq rfl | exact binds_K (by k_in) rfl (by k_is) rfl rfl rfl)) (by k_dflt (decide)) (by k_dflt (exact locs rfl)) (by k_dflt (exact rfl)) (by k_dflt (exact rfl)) (by k_dflt (exact rfl)) ?_ | refine code_defO (by exact rfl) (by exact rfl) (by first | exact rfl | assumption) (by k_asm) (by k_asm) (by k_asm) (by k_asm) (by k_asm) (by k_is) (by k_is) (by ktr_room) (by first | exact BindsTo.of_eq rfl | exact binds_K (by k_in) rfl (by k_is) rfl rfl rfl) (by decide) (by exact locs rfl) (by exact rfl) (by exact rfl) (by exact rfl) ?_); k_whole; intro g' L' h' FG' F' N' B' X' T'; (try dsimp only); (try k_lift B'); (try k_fold)) | ((first | with_reducible refine code_defCO (by k_dflt (exact rfl)) (by k_dflt (exact rfl)) (by k_dflt (first | exact rfl | assumption)) (by k_dflt (k_asm)) (by k_dflt (k_asm)) (by k_dflt (k_asm)) (by k_dflt (k_asm)) (by k_dflt (k_asm)) (by k_dflt (k_is)) (by k_dflt (k_is)) (by k_dflt (ktr_room)) (by k_dflt (first | exact BindsTo.of_eq rfl | exact binds_K (by k_in) rfl (by k_is) rfl rfl rfl)) (by k_dflt (exact rfl)) (by k_dflt (decide +kernel)) (by k_dflt (exact rfl)) (by k_dflt (exact rfl)) (by k_dflt (exact rfl)) ?_ | refine code_defCO (by exact rfl) (by exact rfl) (by first | exact rfl | assumption) (by k_asm) (by k_asm) (by k_asm) (by k_asm) (by k_asm) (by k_is) (by k_is) (by ktr_room) (by first | exact BindsTo.of_eq rfl | exact binds_K (by k_in) rfl (by k_is) rfl rfl rfl) (by exact rfl) (by decide +kernel) (by exact rfl) (by exact rfl) (by exact rfl) ?_); k_whole; intro g' L' h' tk' cells' FG' F' N' Y' B' X' T' l1; (try k_lt l1); k_cells Y'; (try simp only [List.cons_append, List.nil_append] at N'); (try dsimp only); (try k_lift B'); (try k_fold)))) | ((first | with_reducible refine wpAny_call ?_ | refine wpAny_call ?_); (first | ((first | with_reducible refine code_defO (by k_dflt (exact rfl)) (by k_dflt (exact rfl)) (by k_dflt (first | exact rfl | assumption)) (by k_dflt (k_asm)) (by k_dflt (k_asm)) (by k_dflt (k_asm)) (by k_dflt (k_asm)) (by k_dflt (k_asm)) (by k_dflt (k_is)) (by k_dflt (k_is)) (by k_dflt (ktr_room)) (by k_dflt (first | exact BindsTo.of_eq rfl | exact binds_K (by k_in) rfl (by k_is) rfl rfl rfl)) (by k_dflt (decide)) (by k_dflt (exact locs rfl)) (by k_dflt (exact rfl)) (by k_dflt (exact rfl)) (by k_dflt (exact rfl)) ?_ | refine code_defO (by exact rfl) (by exact rfl) (by first | exact rfl | assumption) (by k_asm) (by k_asm) (by k_asm) (by k_asm) (by k_asm) (by k_is) (by k_is) (by ktr_room) (by first | exact BindsTo.of_eq rfl | exact binds_K (by k_in) rfl (by k_is) rfl rfl rfl) (by decide) (by exact locs rfl) (by exact rfl) (by exact rfl) (by exact rfl) ?_); k_whole; intro g' L' h' FG' F' N' B' X' T'; (try dsimp only); (try k_lift B'); (try k_fold)) | ((first | with_reducible refine code_defCO (by k_dflt (exact rfl)) (by k_dflt (exact rfl)) (by k_dflt (first | exact rfl | assumption)) (by k_dflt (k_asm)) (by k_dflt (k_asm)) (by k_dflt (k_asm)) (by k_dflt (k_asm)) (by k_dflt (k_asm)) (by k_dflt (k_is)) (by k_dflt (k_is)) (by k_dflt (ktr_room)) (by k_dflt (first | exact BindsTo.of_eq rfl | exact binds_K (by k_in) rfl (by k_is) rfl rfl rfl)) (by k_dflt (exact rfl)) (by k_dflt (decide +kernel)) (by k_dflt (exact rfl)) (by k_dflt (exact rfl)) (by k_dflt (exact rfl)) ?_ | refine code_defCO (by exact rfl) (by exact rfl) (by first | exact rfl | assumption) (by k_asm) (by k_asm) (by k_asm) (by k_asm) (by k_asm) (by k_is) (by k_is) (by ktr_room) (by first | exact BindsTo.of_eq rfl | exact binds_K (by k_in) rfl (by k_is) rfl rfl rfl) (by exact rfl) (by decide +kernel) (by exact rfl) (by exact rfl) (by exact rfl) ?_); k_whole; intro g' L' h' tk' cells' FG' F' N' Y' B' X' T' l1; (try k_lt l1); k_cells Y'; (try simp only [List.cons_append, List.nil_append] at N'); (try dsimp only); (try k_lift B'); (try k_fold)))))))
  (k_with "execs cons" => (k_here; (with_reducible (refine gen_toks ?_)); intro tk))
  (k_with "execs nil" => (k_here; (with_reducible (refine gen_toks ?_)); intro tk))
  (k_with "call builtin:list.append" => (k_here; k_dflt ((first | with_reducible refine app_K (by k_dflt (k_asm)) (by k_dflt (k_asm)) (by k_dflt (k_updF)) (by k_dflt ((simp only [List.length_append, List.length_cons, List.length_nil]; omega))) ?_ | refine app_K (by k_asm) (by k_asm) (by k_updF) (by (simp only [List.length_append, List.length_cons, List.length_nil]; omega)) ?_)); intro h' F' N'; (try dsimp only at N'); (try dsimp only)))
  (k_with "call ref" => (k_here; k_dflt (((with_reducible show wpAny _ _ (call (Value.ref 85) _) _ _ _); first | with_reducible refine abe (by k_dflt (k_asm)) (by k_dflt (k_asm)) (by k_dflt (k_asm)) (by k_dflt (k_asm)) (by k_dflt (k_asm)) (by k_dflt (first | exact rfl | assumption)) (by k_dflt (ktr_room)) (by k_dflt (ktr_units)) (by k_dflt (assumption)) (by k_dflt (omega)) (by k_dflt (omega)) (by k_dflt (omega)) (by k_dflt (omega)) ?_ | refine abe (by k_asm) (by k_asm) (by k_asm) (by k_asm) (by k_asm) (by first | exact rfl | assumption) (by ktr_room) (by ktr_units) (by assumption) (by omega) (by omega) (by omega) (by omega) ?_); k_whole); intro t9 h9 tk9 F9 N9; (try dsimp only); (try k_fold)))
  (k_with "compareOp Lt bytes bytes" => refine lt_bytes ?_)
  (k_with "compareOp LtE bytes bytes" => refine le_bytes ?_)
  (k_with "subscriptTail" => (k_here; (with_reducible show wpAny _ _ (subscriptTail _ _ (Value.ref _) (Value.str _ _)) _ _ _); k_dflt ((first | with_reducible refine kda_item (knd := PySem.strKind _ _) (by k_dflt (k_asm)) (by k_dflt (k_mem)) (by k_dflt (k_asm)) (strKind_is _ _ _ _) (by k_dflt (rfl)) ?_ | refine kda_item (knd := PySem.strKind _ _) (by k_asm) (by k_mem) (by k_asm) (strKind_is _ _ _ _) (by rfl) ?_))))
  (k_with "subscriptTail" => (k_here; (with_reducible show wpAny _ _ (subscriptTail _ _ (Value.ref _) (Value.bytes _ _)) _ _ _); k_dflt ((first | with_reducible refine kda_item (knd := PySem.W.bytesKind _ _) (by k_dflt (k_asm)) (by k_dflt (k_mem)) (by k_dflt (k_asm)) (bytesKind_at _ _ _ _) (by k_dflt (first | exact value_one _ _ | rfl)) ?_ | refine kda_item (knd := PySem.W.bytesKind _ _) (by k_asm) (by k_mem) (by k_asm) (bytesKind_at _ _ _ _) (by first | exact value_one _ _ | rfl) ?_))))
  (k_with "setItem ref str" => (k_here; k_dflt ((first | with_reducible refine kda_set (knd := PySem.strKind _ _) (by k_dflt (k_asm)) (by k_dflt (k_asm)) (by k_dflt (k_updF)) (by k_dflt (k_asm)) (strKind_is _ _ _ _) (by k_dflt (rw [sizeLine_eq]; exact Nat.le_of_ble_eq_true (by with_unfolding_all rfl))) ?_ | refine kda_set (knd := PySem.strKind _ _) (by k_asm) (by k_asm) (by k_updF) (by k_asm) (strKind_is _ _ _ _) (by rw [sizeLine_eq]; exact Nat.le_of_ble_eq_true (by with_unfolding_all rfl)) ?_)); intro h' o' F' N' hd'; (try dsimp only at N'); (try rw [stored_mixed] at hd'); (try rw [stored_nil] at hd')))
  (k_with "compareOp NotIn bytes ref" => (k_here; k_dflt ((first | with_reducible refine notin_bytes (by k_dflt (k_asm)) (by k_dflt (k_mem)) (by k_dflt (k_asm)) (by k_dflt (k_asm)) (by k_dflt (first | rfl | exact value_is _ _)) ?_ | refine notin_bytes (by k_asm) (by k_mem) (by k_asm) (by k_asm) (by first | rfl | exact value_is _ _) ?_))))
  (k_with "setItem ref bytes" => (k_here; k_dflt ((first | with_reducible refine kda_set (knd := PySem.W.bytesKind _ _) (by k_dflt (k_asm)) (by k_dflt (k_asm)) (by k_dflt (k_updF)) (by k_dflt (k_asm)) (bytesKind_at _ _ _ _) (by k_dflt (rw [sizeLine_eq]; exact Nat.le_of_ble_eq_true (by with_unfolding_all rfl))) ?_ | refine kda_set (knd := PySem.W.bytesKind _ _) (by k_asm) (by k_asm) (by k_updF) (by k_asm) (bytesKind_at _ _ _ _) (by rw [sizeLine_eq]; exact Nat.le_of_ble_eq_true (by with_unfolding_all rfl)) ?_)); intro h' o' F' N' hd'; (try dsimp only at N'); (try rw [stored_mixed] at hd'); (try rw [stored_nil] at hd')))
  (k_with "call builtin:len" => (k_here; (with_reducible show wpAny _ _ (call (Value.builtin "len") [Value.ref _]) _ _ _); k_dflt ((first | with_reducible refine kda_len (knd := PySem.W.bytesKind _ _) (by k_dflt (k_asm)) (by k_dflt (k_mem)) (by k_dflt (k_asm)) (by k_dflt (k_asm)) (Nat.le_of_ble_eq_true (by with_unfolding_all rfl)) ?_ | refine kda_len (knd := PySem.W.bytesKind _ _) (by k_asm) (by k_mem) (by k_asm) (by k_asm) (Nat.le_of_ble_eq_true (by with_unfolding_all rfl)) ?_))))
  (k_with "call type:bytes" => (k_here; (with_reducible show wpAny _ _ (call (Value.type "bytes") [Value.bytes _ _]) _ _ _); (refine call_bytesB ?_)))
  (k_with "LeaveK" => ((try ((rename RestIn _ _ _ _ => rI); (rename Fr _ _ _ _ => lF'); (have rJ := RestIn.keeps rI lF'); (try ((rename News _ _ _ _ => lN'); (have rK := RestIn.apart rI lN'))))); (k_dflt ((first | with_reducible refine leaveK_ (by k_dflt (k_asm)) (by k_dflt (k_asm)) ?_ | refine leaveK_ (by k_asm) (by k_asm) ?_); k_whole); intro kF kN; ground_anew kF; (have kX := kFor kF (by k_asm)); (try dsimp only [InitBack, CmpBack, LenBack, StrBack, BoolBack]); (try refine ⟨rfl, ?_⟩); (try dsimp only [CmpBack, LenBack, StrBack, BoolBack]); (try (refine ⟨⟨by omega, by omega⟩, ?_⟩)); (try (refine handed_on rfl ?_; try dsimp only)))))
  (k_with "call ref" => (k_here; k_dflt (((with_reducible show wpAny _ _ (call (Value.ref 71) _) _ _ _); first | with_reducible refine be4 (by k_dflt (k_asm)) (by k_dflt (k_asm)) (by k_dflt (k_asm)) (by k_dflt (k_asm)) (by k_dflt (k_asm)) (by k_dflt (first | exact rfl | assumption)) (by k_dflt (ktr_room)) (by k_dflt (ktr_units)) (by k_dflt (first | exact .inl rfl | exact .inr rfl)) ?_ | refine be4 (by k_asm) (by k_asm) (by k_asm) (by k_asm) (by k_asm) (by first | exact rfl | assumption) (by ktr_room) (by ktr_units) (by first | exact .inl rfl | exact .inr rfl) ?_); k_whole); intro b9 t9 h9 tk9 hb9 F9 N9; (try dsimp only); (try k_fold)))
  (k_with "call ref" => (k_here; k_dflt (((with_reducible show wpAny _ _ (call (Value.ref 121) _) _ _ _); first | with_reducible refine dig2c (by k_dflt (k_asm)) (by k_dflt (k_asm)) (by k_dflt (k_asm)) (by k_dflt (k_asm)) (by k_dflt (k_asm)) (by k_dflt (first | exact rfl | assumption)) (by k_dflt (ktr_room)) (by k_dflt (ktr_units)) (by k_dflt (assumption)) (by k_dflt (assumption)) (by k_dflt (assumption)) ?_ | refine dig2c (by k_asm) (by k_asm) (by k_asm) (by k_asm) (by k_asm) (by first | exact rfl | assumption) (by ktr_room) (by ktr_units) (by assumption) (by assumption) (by assumption) ?_); k_whole); intro b9 t9 h9 tk9 hb9 F9 N9; (try dsimp only); (try k_fold)))
  (k_with "call ref" => (k_here; k_dflt (first | (((with_reducible show wpAny _ _ (call (Value.ref 272) _) _ _ _); first | with_reducible refine big4 (by k_dflt (k_asm)) (by k_dflt (k_asm)) (by k_dflt (k_asm)) (by k_dflt (k_asm)) (by k_dflt (k_asm)) (by k_dflt (first | exact rfl | assumption)) (by k_dflt (ktr_room)) (by k_dflt (ktr_units)) ?_ | refine big4 (by k_asm) (by k_asm) (by k_asm) (by k_asm) (by k_asm) (by first | exact rfl | assumption) (by ktr_room) (by ktr_units) ?_); k_whole) | (((with_reducible show wpAny _ _ (call (Value.ref 272) _) _ _ _); first | with_reducible refine big8 (by k_dflt (k_asm)) (by k_dflt (k_asm)) (by k_dflt (k_asm)) (by k_dflt (k_asm)) (by k_dflt (k_asm)) (by k_dflt (first | exact rfl | assumption)) (by k_dflt (ktr_room)) (by k_dflt (ktr_units)) ?_ | refine big8 (by k_asm) (by k_asm) (by k_asm) (by k_asm) (by k_asm) (by first | exact rfl | assumption) (by ktr_room) (by ktr_units) ?_); k_whole)); intro b9 t9 h9 tk9 hb9 F9 N9; (have hz9 := szb_of hb9); (try dsimp only); (try k_fold)))
  (k_with "binaryOp Add bytes bytes" => (k_here; k_dflt ((first | with_reducible refine add_S (by k_dflt (first | assumption | exact rfl)) (by k_dflt (first | assumption | exact rfl)) (by k_dflt (first | assumption | exact szb_lit)) (by k_dflt (assumption)) (by k_dflt (exact Nat.le_of_ble_eq_true rfl)) ?_ | refine add_S (by first | assumption | exact rfl) (by first | assumption | exact rfl) (by first | assumption | exact szb_lit) (by assumption) (by exact Nat.le_of_ble_eq_true rfl) ?_)); intro d9 t9 k9 hb9 hz9; (try dsimp only)))
  (k_with "binaryOp Mult bytes int" => (k_here; k_dflt ((first | with_reducible refine mul_S (by k_dflt (assumption)) (by k_dflt (exact beL_len _ _)) (by k_dflt (omega)) (by k_dflt (omega)) ?_ | refine mul_S (by assumption) (by exact beL_len _ _) (by omega) (by omega) ?_)); intro d9 t9 k9 hb9 hz9; (try dsimp only)))
  (k_with "call type:bytes" => (k_here; (with_reducible show wpAny _ _ (call (Value.type "bytes") [Value.ref _]) _ _ _); k_dflt ((first | with_reducible refine mk_B (by k_dflt (k_asm)) (by k_dflt (k_asm)) (by k_dflt (rfl)) (by k_dflt (k_mem)) (by k_dflt (exact .cons _ _ (.cons _ _ (.cons _ _ (.cons _ _ .nil))))) (by k_dflt ((intro n9 hn9; (simp only [List.mem_cons, List.not_mem_nil, or_false] at hn9); omega))) (by k_dflt (exact Nat.le_of_ble_eq_true rfl)) ?_ | refine mk_B (by k_asm) (by k_asm) (by rfl) (by k_mem) (by exact .cons _ _ (.cons _ _ (.cons _ _ (.cons _ _ .nil)))) (by (intro n9 hn9; (simp only [List.mem_cons, List.not_mem_nil, or_false] at hn9); omega)) (by exact Nat.le_of_ble_eq_true rfl) ?_)); intro h9 d9 t9 k9 F9 N9 hb9 hz9; (replace hz9 := szb_ints hb9); (try dsimp only)))
  (k_with "compareOp In int ref" => (k_here; k_dflt ((first | with_reducible refine in_B (by k_dflt (k_asm)) (by k_dflt (k_mem)) (by k_dflt (assumption)) ?_ ?_ | refine in_B (by k_asm) (by k_mem) (by assumption) ?_ ?_)); intro hb9; (try dsimp only)))
  (k_with "compareOp NotIn int ref" => (k_here; k_dflt ((first | with_reducible refine notin_B (by k_dflt (k_asm)) (by k_dflt (k_mem)) (by k_dflt (assumption)) ?_ ?_ | refine notin_B (by k_asm) (by k_mem) (by assumption) ?_ ?_)); intro hb9; (try dsimp only)))
  (k_with "call builtin:list.index" => (k_here; k_dflt ((first | with_reducible refine idx_B (by k_dflt (k_asm)) (by k_dflt (k_mem)) (by k_dflt (assumption)) (by k_dflt (assumption)) (by k_dflt (omega)) ?_ | refine idx_B (by k_asm) (by k_mem) (by assumption) (by assumption) (by omega) ?_)); (try dsimp only)))
  (k_with "eval ListComp" => (k_here; (with_reducible show wpAny _ _ (eval (PySem.Expr.ListComp _ [⟨PySem.Expr.Name _ _, _, [_], _⟩] _ _) _) _ _ _); k_dflt ((first | with_reducible refine LCt.ListComp_T (F₀ := by k_dflt (k_asm)) (by k_dflt (with_unfolding_all rfl)) (by k_dflt (decide)) (by k_dflt (rfl)) (by k_dflt (decide)) (by k_dflt (rfl)) ?_ | refine LCt.ListComp_T (F₀ := by k_asm) (by with_unfolding_all rfl) (by decide) (by rfl) (by decide) (by rfl) ?_))))
  (k_with "CompSrcT" => (k_here; k_dflt ((first | with_reducible refine LCt.CompSrcT.ledger (by k_dflt (rfl)) (by k_dflt (k_asm)) (by k_dflt (k_asm)) (by k_dflt (k_mem)) (by k_dflt (rw [List.size_toArray, PySem.sizeLine_eq]; omega)) ?_ | refine LCt.CompSrcT.ledger (by rfl) (by k_asm) (by k_asm) (by k_mem) (by rw [List.size_toArray, PySem.sizeLine_eq]; omega) ?_)); intro g'; (refine' kci_list gG (by assumption) ?_ ?_ ?_)))
  (k_with "eval ListComp" => (k_here; (with_reducible show wpAny _ _ (eval (PySem.Expr.ListComp _ [⟨PySem.Expr.Tuple _ _ _, _, _, _⟩] _ _) _) _ _ _); k_dflt ((first | with_reducible refine ListComp_E (_F₀ := by k_dflt (k_asm)) (by k_dflt (with_unfolding_all rfl)) (by k_dflt (decide)) (by k_dflt (rfl)) (by k_dflt (decide)) (by k_dflt (rfl)) (by k_dflt (rfl)) (by k_dflt (decide)) ?_ | refine ListComp_E (_F₀ := by k_asm) (by with_unfolding_all rfl) (by decide) (by rfl) (by decide) (by rfl) (by rfl) (by decide) ?_))))
  (k_with "call type:enumerate" => (k_here; k_dflt ((first | with_reducible refine en_callI n (by k_dflt (rfl)) (by k_dflt (k_asm)) (by k_dflt (k_asm)) (by k_dflt (k_mem)) (by k_dflt (assumption)) (by k_dflt (assumption)) (by k_dflt (omega)) ?_ ?_ | refine en_callI n (by rfl) (by k_asm) (by k_asm) (by k_mem) (by assumption) (by assumption) (by omega) ?_ ?_)); (all_goals (first | (intro g9 ys9 hys9; (show LCg.FinE _ _ _ _ _ _ _)) | (intro g9; unfold EnTurn; intro i9 x9 t9 e9 it9 C9 D9 oE9 oIt9 oC9 m9 ys9 h9 tk9 E9 hi9 hx9 hC9 ha9 hb9 F9 N9)))))
  trivial
theorem wordsSOctc : True := by
  (k_with "exec For Name Name cons nil" => (k_here; (with_reducible show wpAny _ _ (exec (Stmt.For _ _ _ _ _) _) _ _ _); k_dflt ((first | with_reducible refine For_invTF (by k_dflt (k_asm)) ?_ (fun _ => rfl) | refine For_invTF (by k_asm) ?_ (fun _ => rfl)))))
  trivial

theorem wordsSOctd : True := by
  (k_with "exec For Name Call cons nil" => (k_here; (with_reducible show wpAny _ _ (exec (Stmt.For _ _ _ _ _) _) _ _ _); k_dflt ((first | with_reducible refine For_invTF (by k_dflt (k_asm)) ?_ (fun _ => rfl) | refine For_invTF (by k_asm) ?_ (fun _ => rfl)))))
  trivial

theorem wordsSOcte : True := by
  (k_with "pyIter ref" => ((with_reducible show wpAny _ _ (pyIter _) _ _ _); refine hold ?_))
  trivial

def word4 (gs : List Int) (bey : Int) (p : Int) : List Int :=
  beL 4 (if 2147483648 ≤ p then 2147483648 + (gs.idxOf p : Int) + (if (gs.idxOf p : Int) = (gs.length : Int) - 1 then bey else 0) else p)
theorem word4_len (gs : List Int) (bey p : Int) : (word4 gs bey p).length ≤ 8 := by unfold word4; rw [beL_len]; decide
theorem p31 : (2 : Int) ^ Int.toNat 31 = 2147483648 := by decide
theorem word4_small {gs : List Int} {bey p : Int} (h : p < (2 : Int) ^ Int.toNat 31) : beL 4 p = word4 gs bey p := by
  rw [p31] at h; unfold word4; rw [if_neg (by omega)]
theorem word4_last {gs : List Int} {bey p : Int} (h : (2 : Int) ^ Int.toNat 31 ≤ p) (e : (gs.idxOf p : Int) = (gs.length : Int) - 1) : beL 4 ((2 : Int) ^ Int.toNat 31 + (gs.idxOf p : Int) + bey) = word4 gs bey p := by
  rw [p31] at h ⊢; unfold word4; rw [if_pos h, if_pos e]
theorem word4_mid {gs : List Int} {bey p : Int} (h : (2 : Int) ^ Int.toNat 31 ≤ p) (e : ¬ (gs.idxOf p : Int) = (gs.length : Int) - 1) : beL 4 ((2 : Int) ^ Int.toNat 31 + (gs.idxOf p : Int) + 0) = word4 gs bey p := by
  rw [p31] at h ⊢; unfold word4; rw [if_pos h, if_neg e]
def gsOf (turned : Bool) (ps : List Int) : List Int := if turned = true then (geL ps).reverse else geL ps
theorem gsOf_mem {turned : Bool} {ps : List Int} {k : Int} : k ∈ gsOf turned ps ↔ k ∈ ps ∧ 2147483648 ≤ k := by
  unfold gsOf geL
  cases turned <;> simp
theorem gsOf_len (turned : Bool) (ps : List Int) : (gsOf turned ps).length ≤ ps.length := by
  unfold gsOf geL
  cases turned
  · exact List.length_filter_le _ _
  · rw [if_pos rfl, List.length_reverse]; exact List.length_filter_le _ _
section
variable {prog : Program} {w : World} {A : Around} {E : Value → Shared → Prop} {s : Shared} {h₀ : Heap} {L D : Addr} {m : Str → Option Value} {news : List (Addr × Obj)} {vs : List Value} {ps : List Int} {t : Tok} {nn : Nat} {k : Int} {turned : Bool}
theorem len_B {n : Nat} {Q : Value → Shared → Prop} (N : News h₀ L s.heap news) (hm : (D, listOf vs.toArray nn) ∈ news) (hs : vs.length = n) (hf : n < 2 ^ 62) (h : Q (.int (n : Nat) (s.toks + 1)) { s with toks := s.toks + 1 + 1 }) :
    wpAny (model prog w) A (call (.builtin "len") [.ref D]) Q E s := KM.len_K N hm (by rw [List.size_toArray]; exact hs) hf h
theorem in_G {Q : Value → Shared → Prop} (N : News h₀ L s.heap news) (hm : (D, listOf vs.toArray nn) ∈ news) (hi : IntsAre vs (gsOf turned ps)) (hp : k ∈ ps) (h1 : k ∈ gsOf turned ps → (2 : Int) ^ Int.toNat 31 ≤ k ∧ List.idxOf k (gsOf turned ps) < (gsOf turned ps).length → Q (.bool true) s) (h2 : k ∉ gsOf turned ps → k < (2 : Int) ^ Int.toNat 31 → Q (.bool false) s) :
    wpAny (model prog w) A (compareOp .In (.int k t) (.ref D)) Q E s :=
  in_B N hm hi (fun h => h1 h ⟨by rw [p31]; exact (gsOf_mem.mp h).2, List.idxOf_lt_length_of_mem h⟩) (fun h => h2 h (by rw [p31]; have q9 : ¬ 2147483648 ≤ k := fun q => h (gsOf_mem.mpr ⟨hp, q⟩); omega))
end
theorem wordsSOctf : True := by
  (k_with "compareOp In int ref" => (k_here; k_dflt ((first | with_reducible refine in_G (by k_dflt (k_asm)) (by k_dflt (k_mem)) (by k_dflt (assumption)) (by k_dflt (assumption)) ?_ ?_ | refine in_G (by k_asm) (by k_mem) (by assumption) (by assumption) ?_ ?_)); intro hb9 hq9; (try dsimp only)))
  trivial

section
variable {M : Model} {A : Around} {E : Value → Shared → Prop} {s : Shared} {h₀ : Heap} {L : Addr} {m : Str → Option Value} {rest : List (Addr × Obj)} {gs : List Int}
def JoinQ (h₀ : Heap) (L : Addr) (m : Str → Option Value) (rest : List (Addr × Obj)) (gs : List Int) (s : Shared) (v : Value) (s' : Shared) : Prop :=
  ∃ D vs nn h' tk, v = .ref D ∧ s' = { s with heap := h', toks := tk } ∧ Fr h₀ L h' m ∧ News h₀ L h' ((D, listOf vs.toArray nn) :: rest) ∧ IntsAre vs gs ∧ AllNeB D rest
theorem JoinQ.intro {D : Addr} {vs : List Value} {nn : Nat} {h' : Heap} {tk : Nat} (F : Fr h₀ L h' m) (N : News h₀ L h' ((D, listOf vs.toArray nn) :: rest)) (hi : IntsAre vs gs) (ho : AllNeB D rest) : JoinQ h₀ L m rest gs s (.ref D) { s with heap := h', toks := tk } :=
  ⟨D, vs, nn, h', tk, rfl, rfl, F, N, hi, ho⟩
theorem ifx_join {e : PySem.Expr} {env : Env} {D0 : Addr} {o : Obj} {Q : Value → Shared → Prop} (gs : List Int) (F : Fr h₀ L s.heap m) (N : News h₀ L s.heap ((D0, o) :: rest)) 
    (k : ∀ D vs nn h' tk, Fr h₀ L h' m → News h₀ L h' ((D, listOf vs.toArray nn) :: rest) → IntsAre vs gs → AllNeB D rest → Q (.ref D) { s with heap := h', toks := tk }) (hx : wpAny M A (eval e env) (JoinQ h₀ L m rest gs s) E s) : wpAny M A (eval e env) Q E s :=
  wpAny_mono hx (fun v s' h => by
    obtain ⟨D, vs, nn, h', tk, rfl, rfl, F', N', hi, ho⟩ := h
    exact k D vs nn h' tk F' N' hi ho) fun _ _ q => q
end
theorem wordsSOctg : True := by
  (k_with "eval IfExp" => (k_here; (with_reducible show wpAny _ _ (eval (PySem.Expr.IfExp (PySem.Expr.Name _ _) _ _ _) _) _ _ _); (fail_if_success (with_reducible show wpAny _ _ _ (JoinQ _ _ _ _ _ _) _ _)); k_dflt ((first | with_reducible refine ifx_join (gsOf turned ps) (by k_dflt (k_asm)) (by k_dflt (k_asm)) ?_ ?_ | refine ifx_join (gsOf turned ps) (by k_asm) (by k_asm) ?_ ?_)); intro DG vG nG hG tkG FG NG IG oG; (simp only [AllNeB, and_true] at oG); (repeat ((have hNe9 := And.left oG); (replace oG := And.right oG))); (have LG := IG.length); (have LG2 := gsOf_len turned ps); (try dsimp only)))
  trivial

theorem Apart.mk3 {x hI hD kD : Addr} {o o1 o2 o3 : Obj} (h : @Ne Nat x hI ∧ @Ne Nat x hD ∧ @Ne Nat x kD) : Apart [(hI, o1), (hD, o2), (kD, o3)] [(x, o)] := fun p hp hq => by
  rw [List.mem_singleton.mp hp] at hq
  rcases List.mem_cons.mp hq with e | hq
  · exact h.1 e
  rcases List.mem_cons.mp hq with e | hq
  · exact h.2.1 e
  · exact h.2.2 (List.mem_singleton.mp hq)
def octK (turned : Bool) (ps : List Int) (bey : Int) : List Int :=
  [255, 116, 79, 99] ++ beL 4 2 ++ beL 4 0 ++ (List.replicate (Int.toNat 255) (beL 4 ps.length)).flatten ++ (List.map (fun j : Nat => [1, 0, 0, (j : Int)]) (List.range ps.length)).flatten ++ (List.replicate (ps.length : Int).toNat (beL 4 5)).flatten ++ (ps.map (word4 (gsOf turned ps) bey)).flatten ++ ((gsOf turned ps).map (beL 8)).flatten ++ [9, 9, 9, 9]
theorem oct_fin {d1 d : Array UInt8} {y : List Int} (h1 : KBw.bInts d1 = y) (h : KBw.bInts d = y ++ [0, 0, 0, 1]) : KBw.bInts d = KBw.bInts d1 ++ [0, 0, 0, 1] := by rw [h1]; exact h
theorem oct_chain {d0 d1 b c : Array UInt8} {turned : Bool} {ps : List Int} {bey : Int} (e4 : KBw.bInts c = KBw.bInts b ++ ((gsOf turned ps).map (beL 8)).flatten ++ [9, 9, 9, 9])
    (e3 : KBw.bInts b = KBw.bInts d1 ++ (ps.map (word4 (gsOf turned ps) bey)).flatten) (e2 : KBw.bInts d1 = KBw.bInts d0 ++ (List.map (fun j : Nat => [1, 0, 0, (j : Int)]) (List.range ps.length)).flatten ++ (List.replicate (ps.length : Int).toNat (beL 4 5)).flatten)
    (e1 : KBw.bInts d0 = KBw.bInts #[255, 116, 79, 99] ++ beL 4 2 ++ beL 4 0 ++ (List.replicate (Int.toNat 255) (beL 4 ps.length)).flatten) : KBw.bInts c = octK turned ps bey := by
  rw [e4, e3, e2, e1]
  have e : KBw.bInts #[255, 116, 79, 99] = [255, 116, 79, 99] := by decide
  rw [e]
  unfold octK
  rfl
section
variable {w : World} {p : Program} {loose : List Str} {mean : ExcName → Option Value} {mg mb : Str → Option Value}
  {dp un : Nat} {gd : Option (List Code)} {cn : Str} {cs : Scope} {a : Addr} {ccd : Value} {cl : List (Str × Addr)} {outer : List Env} {A₀ : Around} {base h₀ : Heap} {L : Addr} {m : Str → Option Value} {s : Shared} {Q E : Value → Shared → Prop}

theorem dig1W {a1 a2 a3 a4 a5 : Addr} {o1 o2 o3 o4 o5 : Obj} {hI hD kD : Addr} {h1 h2 : Int} {t1 t2 t3 tb : Tok} {oK : Obj} {b : Array UInt8}
    (B : Below A₀ base outer h₀) (F : Fr h₀ L s.heap m) (X : (hd.heap_1 w.params).In h₀) (T : Top p loose mean mg mb h₀) (N : News h₀ L s.heap ((a1, o1) :: (a2, o2) :: (a3, o3) :: (a4, o4) :: (a5, o5) :: hashRel hI hD kD h1 h2 t1 t2 t3 oK)) (hk : cs.kind = .function)
    (hd : dp + 5 < recursionLimit) (hu : un + 100 < cLine)
    (hq : (@Ne Nat a1 hI ∧ @Ne Nat a1 hD ∧ @Ne Nat a1 kD) ∧ (@Ne Nat a2 hI ∧ @Ne Nat a2 hD ∧ @Ne Nat a2 kD) ∧ (@Ne Nat a3 hI ∧ @Ne Nat a3 hD ∧ @Ne Nat a3 kD) ∧ (@Ne Nat a4 hI ∧ @Ne Nat a4 hD ∧ @Ne Nat a4 kD) ∧ (@Ne Nat a5 hI ∧ @Ne Nat a5 hD ∧ @Ne Nat a5 kD))
    (hne : @Ne Nat hI hD ∧ @Ne Nat hI kD ∧ @Ne Nat hD kD) (hlo : (kD == sysModules) = false) (hK : oK.IsDictOf (PySem.W.bytesKind PySem.Challenge.rw_nt0280_01.row.prog w) [])
    (ret : ∀ (c : Array UInt8) (t t' : Tok) (oK' : Obj) (h' : Heap) (tk' : Nat), KBw.bInts c = [0, 0, 0, 1] → oK'.IsDictOf (PySem.W.bytesKind PySem.Challenge.rw_nt0280_01.row.prog w) [(b.toList, .int 1 t')] → Fr h₀ L h' m → News h₀ L h' ((a5, o5) :: hashRel hI hD kD h1 h2 t1 t2 t3 oK') → Q (.bytes c t) { s with heap := h', toks := tk' }) :
    wpAny (model PySem.Challenge.rw_nt0280_01.row.prog w) (ktrTop dp un gd cn cs L a ccd cl outer) (call (.ref 121) [.ref hI, .bytes b tb]) Q E s := by
  refine dig1 (news := [(a5, o5)]) B F X T hk hd hu (fun p hp => N p (.tail _ (.tail _ (.tail _ (.tail _ (.tail _ hp)))))) (fun p hp => N p ?_) (Apart.mk3 hq.2.2.2.2) hne hlo hK fun c t t' oK' h' tk' hc hK' F' N' => ret c t t' oK' h' tk' hc hK' F' fun p hp => N' p ?_
  · rw [List.mem_singleton.mp hp]; exact .tail _ (.tail _ (.tail _ (.tail _ (.head _))))
  · rcases List.mem_cons.mp hp with e | hp
    · rw [e]; exact List.mem_append_right _ (.head _)
    · exact List.mem_append_left _ hp
end
theorem wordsSOcth : True := by
  (k_with "call ref" => (k_here; (with_reducible show wpAny _ _ (call (Value.ref 121) _) _ _ _); k_dflt (((with_reducible show wpAny _ _ (call (Value.ref 121) _) _ _ _); first | with_reducible refine dig1W (by k_dflt (k_asm)) (by k_dflt (k_asm)) (by k_dflt (k_asm)) (by k_dflt (k_asm)) (by k_dflt (k_asm)) (by k_dflt (first | exact rfl | assumption)) (by k_dflt (ktr_room)) (by k_dflt (ktr_units)) (by k_dflt (omega)) (by k_dflt (assumption)) (by k_dflt (assumption)) (by k_dflt (assumption)) ?_ | refine dig1W (by k_asm) (by k_asm) (by k_asm) (by k_asm) (by k_asm) (by first | exact rfl | assumption) (by ktr_room) (by ktr_units) (by omega) (by assumption) (by assumption) (by assumption) ?_); k_whole); intro b9 t9 t8 oK9 h9 tk9 hb9 hK9 F9 N9; (have hz9 := szb_ints hb9); (dsimp only [hashRel] at N9); (try dsimp only); (try k_fold)))
  trivial

theorem wordsSOcti : True := by
  (k_with "call builtin:len" => (k_here; (with_reducible show wpAny _ _ (call (Value.builtin "len") [Value.ref _]) _ _ _); k_dflt ((first | with_reducible refine len_B (by k_dflt (k_asm)) (by k_dflt (k_mem)) (by k_dflt (assumption)) (by k_dflt (omega)) ?_ | refine len_B (by k_asm) (by k_mem) (by assumption) (by omega) ?_)); (try dsimp only)))
  trivial

section
variable {w : World} {p : Program} {loose : List Str} {mean : ExcName → Option Value} {mg mb : Str → Option Value}
  {dp un : Nat} {gd : Option (List Code)} {cn : Str} {cs : Scope} {a : Addr} {ccd : Value} {cl : List (Str × Addr)} {outer : List Env} {A₀ : Around} {base h₀ : Heap} {L : Addr} {m : Str → Option Value} {s : Shared} {Q E : Value → Shared → Prop}

theorem oct_ {news : List (Addr × Obj)} {lP hI hD kD : Addr} {h1 h2 bey : Int} {t1 t2 t3 tb : Tok} {oK : Obj} {vs : List Value} {ps : List Int} {nn : Nat} {turned : Bool}
    (B : Below A₀ base outer h₀) (F : Fr h₀ L s.heap m) (X : (hd.heap_1 w.params).In h₀) (T : Top p loose mean mg mb h₀) (hk : cs.kind = .function)
    (hd : dp + 10 < recursionLimit) (hu : un + 300 < cLine)
    (N : News h₀ L s.heap ((lP, listOf vs.toArray nn) :: hashRel hI hD kD h1 h2 t1 t2 t3 oK)) (NR : News h₀ L s.heap news) (hx : Apart ((lP, listOf vs.toArray nn) :: hashRel hI hD kD h1 h2 t1 t2 t3 oK) news)
    (hne : @Ne Nat hI hD ∧ @Ne Nat hI kD ∧ @Ne Nat hD kD) (hlP : @Ne Nat lP hI ∧ @Ne Nat lP hD ∧ @Ne Nat lP kD) (hlo : (kD == sysModules) = false) (hK : oK.IsDictOf (PySem.W.bytesKind PySem.Challenge.rw_nt0280_01.row.prog w) [])
    (hv : IntsAre vs ps) (hl1 : 1 ≤ ps.length) (hl3 : ps.length ≤ 3) (hmax : ∀ p ∈ ps, 0 ≤ p ∧ p ≤ 9223372036854775808) (hbey : 0 ≤ bey ∧ bey ≤ 7)
    (ret : ∀ (oct c : Array UInt8) (tO t0 : Tok) (oK' : Obj) (h' : Heap) (tk' : Nat), KBw.bInts c = octK turned ps bey → KBw.bInts oct = KBw.bInts c ++ [0, 0, 0, 1] → oK'.IsDictOf (PySem.W.bytesKind PySem.Challenge.rw_nt0280_01.row.prog w) [(c.toList, .int 1 t0)] → Fr h₀ L h' m → News h₀ L h' (((lP, listOf vs.toArray nn) :: hashRel hI hD kD h1 h2 t1 t2 t3 oK') ++ news) → Q (.bytes oct tO) { s with heap := h', toks := tk' }) :
    wpAny (model PySem.Challenge.rw_nt0280_01.row.prog w) (ktrTop dp un gd cn cs L a ccd cl outer) (call (.ref 277) [.ref lP, .ref hI, .int bey tb, .bool turned]) Q E s := by
  revert X; k_fill; intro X
  refine wpAny_call ?_
  dsimp only [hashRel] at N hx
  have hvl := hv.length
  k_dflt (first   | (refine' code_defR ?k1 ?k2 ?k3 N NR hx ?k5 ?kA ?kF ?kK ?k6 ?k7 ?k8 ?k9 ?kB ?_ ?c2 ?c3 ?c4 ?c5; (case kA => exact rfl); (case kF => exact rfl); (case kK => first | exact rfl | assumption); (case k1 => k_asm); (case k2 => k_asm); (case k3 => k_asm); (case k5 => k_asm); (case k6 => k_is); (case k7 => k_is); (case k8 => ktr_room); (case k9 => first | exact BindsTo.of_eq rfl | exact binds_K (by k_in) rfl (by k_is) rfl rfl rfl); (case c5 => decide); (case kB => exact locs rfl); (case c2 => exact rfl); (case c3 => exact rfl); (case c4 => exact rfl); k_whole; clear N NR hx; intro g' L' h' FG' F' N' B' X' T' R' l1; (try k_lt l1); (try dsimp only); (try k_lift B'); (try k_fold))   | (refine' code_defCR ?k1 ?k2 ?k3 N NR hx ?k5 ?kA ?kF ?kK ?k6 ?k7 ?k8 ?k9 ?kB ?kD ?_ ?c2 ?c3 ?c4; (case kA => exact rfl); (case kF => exact rfl); (case kK => first | exact rfl | assumption); (case k1 => k_asm); (case k2 => k_asm); (case k3 => k_asm); (case k5 => k_asm); (case k6 => k_is); (case k7 => k_is); (case k8 => ktr_room); (case k9 => first | exact BindsTo.of_eq rfl | exact binds_K (by k_in) rfl (by k_is) rfl rfl rfl); (case kB => exact rfl); (case kD => decide +kernel); (case c2 => exact rfl); (case c3 => exact rfl); (case c4 => exact rfl); k_whole; clear N NR hx; intro g' L' h' tk' cells' FG' F' N' Y' B' X' T' R' l1; (try k_lt l1); k_cells Y'; (try simp only [List.cons_append, List.nil_append] at N'); (try dsimp only); (try k_lift B'); (try k_fold)))
  w_strict (repeat' (first | (k_unfold; (try dsimp only)) | walk1 | (dsimp only; walk1) | (leave1; try dsimp only) | (dsimp only; k_unfold; (try dsimp only)) | fail "no step"))
  · refine' LCg.CompEnd.intro (by assumption) (by assumption) _ ?sub ?off (.inr ⟨_, by k_mem, rfl, _, rfl⟩) (kci_el (gG_pos (by assumption)) rfl rfl)
    case off => assumption
    case sub => kcf_all
  · refine' LCg.CompEnd.intro (by assumption) (by assumption) _ ?sub ?off (.inr ⟨_, by k_mem, rfl, _, rfl⟩) (kci_no (gG_neg (by omega)) rfl)
    case off => assumption
    case sub => kcf_all
  · unfold Hold
    refine iter_rangeB (n := ps.length) (Str.ofString "found") (Str.ofString "k") (fun k => [1, 0, 0, k]) rfl (by assumption) (by omega) (by omega) (by k_asm) (by k_asm) (by with_unfolding_all rfl) ?_ ?_
    · intro i t b tb u I oI s₁ hi hoff hb F1 N1
      have hz1 := szb_grown hb (fun _ => Nat.le_of_ble_eq_true rfl) (by assumption) (by rw [List.length_range]; omega)
      dsimp only [Mid] at F1
      w_strict (repeat' (first | (k_unfold; (try dsimp only)) | walk1 | (dsimp only; walk1) | (leave1; try dsimp only) | (dsimp only; k_unfold; (try dsimp only)) | fail "no step"))
      refine TurnB.intro (o' := oI) (by k_asm) (cb_drop (by k_asm) (by kcf_all)) trivial rfl (by rw [hb]; assumption) ?_
      intro y h1 h2
      simp only [Mid, if_neg h1, if_neg h2]
    · intro h' tk b tb u hb F1 N1
      have hz1 := szb_grown hb (fun _ => Nat.le_of_ble_eq_true rfl) (by assumption) (by rw [List.length_range]; omega)
      dsimp only [Mid] at F1
      w_strict (repeat' (first | (k_unfold; (try dsimp only)) | walk1 | (dsimp only; walk1) | (leave1; try dsimp only) | (dsimp only; k_unfold; (try dsimp only)) | fail "no step"))
      unfold Hold
      (rename News _ _ _ _ => N7)
      replace N7 := news_front3 N7
      refine iter_listC (Str.ofString "found") (Str.ofString "number") (word4 (gsOf turned ps) bey) rfl (by k_mem) (by assumption) (by k_asm) N7 ⟨_, by assumption⟩ (by with_unfolding_all rfl) ?_ ?_
      · intro i n t b tb u o v I oI s₁ hi hmem hok hb hoff F1 N1
        have hz1 := szb_grown hb (fun _ => word4_len _ _ _) (by assumption) (by rw [List.length_take]; omega)
        have hmx := hmax n hmem
        simp only [AllNeB, and_true] at hoff
        repeat ((have hNe9 := And.left hoff); (replace hoff := And.right hoff))
        dsimp only [Mid] at F1
        w_strict (repeat' (first | (k_unfold; (try dsimp only)) | walk1 | (dsimp only; walk1) | (leave1; try dsimp only) | (dsimp only; k_unfold; (try dsimp only)) | fail "no step"))
        · exact ⟨decide_eq_true (by omega), EnEnd.intro (by k_asm) (by k_asm)⟩
        · exact ⟨decide_eq_false (by omega), EnEnd.intro (by k_asm) (by k_asm)⟩
        · refine' TurnB.intro ?aF ?aN ?aO ?aR ?aB ?aM
          case aO => exact ⟨_, by assumption⟩
          case aF => k_asm
          case aR => rfl
          case aN => exact cb_drop (by k_asm) (by kcf_all)
          case aB => rw [hb, ← word4_last (by exact (by assumption : _ ∧ _).1) (by assumption)]; assumption
          case aM => intro y h1 h2; simp only [Mid, if_neg h1, if_neg h2]
        · refine' TurnB.intro ?bF ?bN ?bO ?bR ?bB ?bM
          case bO => exact ⟨_, by assumption⟩
          case bF => k_asm
          case bR => rfl
          case bN => exact cb_drop (by k_asm) (by kcf_all)
          case bB => rw [hb, ← word4_mid (by exact (by assumption : _ ∧ _).1) (by assumption)]; assumption
          case bM => intro y h1 h2; simp only [Mid, if_neg h1, if_neg h2]
        · refine' TurnB.intro ?cF ?cN ?cO ?cR ?cB ?cM
          case cO => exact ⟨_, by assumption⟩
          case cF => k_asm
          case cR => rfl
          case cN => k_asm
          case cB => rw [hb, ← word4_small (by assumption)]; assumption
          case cM => intro y h1 h2; simp only [Mid, if_neg h1, if_neg h2]
      · intro h' tk b tb u o v hok hb F1 N1
        have hz1 := szb_grown hb (fun _ => word4_len _ _ _) (by assumption) (by omega)
        dsimp only [Mid] at F1
        w_strict (repeat' (first | (k_unfold; (try dsimp only)) | walk1 | (dsimp only; walk1) | (leave1; try dsimp only) | (dsimp only; k_unfold; (try dsimp only)) | fail "no step"))
        unfold Hold
        (rename News _ _ _ _ => N8)
        refine iter_listC (Str.ofString "found") (Str.ofString "number") (beL 8) rfl (by k_mem) (by assumption) (by k_asm) N8 ⟨_, by assumption⟩ (by with_unfolding_all rfl) ?_ ?_
        · intro i n t b tb u o v I oI s₁ hi hmem hok hb hoff F1 N1
          have hz1 := szb_grown hb (fun _ => Nat.le_of_eq (beL_len 8 _)) (by assumption) (by rw [List.length_take]; omega)
          simp only [AllNeB, and_true] at hoff
          repeat ((have hNe9 := And.left hoff); (replace hoff := And.right hoff))
          (try dsimp only [Mid] at F1)
          w_strict (repeat' (first | (k_unfold; (try dsimp only)) | walk1 | (dsimp only; walk1) | (leave1; try dsimp only) | (dsimp only; k_unfold; (try dsimp only)) | fail "no step"))
          refine' TurnB.intro ?eF ?eN ?eO ?eR ?eB ?eM
          case eO => exact ⟨_, by assumption⟩
          case eF => k_asm
          case eR => rfl
          case eN => k_asm
          case eB => rw [hb]; assumption
          case eM => intro y h1 h2; simp only [Mid, if_neg h1, if_neg h2]
        · intro h' tk b tb u o v hok hb F1 N1
          have hz1 := szb_grown hb (fun _ => Nat.le_of_eq (beL_len 8 _)) (by assumption) (by omega)
          (try dsimp only [Mid] at F1)
          w_strict (repeat' (first | (k_unfold; (try dsimp only)) | walk1 | (dsimp only; walk1) | (leave1; try dsimp only) | (dsimp only; k_unfold; (try dsimp only)) | fail "no step"))
          dsimp only
          refine' ret _ _ _ _ _ _ _ ?q1 ?q2 ?q3 ?q4 ?q5
          case q3 => assumption
          case q1 => exact oct_chain (by assumption) (by assumption) (by assumption) (by assumption)
          case q2 => exact oct_fin (by assumption) (by assumption)
          case q4 => k_asm
          case q5 => exact (by assumption : RestIn _ _ _ _).with (by k_asm)
  · refine JoinQ.intro (by k_asm) (news_snd (by k_asm)) ?_ ?_
    · unfold gsOf; rw [if_pos (by assumption)]
      have e9 : List.foldl gG [] ps = geL ps := gG_fold ps []
      rw [← e9]; assumption
    · simp only [AllNeB, and_true]; omega
  · refine JoinQ.intro (by k_asm) (by k_asm) ?_ ?_
    · unfold gsOf; rw [if_neg (by simp only [(by assumption : turned = false)]; decide)]
      have e9 : List.foldl gG [] ps = geL ps := gG_fold ps []
      rw [← e9]; assumption
    · simp only [AllNeB, and_true]; omega
  · exact gG_grows
end

end

section
theorem wordsSLawb : True := by
  w_top off
  k_with_none
  (k_with "exec For Name Subscript cons nil" => (k_here; (rename Fr _ _ _ _ => lF'); (with_unfolding_all refine For_invVF lF' (by exact rfl) (by exact rfl) ?_; k_whole)))
  (k_with "call ref" => (k_here; k_dflt (first | (refine call_meth (by k_asm) (by k_mem) ?_; k_whole; (first | ((first | with_reducible refine code_defO (by k_dflt (exact rfl)) (by k_dflt (exact rfl)) (by k_dflt (first | exact rfl | assumption)) (by k_dflt (k_asm)) (by k_dflt (k_asm)) (by k_dflt (k_asm)) (by k_dflt (k_asm)) (by k_dflt (k_asm)) (by k_dflt (k_is)) (by k_dflt (k_is)) (by k_dflt (ktr_room)) (by k_dflt (first | exact BindsTo.of_eq rfl | exact binds_K (by k_in) rfl (by k_is) rfl rfl rfl)) (by k_dflt (decide)) (by k_dflt (exact locs rfl)) (by k_dflt (exact rfl)) (by k_dflt (exact rfl)) (by k_dflt (exact rfl)) ?_ | refine code_defO (by exact rfl) (by exact rfl) (by first | exact rfl | assumption) (by k_asm) (by k_asm) (by k_asm) (by k_asm) (by k_asm) (by k_is) (by k_is) (by ktr_room) (by first | exact BindsTo.of_eq rfl | exact binds_K (by k_in) rfl (by k_is) rfl rfl rfl) (by decide) (by exact locs rfl) (by exact rfl) (by exact rfl) (by exact rfl) ?_); k_whole; intro g' L' h' FG' F' N' B' X' T'; (try dsimp only); (try k_lift B'); (try k_fold)) | ((first | with_reducible refine code_defCO (by k_dflt (exact rfl)) (by k_dflt (exact rfl)) (by k_dflt (first | exact rfl | assumption)) (by k_dflt (k_asm)) (by k_dflt (k_asm)) (by k_dflt (k_asm)) (by k_dflt (k_asm)) (by k_dflt (k_asm)) (by k_dflt (k_is)) (by k_dflt (k_is)) (by k_dflt (ktr_room)) (by k_dflt (first | exact BindsTo.of_eq rfl | exact binds_K (by k_in) rfl (by k_is) rfl rfl rfl)) (by k_dflt (exact rfl)) (by k_dflt (decide +kernel)) (by k_dflt (exact rfl)) (by k_dflt (exact rfl)) (by k_dflt (exact rfl)) ?_ | refine code_defCO (by exact rfl) (by exact rfl) (by first | exact rfl | assumption) (by k_asm) (by k_asm) (by k_asm) (by k_asm) (by k_asm) (by k_is) (by k_is) (by ktr_room) (by first | exact BindsTo.of_eq rfl | exact binds_K (by k_in) rfl (by k_is) rfl rfl rfl) (by exact rfl) (by decide +kernel) (by exact rfl) (by exact rfl) (by exact rfl) ?_); k_whole; intro g' L' h' tk' cells' FG' F' N' Y' B' X' T' l1; (try k_lt l1); k_cells Y'; (try simp only [List.cons_append, List.nil_append] at N'); (try dsimp only); (try k_lift B'); (try k_fold)))) | ((first | with_reducible refine call_cls (by k_dflt (k_asm)) (by k_dflt (k_asm)) (by k_dflt (k_asm)) (by k_dflt (k_is)) (by k_dflt (k_is)) (by k_dflt (k_is)) ?_ | refine call_cls (by k_asm) (by k_asm) (by k_asm) (by k_is) (by k_is) (by k_is) ?_); k_whole; intro x' d' h' F' N' l1 l2; (try k_lt l1); (try k_lt2 l2); (try k_sweep); (first | ((first | with_reducible refine code_defO (by k_dflt (exact rfl)) (by k_dflt (exact rfl)) (by k_dflt (first | exact rfl | assumption)) (by k_dflt (k_asm)) (by k_dflt (k_asm)) (by k_dflt (k_asm)) (by k_dflt (k_asm)) (by k_dflt (k_asm)) (by k_dflt (k_is)) (by k_dflt (k_is)) (by k_dflt (ktr_room)) (by k_dflt (first | exact BindsTo.of_eq rfl | exact binds_K (by k_in) rfl (by k_is) rfl rfl rfl)) (by k_dflt (decide)) (by k_dflt (exact locs rfl)) (by k_dflt (exact rfl)) (by k_dflt (exact rfl)) (by k_dflt (exact rfl)) ?_ | refine code_defO (by exact rfl) (by exact rfl) (by first | exact rfl | assumption) (by k_asm) (by k_asm) (by k_asm) (by k_asm) (by k_asm) (by k_is) (by k_is) (by ktr_room) (by first | exact BindsTo.of_eq rfl | exact binds_K (by k_in) rfl (by k_is) rfl rfl rfl) (by decide) (by exact locs rfl) (by exact rfl) (by exact rfl) (by exact rfl) ?_); k_whole; intro g' L' h' FG' F' N' B' X' T'; (try dsimp only); (try k_lift B'); (try k_fold)) | ((first | with_reducible refine code_defCO (by k_dflt (exact rfl)) (by k_dflt (exact rfl)) (by k_dflt (first | exact rfl | assumption)) (by k_dflt (k_asm)) (by k_dflt (k_asm)) (by k_dflt (k_asm)) (by k_dflt (k_asm)) (by k_dflt (k_asm)) (by k_dflt (k_is)) (by k_dflt (k_is)) (by k_dflt (ktr_room)) (by k_dflt (first | exact BindsTo.of_eq rfl | exact binds_K (by k_in) rfl (by k_is) rfl rfl rfl)) (by k_dflt (exact rfl)) (by k_dflt (decide +kernel)) (by k_dflt (exact rfl)) (by k_dflt (exact rfl)) (by k_dflt (exact rfl)) ?_ | refine code_defCO (by exact rfl) (by exact rfl) (by first | exact rfl | assumption) (by k_asm) (by k_asm) (by k_asm) (by k_asm) (by k_asm) (by k_is) (by k_is) (by ktr_room) (by first | exact BindsTo.of_eq rfl | exact binds_K (by k_in) rfl (by k_is) rfl rfl rfl) (by exact rfl) (by decide +kernel) (by exact rfl) (by exact rfl) (by exact rfl) ?_); k_whole; intro g' L' h' tk' cells' FG' F' N' Y' B' X' T' l1; (try k_lt l1); k_cells Y'; (try simp only [List.cons_append, List.nil_append] at N'); (try dsimp only); (try k_lift B'); (try k_fold)))) | ((first | with_reducible refine wpAny_call ?_ | refine wpAny_call ?_); (first | ((first | with_reducible refine code_defO (by k_dflt (exact rfl)) (by k_dflt (exact rfl)) (by k_dflt (first | exact rfl | assumption)) (by k_dflt (k_asm)) (by k_dflt (k_asm)) (by k_dflt (k_asm)) (by k_dflt (k_asm)) (by k_dflt (k_asm)) (by k_dflt (k_is)) (by k_dflt (k_is)) (by k_dflt (ktr_room)) (by k_dflt (first | exact BindsTo.of_eq rfl | exact binds_K (by k_in) rfl (by k_is) rfl rfl rfl)) (by k_dflt (decide)) (by k_dflt (exact locs rfl)) (by k_dflt (exact rfl)) (by k_dflt (exact rfl)) (by k_dflt (exact rfl)) ?_ | refine code_defO (by exact rfl) (by exact rfl) (by first | exact rfl | assumption) (by k_asm) (by k_asm) (by k_asm) (by k_asm) (by k_asm) (by k_is) (by k_is) (by ktr_room) (by first | exact BindsTo.of_eq rfl | exact binds_K (by k_in) rfl (by k_is) rfl rfl rfl) (by decide) (by exact locs rfl) (by exact rfl) (by exact rfl) (by exact rfl) ?_); k_whole; intro g' L' h' FG' F' N' B' X' T'; (try dsimp only); (try k_lift B'); (try k_fold)) | ((first | with_reducible refine code_defCO (by k_dflt (exact rfl)) (by k_dflt (exact rfl)) (by k_dflt (first | exact rfl | assumption)) (by k_dflt (k_asm)) (by k_dflt (k_asm)) (by k_dflt (k_asm)) (by k_dflt (k_asm)) (by k_dflt (k_asm)) (by k_dflt (k_is)) (by k_dflt (k_is)) (by k_dflt (ktr_room)) (by k_dflt (first | exact BindsTo.of_eq rfl | exact binds_K (by k_in) rfl (by k_is) rfl rfl rfl)) (by k_dflt (exact rfl)) (by k_dflt (decide +kernel)) (by k_dflt (exact rfl)) (by k_dflt (exact rfl)) (by k_dflt (exact rfl)) ?_ | refine code_defCO (by exact rfl) (by exact rfl) (by first | exact rfl | assumption) (by k_asm) (by k_asm) (by k_asm) (by k_asm) (by k_asm) (by k_is) (by k_is) (by ktr_room) (by first | exact BindsTo.of_eq rfl | exact binds_K (by k_in) rfl (by k_is) rfl rfl rfl) (by exact rfl) (by decide +kernel) (by exact rfl) (by exact rfl) (by exact rfl) ?_); k_whole; intro g' L' h' tk' cells' FG' F' N' Y' B' X' T' l1; (try k_lt l1); k_cells Y'; (try simp only [List.cons_append, List.nil_append] at N'); (try dsimp only); (try k_lift B'); (try k_fold)))))))
  (k_with "execs cons" => (k_here; (with_reducible (refine gen_toks ?_)); intro tk))
  (k_with "execs nil" => (k_here; (with_reducible (refine gen_toks ?_)); intro tk))
  (k_with "call builtin:list.append" => (k_here; k_dflt ((first | with_reducible refine app_K (by k_dflt (k_asm)) (by k_dflt (k_asm)) (by k_dflt (k_updF)) (by k_dflt ((simp only [List.length_append, List.length_cons, List.length_nil]; omega))) ?_ | refine app_K (by k_asm) (by k_asm) (by k_updF) (by (simp only [List.length_append, List.length_cons, List.length_nil]; omega)) ?_)); intro h' F' N'; (try dsimp only at N'); (try dsimp only)))
  (k_with "call ref" => (k_here; k_dflt (((with_reducible show wpAny _ _ (call (Value.ref 161) _) _ _ _); first | with_reducible refine plc (by k_dflt (k_asm)) (by k_dflt (k_asm)) (by k_dflt (k_asm)) (by k_dflt (k_asm)) (by k_dflt (first | exact rfl | assumption)) (by k_dflt (ktr_room)) (by k_dflt (ktr_units)) (by k_dflt (k_asm)) (by k_dflt (assumption)) (by k_dflt (omega)) (by k_dflt (omega)) (by k_dflt (omega)) (by k_dflt (omega)) (by k_dflt (omega)) (by k_dflt (omega)) (by k_dflt (omega)) (by k_dflt (omega)) ?_ ?_ | refine plc (by k_asm) (by k_asm) (by k_asm) (by k_asm) (by first | exact rfl | assumption) (by ktr_room) (by ktr_units) (by k_asm) (by assumption) (by omega) (by omega) (by omega) (by omega) (by omega) (by omega) (by omega) (by omega) ?_ ?_); k_whole); (all_goals (intros; (try dsimp only); (try k_fold)))))
  (k_with "call ref" => (k_here; k_dflt (((with_reducible show wpAny _ _ (call (Value.ref 154) _) _ _ _); first | with_reducible refine chkW (by k_dflt (k_asm)) (by k_dflt (k_asm)) (by k_dflt (k_asm)) (by k_dflt (k_asm)) (by k_dflt (first | exact rfl | assumption)) (by k_dflt (ktr_room)) (by k_dflt (ktr_units)) (by k_dflt (k_asm)) (by k_dflt (k_mem)) (by k_dflt (k_mem)) (by k_dflt (first | with_reducible assumption | (refine Ne.symm ?_; with_reducible assumption) | omega)) (by k_dflt (omega)) (by k_dflt (omega)) (by k_dflt (assumption)) (by k_dflt (assumption)) (by k_dflt (assumption)) ?_ | refine chkW (by k_asm) (by k_asm) (by k_asm) (by k_asm) (by first | exact rfl | assumption) (by ktr_room) (by ktr_units) (by k_asm) (by k_mem) (by k_mem) (by first | with_reducible assumption | (refine Ne.symm ?_; with_reducible assumption) | omega) (by omega) (by omega) (by assumption) (by assumption) (by assumption) ?_); k_whole); intro h9 tk9 F9 N9; (try dsimp only); (try k_fold)))
  trivial
theorem blk {j : Nat} : ∀ (W : List (List Int)) (r : List Int) (i : Nat) (x : List Int), (∀ y ∈ W, y.length = j) → W[i]? = some x → ((W.flatten ++ r).drop (j * i)).take j = x
  | [], _, i, x, _, h => by simp at h
  | y :: W, r, 0, x, hW, h => by
    have hy := hW y (.head _)
    have h' : y = x := by simpa using h
    subst h'
    rw [Nat.mul_zero, List.drop_zero, List.flatten_cons, List.append_assoc, List.take_append_of_le_length (by omega), List.take_of_length_le (by omega)]
  | y :: W, r, i + 1, x, hW, h => by
    have hy := hW y (.head _)
    rw [List.getElem?_cons_succ] at h
    have ih := blk W r i x (fun z hz => hW z (.tail _ hz)) h
    rw [List.flatten_cons, List.append_assoc]
    have e : j * (i + 1) = y.length + j * i := by rw [Nat.mul_succ, hy, Nat.add_comm]
    rw [e, ← List.drop_drop, List.drop_left]
    exact ih
theorem flat_len {j : Nat} : ∀ (W : List (List Int)), (∀ y ∈ W, y.length = j) → W.flatten.length = j * W.length
  | [], _ => by simp
  | y :: W, h => by
    rw [List.flatten_cons, List.length_append, h y (.head _), flat_len W fun z hz => h z (.tail _ hz), List.length_cons, Nat.mul_succ, Nat.add_comm]
theorem beL4 (x : Int) : beL 4 x = [x / 16777216 % 256, x / 65536 % 256, x / 256 % 256, x / 1 % 256] := by
  show [(x.fdiv 16777216).fmod 256, (x.fdiv 65536).fmod 256, (x.fdiv 256).fmod 256, (x.fdiv 1).fmod 256] = _
  simp only [Int.fdiv_eq_ediv_of_nonneg _ (by decide : (0 : Int) ≤ 16777216), Int.fdiv_eq_ediv_of_nonneg _ (by decide : (0 : Int) ≤ 65536), Int.fdiv_eq_ediv_of_nonneg _ (by decide : (0 : Int) ≤ 256), Int.fdiv_eq_ediv_of_nonneg _ (by decide : (0 : Int) ≤ 1), Int.fmod_eq_emod_of_nonneg _ (by decide : (0 : Int) ≤ 256)]
theorem beL8 (x : Int) : beL 8 x = [x / 72057594037927936 % 256, x / 281474976710656 % 256, x / 1099511627776 % 256, x / 4294967296 % 256, x / 16777216 % 256, x / 65536 % 256, x / 256 % 256, x / 1 % 256] := by
  show [(x.fdiv 72057594037927936).fmod 256, (x.fdiv 281474976710656).fmod 256, (x.fdiv 1099511627776).fmod 256, (x.fdiv 4294967296).fmod 256, (x.fdiv 16777216).fmod 256, (x.fdiv 65536).fmod 256, (x.fdiv 256).fmod 256, (x.fdiv 1).fmod 256] = _
  simp only [Int.fdiv_eq_ediv_of_nonneg _ (by decide : (0 : Int) ≤ 72057594037927936), Int.fdiv_eq_ediv_of_nonneg _ (by decide : (0 : Int) ≤ 281474976710656), Int.fdiv_eq_ediv_of_nonneg _ (by decide : (0 : Int) ≤ 1099511627776), Int.fdiv_eq_ediv_of_nonneg _ (by decide : (0 : Int) ≤ 4294967296), Int.fdiv_eq_ediv_of_nonneg _ (by decide : (0 : Int) ≤ 16777216), Int.fdiv_eq_ediv_of_nonneg _ (by decide : (0 : Int) ≤ 65536), Int.fdiv_eq_ediv_of_nonneg _ (by decide : (0 : Int) ≤ 256), Int.fdiv_eq_ediv_of_nonneg _ (by decide : (0 : Int) ≤ 1), Int.fmod_eq_emod_of_nonneg _ (by decide : (0 : Int) ≤ 256)]
theorem beV4 {x : Int} (h0 : 0 ≤ x) (h1 : x < 4294967296) : beV (beL 4 x) = x := by
  rw [beL4]
  simp only [beV, List.foldl_cons, List.foldl_nil]
  omega
theorem beV8 {x : Int} (h0 : 0 ≤ x) (h1 : x < 18446744073709551616) : beV (beL 8 x) = x := by
  rw [beL8]
  simp only [beV, List.foldl_cons, List.foldl_nil]
  omega
def wA : List (List Int) := [[255, 116, 79, 99], beL 4 2, beL 4 0]
def wB (ps : List Int) : List (List Int) := List.replicate 255 (beL 4 ps.length)
def wC (ps : List Int) : List (List Int) := List.map (fun j : Nat => [1, 0, 0, (j : Int)]) (List.range ps.length)
def wD (ps : List Int) : List (List Int) := List.replicate ps.length (beL 4 5)
def wE (turned : Bool) (ps : List Int) (bey : Int) : List (List Int) := ps.map (word4 (gsOf turned ps) bey)
def wordsK (turned : Bool) (ps : List Int) (bey : Int) : List (List Int) := wA ++ (wB ps ++ (wC ps ++ (wD ps ++ wE turned ps bey)))
def tailK (turned : Bool) (ps : List Int) : List Int := ((gsOf turned ps).map (beL 8)).flatten ++ [9, 9, 9, 9, 0, 0, 0, 1]
def ksOf (turned : Bool) (ps : List Int) (bey : Int) : List Int := octK turned ps bey ++ [0, 0, 0, 1]
section
variable {turned : Bool} {ps : List Int} {bey : Int}
theorem ksOf_eq : ksOf turned ps bey = (wordsK turned ps bey).flatten ++ tailK turned ps := by
  unfold ksOf octK wordsK tailK wA wB wC wD wE
  have e1 : Int.toNat 255 = 255 := rfl
  have e2 : (ps.length : Int).toNat = ps.length := rfl
  rw [e1, e2]
  simp only [List.flatten_append, List.flatten_cons, List.flatten_nil, List.append_assoc, List.append_nil, List.cons_append, List.nil_append]
theorem lA : wA.length = 3 := rfl
theorem lB : (wB ps).length = 255 := by unfold wB; rw [List.length_replicate]
theorem lC : (wC ps).length = ps.length := by unfold wC; rw [List.length_map, List.length_range]
theorem lD : (wD ps).length = ps.length := by unfold wD; rw [List.length_replicate]
theorem lE : (wE turned ps bey).length = ps.length := by unfold wE; rw [List.length_map]
theorem lW : (wordsK turned ps bey).length = 258 + 3 * ps.length := by
  unfold wordsK
  rw [List.length_append, List.length_append, List.length_append, List.length_append, lA, lB, lC, lD, lE]; omega
theorem word4_len4 (gs : List Int) (p : Int) : (word4 gs bey p).length = 4 := by unfold word4; rw [beL_len]
theorem w4 : ∀ y ∈ wordsK turned ps bey, y.length = 4 := by
  intro y hy
  unfold wordsK at hy
  simp only [List.mem_append] at hy
  rcases hy with h | h | h | h | h
  · unfold wA at h
    simp only [List.mem_cons, List.not_mem_nil, or_false] at h
    rcases h with h | h | h <;> rw [h] <;> first | rfl | exact beL_len _ _
  · unfold wB at h; rw [List.eq_of_mem_replicate h]; exact beL_len _ _
  · unfold wC at h; obtain ⟨j, _, rfl⟩ := List.mem_map.mp h; rfl
  · unfold wD at h; rw [List.eq_of_mem_replicate h]; exact beL_len _ _
  · unfold wE at h; obtain ⟨j, _, rfl⟩ := List.mem_map.mp h; exact word4_len4 _ _
theorem w8 : ∀ y ∈ (gsOf turned ps).map (beL 8), y.length = 8 := by
  intro y hy
  obtain ⟨j, _, rfl⟩ := List.mem_map.mp hy; exact beL_len _ _
theorem lT : (tailK turned ps).length = 8 * (gsOf turned ps).length + 8 := by
  unfold tailK
  rw [List.length_append, flat_len _ w8, List.length_map]; rfl
theorem lK : (ksOf turned ps bey).length = 1040 + 12 * ps.length + 8 * (gsOf turned ps).length := by
  rw [ksOf_eq, List.length_append, flat_len _ w4, lW, lT]; omega
theorem at4 {i : Nat} {x : List Int} (h : (wordsK turned ps bey)[i]? = some x) : ((ksOf turned ps bey).drop (4 * i)).take 4 = x := by
  rw [ksOf_eq]; exact blk _ _ _ _ w4 h
theorem at8 {i : Nat} {x : Int} (h : (gsOf turned ps)[i]? = some x) : ((ksOf turned ps bey).drop (1032 + 12 * ps.length + 8 * i)).take 8 = beL 8 x := by
  have e : 1032 + 12 * ps.length + 8 * i = (wordsK turned ps bey).flatten.length + 8 * i := by rw [flat_len _ w4, lW]; omega
  rw [ksOf_eq, e, ← List.drop_drop, List.drop_left]
  unfold tailK
  exact blk _ _ _ _ w8 (by rw [List.getElem?_map, h]; rfl)
theorem gA {i : Nat} (h : i < 3) : (wordsK turned ps bey)[i]? = wA[i]? := by unfold wordsK; rw [List.getElem?_append_left (by rw [lA]; exact h)]
theorem gB {i : Nat} (h : i < 255) : (wordsK turned ps bey)[3 + i]? = some (beL 4 ps.length) := by
  unfold wordsK
  rw [List.getElem?_append_right (by rw [lA]; omega), lA, List.getElem?_append_left (by rw [lB]; omega)]
  unfold wB
  rw [List.getElem?_replicate, if_pos (by omega)]
theorem gC {i : Nat} (h : i < ps.length) : (wordsK turned ps bey)[258 + i]? = some [1, 0, 0, (i : Int)] := by
  unfold wordsK
  rw [List.getElem?_append_right (by rw [lA]; omega), lA, List.getElem?_append_right (by rw [lB]; omega), lB, List.getElem?_append_left (by rw [lC]; omega)]
  unfold wC
  have e : 258 + i - 3 - 255 = i := by omega
  rw [e, List.getElem?_map, List.getElem?_range h]
  rfl
theorem gE {i : Nat} {x : Int} (h : ps[i]? = some x) : (wordsK turned ps bey)[258 + 2 * ps.length + i]? = some (word4 (gsOf turned ps) bey x) := by
  have hi : i < ps.length := (List.getElem?_eq_some_iff.mp h).1
  unfold wordsK
  rw [List.getElem?_append_right (by rw [lA]; omega), lA, List.getElem?_append_right (by rw [lB]; omega), lB, List.getElem?_append_right (by rw [lC]; omega), lC, List.getElem?_append_right (by rw [lD]; omega), lD]
  have e : 258 + 2 * ps.length + i - 3 - 255 - ps.length - ps.length = i := by omega
  rw [e]
  unfold wE
  rw [List.getElem?_map, h]
  rfl
theorem be_small {n : Nat} (h1 : 1 ≤ n) (h3 : n ≤ 3) : beL 4 (n : Int) = [0, 0, 0, (n : Int)] := by
  rcases (by omega : n = 1 ∨ n = 2 ∨ n = 3) with rfl | rfl | rfl <;> decide
theorem k_fan (h1 : 1 ≤ ps.length) (h3 : ps.length ≤ 3) : FanAt (ksOf turned ps bey) ps.length := by
  intro j hj
  have e : 8 + 4 * j = 4 * (2 + j) := by omega
  rw [e]
  cases j with
  | zero =>
    rw [if_pos rfl]
    exact at4 ((gA (by omega)).trans (by decide))
  | succ j =>
    rw [if_neg (by omega)]
    have e : 2 + (j + 1) = 3 + j := by omega
    rw [e]
    exact at4 ((gB (by omega)).trans (by rw [be_small h1 h3]))
theorem k_mark : List.take (clipAt (ksOf turned ps bey).length 4) (ksOf turned ps bey) = [255, 116, 79, 99] := by
  have e : clipAt (ksOf turned ps bey).length 4 = 4 := clip_in (x := 4) (by decide) (by rw [lK]; omega)
  rw [e]
  exact at4 (i := 0) ((gA (by omega)).trans (by decide))
theorem k_vers : beV (List.take (Int.toNat 4) (List.drop (Int.toNat 4) (ksOf turned ps bey))) = 2 := by
  have e : List.take (Int.toNat 4) (List.drop (Int.toNat 4) (ksOf turned ps bey)) = beL 4 2 := at4 (i := 1) ((gA (by omega)).trans (by decide))
  rw [e]; exact beV4 (by decide) (by decide)
theorem k_ids : IdsAt (ksOf turned ps bey) (8 + 4 * 256) ps.length := by
  intro k hk
  have e : (8 + 4 * 256 + 4 * (k : Int)).toNat = 4 * (258 + k) := by omega
  rw [e]
  exact at4 (gC (by omega))
def wval (gs : List Int) (bey p : Int) : Int := if 2147483648 ≤ p then 2147483648 + (gs.idxOf p : Int) + (if (gs.idxOf p : Int) = (gs.length : Int) - 1 then bey else 0) else p
theorem k_p4 {k : Nat} {x : Int} (h : ps[k]? = some x) (h0 : 0 ≤ wval (gsOf turned ps) bey x) (h1 : wval (gsOf turned ps) bey x < 4294967296) :
    p4 (ksOf turned ps bey) (8 + 4 * 256 + 4 * (ps.length : Int) + 4 * (ps.length : Int)) k = wval (gsOf turned ps) bey x := by
  unfold p4
  have e : (8 + 4 * 256 + 4 * (ps.length : Int) + 4 * (ps.length : Int) + 4 * (0 + (k : Int))).toNat = 4 * (258 + 2 * ps.length + k) := by omega
  have e4 : Int.toNat 4 = 4 := rfl
  rw [e, e4, at4 (gE h)]
  unfold word4
  exact beV4 h0 h1
theorem k_q8 {i : Nat} {x : Int} (h : (gsOf turned ps)[i]? = some x) (h0 : 0 ≤ x) (h1 : x < 18446744073709551616) :
    q8 (ksOf turned ps bey) (8 + 4 * 256 + 4 * (ps.length : Int) + 4 * (ps.length : Int) + 4 * (ps.length : Int)) (2147483648 + (i : Int)) = x := by
  unfold q8
  have e : (8 + 4 * 256 + 4 * (ps.length : Int) + 4 * (ps.length : Int) + 4 * (ps.length : Int) + 8 * (2147483648 + (i : Int) - 2147483648)).toNat = 1032 + 12 * ps.length + 8 * i := by omega
  have e8 : Int.toNat 8 = 8 := rfl
  rw [e, e8, at8 h]
  exact beV8 h0 h1
def badP (gs : List Int) (bey p : Int) : Prop := 2147483648 ≤ p ∧ (((gs.idxOf p : Int) = (gs.length : Int) - 1 ∧ 0 < bey) ∨ 9223372036854775807 < p)
abbrev plOf (turned : Bool) (ps : List Int) (bey : Int) (k : Nat) : Option Int :=
  placeOf (ksOf turned ps bey) (8 + 4 * 256 + 4 * (ps.length : Int) + 4 * (ps.length : Int)) (8 + 4 * 256 + 4 * (ps.length : Int) + 4 * (ps.length : Int) + 4 * (ps.length : Int)) ((gsOf turned ps).length : Int) k
theorem k_place {k : Nat} {x : Int} (h : ps[k]? = some x) (h3 : ps.length ≤ 3) (hb : 0 ≤ bey ∧ bey ≤ 7) (hx : 0 ≤ x ∧ x ≤ 9223372036854775808) :
    (badP (gsOf turned ps) bey x → plOf turned ps bey k = none) ∧ (¬ badP (gsOf turned ps) bey x → plOf turned ps bey k = some x) := by
  have hm : x ∈ ps := List.mem_of_getElem? h
  have hl := gsOf_len turned ps
  by_cases hge : 2147483648 ≤ x
  · have hg : x ∈ gsOf turned ps := gsOf_mem.mpr ⟨hm, hge⟩
    have hi : List.idxOf x (gsOf turned ps) < (gsOf turned ps).length := List.idxOf_lt_length_of_mem hg
    have hget : (gsOf turned ps)[List.idxOf x (gsOf turned ps)]? = some x := List.getElem?_eq_some_iff.mpr ⟨hi, List.getElem_idxOf hi⟩
    by_cases hlast : (List.idxOf x (gsOf turned ps) : Int) = ((gsOf turned ps).length : Int) - 1
    · have hw : wval (gsOf turned ps) bey x = 2147483648 + (List.idxOf x (gsOf turned ps) : Int) + bey := by unfold wval; rw [if_pos hge, if_pos hlast]
      have hp := k_p4 (bey := bey) h (by rw [hw]; omega) (by rw [hw]; omega)
      rw [hw] at hp
      by_cases hb0 : 0 < bey
      · refine ⟨fun _ => placeOf_bad1 (by rw [hp]; omega) (by rw [hp]; omega), fun hn => absurd ⟨hge, .inl ⟨hlast, hb0⟩⟩ hn⟩
      · have e0 : bey = 0 := by omega
        rw [e0, Int.add_zero] at hp
        rw [← e0] at hp
        have hq := k_q8 (bey := bey) hget hx.1 (by omega)
        by_cases h63 : 9223372036854775807 < x
        · exact ⟨fun _ => placeOf_bad2 (by rw [hp]; omega) (by rw [hp, hq]; exact h63), fun hn => absurd ⟨hge, .inr h63⟩ hn⟩
        · refine ⟨fun hbad => ?_, fun _ => ?_⟩
          · rcases hbad.2 with ⟨_, q⟩ | q
            · exact absurd q hb0
            · exact absurd q h63
          · have z := placeOf_great (ga := 8 + 4 * 256 + 4 * (ps.length : Int) + 4 * (ps.length : Int) + 4 * (ps.length : Int)) (gm := ((gsOf turned ps).length : Int)) (k := k) (ks := ksOf turned ps bey) (at_ := 8 + 4 * 256 + 4 * (ps.length : Int) + 4 * (ps.length : Int)) (by rw [hp]; omega) (by rw [hp]; omega) (by rw [hp, hq]; exact h63)
            rw [hp, hq] at z; exact z
    · have hw : wval (gsOf turned ps) bey x = 2147483648 + (List.idxOf x (gsOf turned ps) : Int) := by unfold wval; rw [if_pos hge, if_neg hlast, Int.add_zero]
      have hp := k_p4 (bey := bey) h (by rw [hw]; omega) (by rw [hw]; omega)
      rw [hw] at hp
      have hq := k_q8 (bey := bey) hget hx.1 (by omega)
      by_cases h63 : 9223372036854775807 < x
      · exact ⟨fun _ => placeOf_bad2 (by rw [hp]; omega) (by rw [hp, hq]; exact h63), fun hn => absurd ⟨hge, .inr h63⟩ hn⟩
      · refine ⟨fun hbad => ?_, fun _ => ?_⟩
        · rcases hbad.2 with ⟨q, _⟩ | q
          · exact absurd q hlast
          · exact absurd q h63
        · have z := placeOf_great (ga := 8 + 4 * 256 + 4 * (ps.length : Int) + 4 * (ps.length : Int) + 4 * (ps.length : Int)) (gm := ((gsOf turned ps).length : Int)) (k := k) (ks := ksOf turned ps bey) (at_ := 8 + 4 * 256 + 4 * (ps.length : Int) + 4 * (ps.length : Int)) (by rw [hp]; omega) (by rw [hp]; omega) (by rw [hp, hq]; exact h63)
          rw [hp, hq] at z; exact z
  · have hw : wval (gsOf turned ps) bey x = x := by unfold wval; rw [if_neg hge]
    have hp := k_p4 (bey := bey) h (by rw [hw]; omega) (by rw [hw]; omega)
    rw [hw] at hp
    refine ⟨fun hbad => absurd hbad.1 hge, fun _ => ?_⟩
    have z := placeOf_small (ga := 8 + 4 * 256 + 4 * (ps.length : Int) + 4 * (ps.length : Int) + 4 * (ps.length : Int)) (gm := ((gsOf turned ps).length : Int)) (k := k) (ks := ksOf turned ps bey) (at_ := 8 + 4 * 256 + 4 * (ps.length : Int) + 4 * (ps.length : Int)) (by rw [hp]; exact hge)
    rw [hp] at z; exact z
def Fails (ps : List Int) (bey : Int) : Prop := 9223372036854775808 ∈ ps ∨ (0 < bey ∧ geL ps ≠ [])
theorem gs_nil : gsOf turned ps = [] ↔ geL ps = [] := by
  unfold gsOf; cases turned <;> simp
theorem gs_nodup (h : ps.Nodup) : (gsOf turned ps).Nodup := by
  unfold gsOf geL
  cases turned
  · exact h.sublist List.filter_sublist
  · rw [if_pos rfl]; exact List.pairwise_reverse.mpr ((h.sublist List.filter_sublist).imp fun q e => q e.symm)
theorem bad_of_fails (hn : ps.Nodup) (h : Fails ps bey) : ∃ (k : Nat) (x : Int), ps[k]? = some x ∧ badP (gsOf turned ps) bey x := by
  rcases h with h | ⟨hb, hg⟩
  · obtain ⟨k, hk, e⟩ := List.getElem_of_mem h
    exact ⟨k, _, List.getElem?_eq_some_iff.mpr ⟨hk, e⟩, by decide, .inr (by decide)⟩
  · have hne : gsOf turned ps ≠ [] := fun e => hg (gs_nil.mp e)
    have hl : 0 < (gsOf turned ps).length := List.length_pos_iff.mpr hne
    have hi : (gsOf turned ps).length - 1 < (gsOf turned ps).length := by omega
    have hx : (gsOf turned ps)[(gsOf turned ps).length - 1] ∈ gsOf turned ps := List.getElem_mem hi
    have hps := gsOf_mem.mp hx
    obtain ⟨k, hk, e⟩ := List.getElem_of_mem hps.1
    refine ⟨k, _, List.getElem?_eq_some_iff.mpr ⟨hk, e⟩, hps.2, .inl ⟨?_, hb⟩⟩
    rw [(gs_nodup hn).idxOf_getElem]
    omega
theorem fails_of_bad {x : Int} (hm : x ∈ ps) (hx : x ≤ 9223372036854775808) (h : badP (gsOf turned ps) bey x) : Fails ps bey := by
  rcases h.2 with ⟨_, hb⟩ | hb
  · refine .inr ⟨hb, fun e => ?_⟩
    have : x ∈ gsOf turned ps := gsOf_mem.mpr ⟨hm, h.1⟩
    rw [gs_nil.mpr e] at this; cases this
  · have : x = 9223372036854775808 := by omega
    exact .inl (this ▸ hm)
theorem law_good (h3 : ps.length ≤ 3) (hb : 0 ≤ bey ∧ bey ≤ 7) (hx : ∀ p ∈ ps, 0 ≤ p ∧ p ≤ 9223372036854775808) (hf : ¬ Fails ps bey) {k : Nat} {x : Int} (h : ps[k]? = some x) : plOf turned ps bey k = some x := by
  have hm := List.mem_of_getElem? h
  exact (k_place h h3 hb (hx x hm)).2 fun q => hf (fails_of_bad hm (hx x hm).2 q)
theorem law_some (h3 : ps.length ≤ 3) (hb : 0 ≤ bey ∧ bey ≤ 7) (hx : ∀ p ∈ ps, 0 ≤ p ∧ p ≤ 9223372036854775808) (hn : ps.Nodup) {xs : List Int}
    (h : (List.range (ps.length : Int).toNat).map (plOf turned ps bey) = xs.map some) : ¬ Fails ps bey ∧ xs = ps := by
  have e2 : (ps.length : Int).toNat = ps.length := rfl
  rw [e2] at h
  have hl : xs.length = ps.length := by
    have := congrArg List.length h
    simpa using this.symm
  have hk : ∀ k : Nat, k < ps.length → plOf turned ps bey k = xs[k]? := fun k hk => by
    have := congrArg (fun l => l[k]?) h
    simp only [List.getElem?_map, List.getElem?_range hk] at this
    have hx' : k < xs.length := by omega
    rw [List.getElem?_eq_getElem hx'] at this ⊢
    simpa using this
  have hf : ¬ Fails ps bey := fun q => by
    obtain ⟨k, x, hkx, hbad⟩ := bad_of_fails (turned := turned) hn q
    have hkl : k < ps.length := (List.getElem?_eq_some_iff.mp hkx).1
    have z := (k_place hkx h3 hb (hx x (List.mem_of_getElem? hkx))).1 hbad
    rw [hk k hkl, List.getElem?_eq_getElem (by omega)] at z
    cases z
  refine ⟨hf, List.ext_getElem? fun k => ?_⟩
  by_cases hkl : k < ps.length
  · rw [← hk k hkl, law_good h3 hb hx hf (List.getElem?_eq_getElem hkl), List.getElem?_eq_getElem hkl]
  · rw [List.getElem?_eq_none (by omega), List.getElem?_eq_none (by omega)]
theorem law_none (h3 : ps.length ≤ 3) (hb : 0 ≤ bey ∧ bey ≤ 7) (hx : ∀ p ∈ ps, 0 ≤ p ∧ p ≤ 9223372036854775808) {k : Nat} (hk : k < (ps.length : Int).toNat) (h : plOf turned ps bey k = none) : Fails ps bey := by
  by_cases hf : Fails ps bey
  · exact hf
  · have hk' : k < ps.length := hk
    have := law_good (turned := turned) h3 hb hx hf (List.getElem?_eq_getElem hk')
    rw [this] at h; cases h
end

end

section
theorem wordsCatchRb : True := by
  w_top off
  k_with_none
  (k_with "exec For Name Subscript cons nil" => (k_here; (rename Fr _ _ _ _ => lF'); (with_unfolding_all refine For_invVF lF' (by exact rfl) (by exact rfl) ?_; k_whole)))
  (k_with "call ref" => (k_here; k_dflt (first | (refine call_meth (by k_asm) (by k_mem) ?_; k_whole; (first | ((first | with_reducible refine code_defO (by k_dflt (exact rfl)) (by k_dflt (exact rfl)) (by k_dflt (first | exact rfl | assumption)) (by k_dflt (k_asm)) (by k_dflt (k_asm)) (by k_dflt (k_asm)) (by k_dflt (k_asm)) (by k_dflt (k_asm)) (by k_dflt (k_is)) (by k_dflt (k_is)) (by k_dflt (ktr_room)) (by k_dflt (first | exact BindsTo.of_eq rfl | exact binds_K (by k_in) rfl (by k_is) rfl rfl rfl)) (by k_dflt (decide)) (by k_dflt (exact locs rfl)) (by k_dflt (exact rfl)) (by k_dflt (exact rfl)) (by k_dflt (exact rfl)) ?_ | refine code_defO (by exact rfl) (by exact rfl) (by first | exact rfl | assumption) (by k_asm) (by k_asm) (by k_asm) (by k_asm) (by k_asm) (by k_is) (by k_is) (by ktr_room) (by first | exact BindsTo.of_eq rfl | exact binds_K (by k_in) rfl (by k_is) rfl rfl rfl) (by decide) (by exact locs rfl) (by exact rfl) (by exact rfl) (by exact rfl) ?_); k_whole; intro g' L' h' FG' F' N' B' X' T'; (try dsimp only); (try k_lift B'); (try k_fold)) | ((first | with_reducible refine code_defCO (by k_dflt (exact rfl)) (by k_dflt (exact rfl)) (by k_dflt (first | exact rfl | assumption)) (by k_dflt (k_asm)) (by k_dflt (k_asm)) (by k_dflt (k_asm)) (by k_dflt (k_asm)) (by k_dflt (k_asm)) (by k_dflt (k_is)) (by k_dflt (k_is)) (by k_dflt (ktr_room)) (by k_dflt (first | exact BindsTo.of_eq rfl | exact binds_K (by k_in) rfl (by k_is) rfl rfl rfl)) (by k_dflt (exact rfl)) (by k_dflt (decide +kernel)) (by k_dflt (exact rfl)) (by k_dflt (exact rfl)) (by k_dflt (exact rfl)) ?_ | refine code_defCO (by exact rfl) (by exact rfl) (by first | exact rfl | assumption) (by k_asm) (by k_asm) (by k_asm) (by k_asm) (by k_asm) (by k_is) (by k_is) (by ktr_room) (by first | exact BindsTo.of_eq rfl | exact binds_K (by k_in) rfl (by k_is) rfl rfl rfl) (by exact rfl) (by decide +kernel) (by exact rfl) (by exact rfl) (by exact rfl) ?_); k_whole; intro g' L' h' tk' cells' FG' F' N' Y' B' X' T' l1; (try k_lt l1); k_cells Y'; (try simp only [List.cons_append, List.nil_append] at N'); (try dsimp only); (try k_lift B'); (try k_fold)))) | ((first | with_reducible refine call_cls (by k_dflt (k_asm)) (by k_dflt (k_asm)) (by k_dflt (k_asm)) (by k_dflt (k_is)) (by k_dflt (k_is)) (by k_dflt (k_is)) ?_ | refine call_cls (by k_asm) (by k_asm) (by k_asm) (by k_is) (by k_is) (by k_is) ?_); k_whole; intro x' d' h' F' N' l1 l2; (try k_lt l1); (try k_lt2 l2); (try k_sweep); (first | ((first | with_reducible refine code_defO (by k_dflt (exact rfl)) (by k_dflt (exact rfl)) (by k_dflt (first | exact rfl | assumption)) (by k_dflt (k_asm)) (by k_dflt (k_asm)) (by k_dflt (k_asm)) (by k_dflt (k_asm)) (by k_dflt (k_asm)) (by k_dflt (k_is)) (by k_dflt (k_is)) (by k_dflt (ktr_room)) (by k_dflt (first | exact BindsTo.of_eq rfl | exact binds_K (by k_in) rfl (by k_is) rfl rfl rfl)) (by k_dflt (decide)) (by k_dflt (exact locs rfl)) (by k_dflt (exact rfl)) (by k_dflt (exact rfl)) (by k_dflt (exact rfl)) ?_ | refine code_defO (by exact rfl) (by exact rfl) (by first | exact rfl | assumption) (by k_asm) (by k_asm) (by k_asm) (by k_asm) (by k_asm) (by k_is) (by k_is) (by ktr_room) (by first | exact BindsTo.of_eq rfl | exact binds_K (by k_in) rfl (by k_is) rfl rfl rfl) (by decide) (by exact locs rfl) (by exact rfl) (by exact rfl) (by exact rfl) ?_); k_whole; intro g' L' h' FG' F' N' B' X' T'; (try dsimp only); (try k_lift B'); (try k_fold)) | ((first | with_reducible refine code_defCO (by k_dflt (exact rfl)) (by k_dflt (exact rfl)) (by k_dflt (first | exact rfl | assumption)) (by k_dflt (k_asm)) (by k_dflt (k_asm)) (by k_dflt (k_asm)) (by k_dflt (k_asm)) (by k_dflt (k_asm)) (by k_dflt (k_is)) (by k_dflt (k_is)) (by k_dflt (ktr_room)) (by k_dflt (first | exact BindsTo.of_eq rfl | exact binds_K (by k_in) rfl (by k_is) rfl rfl rfl)) (by k_dflt (exact rfl)) (by k_dflt (decide +kernel)) (by k_dflt (exact rfl)) (by k_dflt (exact rfl)) (by k_dflt (exact rfl)) ?_ | refine code_defCO (by exact rfl) (by exact rfl) (by first | exact rfl | assumption) (by k_asm) (by k_asm) (by k_asm) (by k_asm) (by k_asm) (by k_is) (by k_is) (by ktr_room) (by first | exact BindsTo.of_eq rfl | exact binds_K (by k_in) rfl (by k_is) rfl rfl rfl) (by exact rfl) (by decide +kernel) (by exact rfl) (by exact rfl) (by exact rfl) ?_); k_whole; intro g' L' h' tk' cells' FG' F' N' Y' B' X' T' l1; (try k_lt l1); k_cells Y'; (try simp only [List.cons_append, List.nil_append] at N'); (try dsimp only); (try k_lift B'); (try k_fold)))) | ((first | with_reducible refine wpAny_call ?_ | refine wpAny_call ?_); (first | ((first | with_reducible refine code_defO (by k_dflt (exact rfl)) (by k_dflt (exact rfl)) (by k_dflt (first | exact rfl | assumption)) (by k_dflt (k_asm)) (by k_dflt (k_asm)) (by k_dflt (k_asm)) (by k_dflt (k_asm)) (by k_dflt (k_asm)) (by k_dflt (k_is)) (by k_dflt (k_is)) (by k_dflt (ktr_room)) (by k_dflt (first | exact BindsTo.of_eq rfl | exact binds_K (by k_in) rfl (by k_is) rfl rfl rfl)) (by k_dflt (decide)) (by k_dflt (exact locs rfl)) (by k_dflt (exact rfl)) (by k_dflt (exact rfl)) (by k_dflt (exact rfl)) ?_ | refine code_defO (by exact rfl) (by exact rfl) (by first | exact rfl | assumption) (by k_asm) (by k_asm) (by k_asm) (by k_asm) (by k_asm) (by k_is) (by k_is) (by ktr_room) (by first | exact BindsTo.of_eq rfl | exact binds_K (by k_in) rfl (by k_is) rfl rfl rfl) (by decide) (by exact locs rfl) (by exact rfl) (by exact rfl) (by exact rfl) ?_); k_whole; intro g' L' h' FG' F' N' B' X' T'; (try dsimp only); (try k_lift B'); (try k_fold)) | ((first | with_reducible refine code_defCO (by k_dflt (exact rfl)) (by k_dflt (exact rfl)) (by k_dflt (first | exact rfl | assumption)) (by k_dflt (k_asm)) (by k_dflt (k_asm)) (by k_dflt (k_asm)) (by k_dflt (k_asm)) (by k_dflt (k_asm)) (by k_dflt (k_is)) (by k_dflt (k_is)) (by k_dflt (ktr_room)) (by k_dflt (first | exact BindsTo.of_eq rfl | exact binds_K (by k_in) rfl (by k_is) rfl rfl rfl)) (by k_dflt (exact rfl)) (by k_dflt (decide +kernel)) (by k_dflt (exact rfl)) (by k_dflt (exact rfl)) (by k_dflt (exact rfl)) ?_ | refine code_defCO (by exact rfl) (by exact rfl) (by first | exact rfl | assumption) (by k_asm) (by k_asm) (by k_asm) (by k_asm) (by k_asm) (by k_is) (by k_is) (by ktr_room) (by first | exact BindsTo.of_eq rfl | exact binds_K (by k_in) rfl (by k_is) rfl rfl rfl) (by exact rfl) (by decide +kernel) (by exact rfl) (by exact rfl) (by exact rfl) ?_); k_whole; intro g' L' h' tk' cells' FG' F' N' Y' B' X' T' l1; (try k_lt l1); k_cells Y'; (try simp only [List.cons_append, List.nil_append] at N'); (try dsimp only); (try k_lift B'); (try k_fold)))))))
  (k_with "execs cons" => (k_here; (with_reducible (refine gen_toks ?_)); intro tk))
  (k_with "execs nil" => (k_here; (with_reducible (refine gen_toks ?_)); intro tk))
  (k_with "LeaveK" => ((try ((rename RestIn _ _ _ _ => rI); (rename Fr _ _ _ _ => lF'); (have rJ := RestIn.keeps rI lF'); (try ((rename News _ _ _ _ => lN'); (have rK := RestIn.apart rI lN'))))); (k_dflt ((first | with_reducible refine leaveK_ (by k_dflt (k_asm)) (by k_dflt (k_asm)) ?_ | refine leaveK_ (by k_asm) (by k_asm) ?_); k_whole); intro kF kN; ground_anew kF; (have kX := kFor kF (by k_asm)); (try dsimp only [InitBack, CmpBack, LenBack, StrBack, BoolBack]); (try refine ⟨rfl, ?_⟩); (try dsimp only [CmpBack, LenBack, StrBack, BoolBack]); (try (refine ⟨⟨by omega, by omega⟩, ?_⟩)); (try (refine handed_on rfl ?_; try dsimp only)))))
  trivial
section
variable {prog : Program} {w : World} {A A₀ : Around} {s : Shared} {K : Frag} {L : Addr} {h₀ base : Heap} {m mg mb : Str → Option Value} {rel rest : List (Addr × Obj)} {p : Program} {loose : List Str} {mean : ExcName → Option Value}
theorem ktsDicts_of {h₀ g : Heap} (F : Fr h₀ L g m) : KtsDicts [L] g := fun b hb => by
  obtain ⟨oL, es, ep, hL, hLd, _⟩ := F.ns
  rw [List.mem_singleton.mp hb]
  exact ⟨oL, es, ep, hL, hLd⟩
theorem RestIn.turned {g g' h' : Heap} {L' : Addr} {m' : Str → Option Value} (R : RestIn h₀ L g rest) (T : KtsTurn [L] g g') (F : Fr g' L' h' m') : RestIn h₀ L h' rest :=
  ⟨fun q hq => ⟨F.keep _ _ (T.other _ _ (R.news q hq).1 fun z => (R.news q hq).2.1 (List.mem_singleton.mp z)), (R.news q hq).2⟩⟩
theorem code_defSR {env : Env} {R : Result → Shared → Prop} {name qual : Str} {params : Arguments} {body : List Stmt} {scope : Scope} {dV kV doc pm cdv ct oc : Value} {an od : Option Addr} {osl : Array (Option Value)} {f : Addr} {args : Args} {binds : List (Str × Value)}
    (B : Below A₀ base [] h₀) (F : Fr h₀ L s.heap m) (X₀ : K.In h₀) (N : News h₀ L s.heap rel) (NR : News h₀ L s.heap rest) (hx : Apart rel rest) (T : Top p loose mean mg mb h₀) (hA : A.frames = some [env]) (hf : env.frame = some L) (hke : env.scope.kind = .function)
    (ho : K.lookup f = some ⟨oc, od, .func (fnOf name qual params body scope dV kV doc pm an cdv ct), osl⟩) (hcd : codeIn K cdv qual = true) (hroom : A.depth < recursionLimit)
    (hbind : BindsTo s (fnOf name qual params body scope dV kV doc pm an cdv ct) args binds) (hloc : ∀ y ∈ binds, scope.names.lookup y.1 = some .local)
    (h : ∀ g L' h₁, Fr h₀ L g m → Fr g L' h₁ (fun y => binds.reverse.lookup y) → News g L' h₁ rel → Below A base [env] g → K.In g → Top p loose mean mg mb g → RestIn h₀ L g rest → (∀ p ∈ rel, p.1 < L') → KtsDicts [L] g →
      wpAny (model prog w) (A.deeper (envOf qual scope L' f cdv)) (execs body (envOf qual scope L' f cdv))
        (fun fl s' => LeaveS0 [L] h₀ L m g R (match fl with | .ret v => v | _ => .none) s')
        (fun e s' => wpAny (model prog w) (A.deeper (envOf qual scope L' f cdv)) (leaving (envOf qual scope L' f cdv) e) (fun _ s'' => R (.error e) s'') (fun e' s'' => R (.error e') s'') s')
        { s with heap := h₁, toks := s.toks + binds.length })
    (hco : scope.isCoroutine = false) (hgen : scope.isGenerator = false) (hk : scope.kind = .function)
    (hcell : ∀ x ∈ scope.names, x.2 ≠ .cell) : codeAny (model prog w) A (.call (.ref f) args) R s := by
  obtain ⟨FG, BG, st, _⟩ := groundX (R := R) B F N hA hf hke
  obtain ⟨oL, es, ep, hLg, hLd, hLk, hLf⟩ := id FG.ns
  refine codeAny_call_def (fd := fnOf name qual params body scope dV kV doc pm an cdv ct) (body := body) (binds := binds) hroom ((X₀.keeps F.keep) _ _ ho) rfl (T.nolimit.keeps F.keep) (codeRec_of (X₀.keeps F.keep) hcd) rfl hbind hcell hloc (fun h₁ hns hk₁ => ?_) hco hgen hk
  refine wpAny_mono (h _ s.heap.objs.size h₁ FG ⟨hns, fun b o e => hk₁ b o (of_hideAll _ e), Nat.le_of_eq (hideAll_size _ _)⟩
    (fun q hq => ⟨hk₁ _ _ (N q hq).1, Nat.ne_of_lt (Heap.lt_size (N q hq).1), hideAll_none _ (List.mem_map_of_mem hq)⟩) BG (X₀.keeps st) (T.keeps st) (rest_hide NR hx) (fun q hq => Heap.lt_size (N q hq).1) (ktsDicts_of FG)) (fun fl s' hl => ?_) fun _ _ y => y
  obtain ⟨g', L', m', news', T', F', N', k⟩ := hl
  have nL₀ : h₀.get? L = none := kts_self F
  obtain ⟨sl, hs⟩ := T'.up hLg
  refine k ⟨⟨_, es, ep, F'.keep _ _ hs, hLd, hLk, hLf⟩, fun b o e => F'.keep b o (T'.other b o (st b o e) (fun q => by
    rw [List.mem_singleton.mp q, nL₀] at e
    cases e)), F.above⟩ fun p hp => ⟨(N' p hp).1, fun q => ?_, ?_⟩
  · have := (N' p hp).2.2; rw [q, hs] at this; cases this
  · cases q : h₀.get? p.1 with
    | none => rfl
    | some o =>
      obtain ⟨sl', hs'⟩ := T'.up (st _ _ q)
      have := (N' p hp).2.2
      rw [hs'] at this
      cases this
end

end

section
theorem wordsSInitb : True := by
  w_top off
  k_with_none
  (k_with "exec For Name Subscript cons nil" => (k_here; (rename Fr _ _ _ _ => lF'); (with_unfolding_all refine For_invVF lF' (by exact rfl) (by exact rfl) ?_; k_whole)))
  (k_with "call ref" => (k_here; k_dflt (first | (refine call_meth (by k_asm) (by k_mem) ?_; k_whole; (first | ((first | with_reducible refine code_defO (by k_dflt (exact rfl)) (by k_dflt (exact rfl)) (by k_dflt (first | exact rfl | assumption)) (by k_dflt (k_asm)) (by k_dflt (k_asm)) (by k_dflt (k_asm)) (by k_dflt (k_asm)) (by k_dflt (k_asm)) (by k_dflt (k_is)) (by k_dflt (k_is)) (by k_dflt (ktr_room)) (by k_dflt (first | exact BindsTo.of_eq rfl | exact binds_K (by k_in) rfl (by k_is) rfl rfl rfl)) (by k_dflt (decide)) (by k_dflt (exact locs rfl)) (by k_dflt (exact rfl)) (by k_dflt (exact rfl)) (by k_dflt (exact rfl)) ?_ | refine code_defO (by exact rfl) (by exact rfl) (by first | exact rfl | assumption) (by k_asm) (by k_asm) (by k_asm) (by k_asm) (by k_asm) (by k_is) (by k_is) (by ktr_room) (by first | exact BindsTo.of_eq rfl | exact binds_K (by k_in) rfl (by k_is) rfl rfl rfl) (by decide) (by exact locs rfl) (by exact rfl) (by exact rfl) (by exact rfl) ?_); k_whole; intro g' L' h' FG' F' N' B' X' T'; (try dsimp only); (try k_lift B'); (try k_fold)) | ((first | with_reducible refine code_defCO (by k_dflt (exact rfl)) (by k_dflt (exact rfl)) (by k_dflt (first | exact rfl | assumption)) (by k_dflt (k_asm)) (by k_dflt (k_asm)) (by k_dflt (k_asm)) (by k_dflt (k_asm)) (by k_dflt (k_asm)) (by k_dflt (k_is)) (by k_dflt (k_is)) (by k_dflt (ktr_room)) (by k_dflt (first | exact BindsTo.of_eq rfl | exact binds_K (by k_in) rfl (by k_is) rfl rfl rfl)) (by k_dflt (exact rfl)) (by k_dflt (decide +kernel)) (by k_dflt (exact rfl)) (by k_dflt (exact rfl)) (by k_dflt (exact rfl)) ?_ | refine code_defCO (by exact rfl) (by exact rfl) (by first | exact rfl | assumption) (by k_asm) (by k_asm) (by k_asm) (by k_asm) (by k_asm) (by k_is) (by k_is) (by ktr_room) (by first | exact BindsTo.of_eq rfl | exact binds_K (by k_in) rfl (by k_is) rfl rfl rfl) (by exact rfl) (by decide +kernel) (by exact rfl) (by exact rfl) (by exact rfl) ?_); k_whole; intro g' L' h' tk' cells' FG' F' N' Y' B' X' T' l1; (try k_lt l1); k_cells Y'; (try simp only [List.cons_append, List.nil_append] at N'); (try dsimp only); (try k_lift B'); (try k_fold)))) | ((first | with_reducible refine call_cls (by k_dflt (k_asm)) (by k_dflt (k_asm)) (by k_dflt (k_asm)) (by k_dflt (k_is)) (by k_dflt (k_is)) (by k_dflt (k_is)) ?_ | refine call_cls (by k_asm) (by k_asm) (by k_asm) (by k_is) (by k_is) (by k_is) ?_); k_whole; intro x' d' h' F' N' l1 l2; (try k_lt l1); (try k_lt2 l2); (try k_sweep); (first | ((first | with_reducible refine code_defO (by k_dflt (exact rfl)) (by k_dflt (exact rfl)) (by k_dflt (first | exact rfl | assumption)) (by k_dflt (k_asm)) (by k_dflt (k_asm)) (by k_dflt (k_asm)) (by k_dflt (k_asm)) (by k_dflt (k_asm)) (by k_dflt (k_is)) (by k_dflt (k_is)) (by k_dflt (ktr_room)) (by k_dflt (first | exact BindsTo.of_eq rfl | exact binds_K (by k_in) rfl (by k_is) rfl rfl rfl)) (by k_dflt (decide)) (by k_dflt (exact locs rfl)) (by k_dflt (exact rfl)) (by k_dflt (exact rfl)) (by k_dflt (exact rfl)) ?_ | refine code_defO (by exact rfl) (by exact rfl) (by first | exact rfl | assumption) (by k_asm) (by k_asm) (by k_asm) (by k_asm) (by k_asm) (by k_is) (by k_is) (by ktr_room) (by first | exact BindsTo.of_eq rfl | exact binds_K (by k_in) rfl (by k_is) rfl rfl rfl) (by decide) (by exact locs rfl) (by exact rfl) (by exact rfl) (by exact rfl) ?_); k_whole; intro g' L' h' FG' F' N' B' X' T'; (try dsimp only); (try k_lift B'); (try k_fold)) | ((first | with_reducible refine code_defCO (by k_dflt (exact rfl)) (by k_dflt (exact rfl)) (by k_dflt (first | exact rfl | assumption)) (by k_dflt (k_asm)) (by k_dflt (k_asm)) (by k_dflt (k_asm)) (by k_dflt (k_asm)) (by k_dflt (k_asm)) (by k_dflt (k_is)) (by k_dflt (k_is)) (by k_dflt (ktr_room)) (by k_dflt (first | exact BindsTo.of_eq rfl | exact binds_K (by k_in) rfl (by k_is) rfl rfl rfl)) (by k_dflt (exact rfl)) (by k_dflt (decide +kernel)) (by k_dflt (exact rfl)) (by k_dflt (exact rfl)) (by k_dflt (exact rfl)) ?_ | refine code_defCO (by exact rfl) (by exact rfl) (by first | exact rfl | assumption) (by k_asm) (by k_asm) (by k_asm) (by k_asm) (by k_asm) (by k_is) (by k_is) (by ktr_room) (by first | exact BindsTo.of_eq rfl | exact binds_K (by k_in) rfl (by k_is) rfl rfl rfl) (by exact rfl) (by decide +kernel) (by exact rfl) (by exact rfl) (by exact rfl) ?_); k_whole; intro g' L' h' tk' cells' FG' F' N' Y' B' X' T' l1; (try k_lt l1); k_cells Y'; (try simp only [List.cons_append, List.nil_append] at N'); (try dsimp only); (try k_lift B'); (try k_fold)))) | ((first | with_reducible refine wpAny_call ?_ | refine wpAny_call ?_); (first | ((first | with_reducible refine code_defO (by k_dflt (exact rfl)) (by k_dflt (exact rfl)) (by k_dflt (first | exact rfl | assumption)) (by k_dflt (k_asm)) (by k_dflt (k_asm)) (by k_dflt (k_asm)) (by k_dflt (k_asm)) (by k_dflt (k_asm)) (by k_dflt (k_is)) (by k_dflt (k_is)) (by k_dflt (ktr_room)) (by k_dflt (first | exact BindsTo.of_eq rfl | exact binds_K (by k_in) rfl (by k_is) rfl rfl rfl)) (by k_dflt (decide)) (by k_dflt (exact locs rfl)) (by k_dflt (exact rfl)) (by k_dflt (exact rfl)) (by k_dflt (exact rfl)) ?_ | refine code_defO (by exact rfl) (by exact rfl) (by first | exact rfl | assumption) (by k_asm) (by k_asm) (by k_asm) (by k_asm) (by k_asm) (by k_is) (by k_is) (by ktr_room) (by first | exact BindsTo.of_eq rfl | exact binds_K (by k_in) rfl (by k_is) rfl rfl rfl) (by decide) (by exact locs rfl) (by exact rfl) (by exact rfl) (by exact rfl) ?_); k_whole; intro g' L' h' FG' F' N' B' X' T'; (try dsimp only); (try k_lift B'); (try k_fold)) | ((first | with_reducible refine code_defCO (by k_dflt (exact rfl)) (by k_dflt (exact rfl)) (by k_dflt (first | exact rfl | assumption)) (by k_dflt (k_asm)) (by k_dflt (k_asm)) (by k_dflt (k_asm)) (by k_dflt (k_asm)) (by k_dflt (k_asm)) (by k_dflt (k_is)) (by k_dflt (k_is)) (by k_dflt (ktr_room)) (by k_dflt (first | exact BindsTo.of_eq rfl | exact binds_K (by k_in) rfl (by k_is) rfl rfl rfl)) (by k_dflt (exact rfl)) (by k_dflt (decide +kernel)) (by k_dflt (exact rfl)) (by k_dflt (exact rfl)) (by k_dflt (exact rfl)) ?_ | refine code_defCO (by exact rfl) (by exact rfl) (by first | exact rfl | assumption) (by k_asm) (by k_asm) (by k_asm) (by k_asm) (by k_asm) (by k_is) (by k_is) (by ktr_room) (by first | exact BindsTo.of_eq rfl | exact binds_K (by k_in) rfl (by k_is) rfl rfl rfl) (by exact rfl) (by decide +kernel) (by exact rfl) (by exact rfl) (by exact rfl) ?_); k_whole; intro g' L' h' tk' cells' FG' F' N' Y' B' X' T' l1; (try k_lt l1); k_cells Y'; (try simp only [List.cons_append, List.nil_append] at N'); (try dsimp only); (try k_lift B'); (try k_fold)))))))
  (k_with "execs cons" => (k_here; (with_reducible (refine gen_toks ?_)); intro tk))
  (k_with "execs nil" => (k_here; (with_reducible (refine gen_toks ?_)); intro tk))
  (k_with "call builtin:list.append" => (k_here; k_dflt ((first | with_reducible refine app_K (by k_dflt (k_asm)) (by k_dflt (k_asm)) (by k_dflt (k_updF)) (by k_dflt ((simp only [List.length_append, List.length_cons, List.length_nil]; omega))) ?_ | refine app_K (by k_asm) (by k_asm) (by k_updF) (by (simp only [List.length_append, List.length_cons, List.length_nil]; omega)) ?_)); intro h' F' N'; (try dsimp only at N'); (try dsimp only)))
  (k_with "call ref" => (k_here; k_dflt (((with_reducible show wpAny _ _ (call (Value.ref 85) _) _ _ _); first | with_reducible refine abe (by k_dflt (k_asm)) (by k_dflt (k_asm)) (by k_dflt (k_asm)) (by k_dflt (k_asm)) (by k_dflt (k_asm)) (by k_dflt (first | exact rfl | assumption)) (by k_dflt (ktr_room)) (by k_dflt (ktr_units)) (by k_dflt (assumption)) (by k_dflt (omega)) (by k_dflt (omega)) (by k_dflt (omega)) (by k_dflt (omega)) ?_ | refine abe (by k_asm) (by k_asm) (by k_asm) (by k_asm) (by k_asm) (by first | exact rfl | assumption) (by ktr_room) (by ktr_units) (by assumption) (by omega) (by omega) (by omega) (by omega) ?_); k_whole); intro t9 h9 tk9 F9 N9; (try dsimp only); (try k_fold)))
  (k_with "compareOp Lt bytes bytes" => refine lt_bytes ?_)
  (k_with "compareOp LtE bytes bytes" => refine le_bytes ?_)
  (k_with "subscriptTail" => (k_here; (with_reducible show wpAny _ _ (subscriptTail _ _ (Value.ref _) (Value.str _ _)) _ _ _); k_dflt ((first | with_reducible refine kda_item (knd := PySem.strKind _ _) (by k_dflt (k_asm)) (by k_dflt (k_mem)) (by k_dflt (k_asm)) (strKind_is _ _ _ _) (by k_dflt (rfl)) ?_ | refine kda_item (knd := PySem.strKind _ _) (by k_asm) (by k_mem) (by k_asm) (strKind_is _ _ _ _) (by rfl) ?_))))
  (k_with "subscriptTail" => (k_here; (with_reducible show wpAny _ _ (subscriptTail _ _ (Value.ref _) (Value.bytes _ _)) _ _ _); k_dflt ((first | with_reducible refine kda_item (knd := PySem.W.bytesKind _ _) (by k_dflt (k_asm)) (by k_dflt (k_mem)) (by k_dflt (k_asm)) (bytesKind_at _ _ _ _) (by k_dflt (first | exact value_one _ _ | rfl)) ?_ | refine kda_item (knd := PySem.W.bytesKind _ _) (by k_asm) (by k_mem) (by k_asm) (bytesKind_at _ _ _ _) (by first | exact value_one _ _ | rfl) ?_))))
  (k_with "setItem ref str" => (k_here; k_dflt ((first | with_reducible refine kda_set (knd := PySem.strKind _ _) (by k_dflt (k_asm)) (by k_dflt (k_asm)) (by k_dflt (k_updF)) (by k_dflt (k_asm)) (strKind_is _ _ _ _) (by k_dflt (rw [sizeLine_eq]; exact Nat.le_of_ble_eq_true (by with_unfolding_all rfl))) ?_ | refine kda_set (knd := PySem.strKind _ _) (by k_asm) (by k_asm) (by k_updF) (by k_asm) (strKind_is _ _ _ _) (by rw [sizeLine_eq]; exact Nat.le_of_ble_eq_true (by with_unfolding_all rfl)) ?_)); intro h' o' F' N' hd'; (try dsimp only at N'); (try rw [stored_mixed] at hd'); (try rw [stored_nil] at hd')))
  (k_with "compareOp NotIn bytes ref" => (k_here; k_dflt ((first | with_reducible refine notin_bytes (by k_dflt (k_asm)) (by k_dflt (k_mem)) (by k_dflt (k_asm)) (by k_dflt (k_asm)) (by k_dflt (first | rfl | exact value_is _ _)) ?_ | refine notin_bytes (by k_asm) (by k_mem) (by k_asm) (by k_asm) (by first | rfl | exact value_is _ _) ?_))))
  (k_with "setItem ref bytes" => (k_here; k_dflt ((first | with_reducible refine kda_set (knd := PySem.W.bytesKind _ _) (by k_dflt (k_asm)) (by k_dflt (k_asm)) (by k_dflt (k_updF)) (by k_dflt (k_asm)) (bytesKind_at _ _ _ _) (by k_dflt (rw [sizeLine_eq]; exact Nat.le_of_ble_eq_true (by with_unfolding_all rfl))) ?_ | refine kda_set (knd := PySem.W.bytesKind _ _) (by k_asm) (by k_asm) (by k_updF) (by k_asm) (bytesKind_at _ _ _ _) (by rw [sizeLine_eq]; exact Nat.le_of_ble_eq_true (by with_unfolding_all rfl)) ?_)); intro h' o' F' N' hd'; (try dsimp only at N'); (try rw [stored_mixed] at hd'); (try rw [stored_nil] at hd')))
  (k_with "call builtin:len" => (k_here; (with_reducible show wpAny _ _ (call (Value.builtin "len") [Value.ref _]) _ _ _); k_dflt ((first | with_reducible refine kda_len (knd := PySem.W.bytesKind _ _) (by k_dflt (k_asm)) (by k_dflt (k_mem)) (by k_dflt (k_asm)) (by k_dflt (k_asm)) (Nat.le_of_ble_eq_true (by with_unfolding_all rfl)) ?_ | refine kda_len (knd := PySem.W.bytesKind _ _) (by k_asm) (by k_mem) (by k_asm) (by k_asm) (Nat.le_of_ble_eq_true (by with_unfolding_all rfl)) ?_))))
  (k_with "call type:bytes" => (k_here; (with_reducible show wpAny _ _ (call (Value.type "bytes") [Value.bytes _ _]) _ _ _); (refine call_bytesB ?_)))
  (k_with "LeaveK" => ((try ((rename RestIn _ _ _ _ => rI); (rename Fr _ _ _ _ => lF'); (have rJ := RestIn.keeps rI lF'); (try ((rename News _ _ _ _ => lN'); (have rK := RestIn.apart rI lN'))))); (k_dflt ((first | with_reducible refine leaveK_ (by k_dflt (k_asm)) (by k_dflt (k_asm)) ?_ | refine leaveK_ (by k_asm) (by k_asm) ?_); k_whole); intro kF kN; ground_anew kF; (have kX := kFor kF (by k_asm)); (try dsimp only [InitBack, CmpBack, LenBack, StrBack, BoolBack]); (try refine ⟨rfl, ?_⟩); (try dsimp only [CmpBack, LenBack, StrBack, BoolBack]); (try (refine ⟨⟨by omega, by omega⟩, ?_⟩)); (try (refine handed_on rfl ?_; try dsimp only)))))
  (k_with "setAttr ref" => (k_here; k_dflt ((first | with_reducible refine exc_set (K := Mine.hd.heap_1 _) (by k_dflt (k_asm)) (by k_dflt (k_asm)) (by k_dflt (k_asm)) (by k_dflt ((intro p hp; first | exact nomatch hp))) (by k_dflt (k_is)) (by k_dflt (k_is)) (by k_dflt ((intro self; exact PySem.F.store_Exception.passes self))) (by k_dflt (decide)) (by k_dflt (decide)) (by k_dflt (exact rfl)) (by k_dflt (k_is)) ?_ | refine exc_set (K := Mine.hd.heap_1 _) (by k_asm) (by k_asm) (by k_asm) (by (intro p hp; first | exact nomatch hp)) (by k_is) (by k_is) (by (intro self; exact PySem.F.store_Exception.passes self)) (by decide) (by decide) (by exact rfl) (by k_is) ?_); intro h' D oD tk F' N' hpD hDe); (try dsimp only)))
  (k_with "call ref" => (k_here; k_dflt (((with_reducible show wpAny _ _ (call (Value.ref 64) _) _ _ _); first | with_reducible refine badpack (by k_dflt (k_asm)) (by k_dflt (k_asm)) (by k_dflt (k_asm)) (by k_dflt (k_asm)) (by k_dflt (first | exact rfl | assumption)) (by k_dflt (ktr_room)) (by k_dflt (ktr_units)) (by k_dflt (k_asm)) ?_ | refine badpack (by k_asm) (by k_asm) (by k_asm) (by k_asm) (by first | exact rfl | assumption) (by ktr_room) (by ktr_units) (by k_asm) ?_); k_whole); intro e9 t9 d9 o9 h9 tk9 F9 N9; (try dsimp only); (try k_fold)))
  (k_with "exec Raise some none" => (k_here; k_dflt ((first | with_reducible refine Raise_x (K := Mine.hd.heap_1 _) (C := 64) (by k_dflt (k_asm)) (by k_dflt (k_is)) (by k_dflt (decide)) (by k_dflt (first | exact rfl | assumption)) ?_ | refine Raise_x (K := Mine.hd.heap_1 _) (C := 64) (by k_asm) (by k_is) (by decide) (by first | exact rfl | assumption) ?_); k_whole)))
  (k_with "RaisableX" => (k_here; k_dflt ((first | with_reducible refine raisable_x (by k_dflt (k_asm)) (by k_dflt (k_asm)) ?_ | refine raisable_x (by k_asm) (by k_asm) ?_); k_whole)))
  (k_with "leaving ref" => (k_here; k_dflt ((first | with_reducible refine leave_X (by k_dflt (assumption)) (by k_dflt (k_asm)) (by k_dflt (k_asm)) ?_ (by k_dflt (exact rfl)) | refine leave_X (by assumption) (by k_asm) (by k_asm) ?_ (by exact rfl)); k_whole); intro h' R' U'; (try dsimp only at R' U' ⊢)))
  (k_with "binaryOp Mult ref int" => (k_here; (with_reducible show wpAny _ _ (binaryOp Operator.Mult (Value.ref _) (Value.int _ _)) _ _ _); k_dflt ((first | with_reducible refine zeros_K (by k_dflt (k_asm)) (by k_dflt (k_asm)) (by k_dflt (k_mem)) ?_ | refine zeros_K (by k_asm) (by k_asm) (by k_mem) ?_)); intro D' h' ws' F' N' l1 i1; (try k_lt l1)))
  (k_with "subscriptTail" => (k_here; (with_reducible show wpAny _ _ (subscriptTail _ _ (Value.bytes _ _) (Value.int 0 _)) _ _ _); k_dflt ((first | with_reducible refine oid0 ?_ | refine oid0 ?_)); intro _ _))
  (k_with "getItem ref int" => (k_here; k_dflt ((first | with_reducible refine cnt_item (by k_dflt (k_asm)) (by k_dflt (k_mem)) (by k_dflt (assumption)) ?_ | refine cnt_item (by k_asm) (by k_mem) (by assumption) ?_)); intro _))
  (k_with "setItem ref int" => (k_here; k_dflt ((first | with_reducible refine cnt_store (by k_dflt (k_asm)) (by k_dflt (k_asm)) (by k_dflt (k_updF)) (by k_dflt (assumption)) ?_ | refine cnt_store (by k_asm) (by k_asm) (by k_updF) (by assumption) ?_)); intro h' ws' F' N' hi'; (try dsimp only at N')))
  (k_with "subscriptTail Name Name ref int" => (k_here; k_dflt (first | ((first | with_reducible refine cnt_sub (by k_dflt (k_asm)) (by k_dflt (k_mem)) (by k_dflt (assumption)) (by k_dflt (omega)) (by k_dflt (omega)) ?_ | refine cnt_sub (by k_asm) (by k_mem) (by assumption) (by omega) (by omega) ?_); intro t9 x9 f9) | ((first | with_reducible refine fan_sub (by k_dflt (k_asm)) (by k_dflt (k_mem)) (by k_dflt (assumption)) (by k_dflt (omega)) (by k_dflt (omega)) ?_ | refine fan_sub (by k_asm) (by k_mem) (by assumption) (by omega) (by omega) ?_); intro t9 x9 f9))))
  (k_with "call ref" => (k_here; k_dflt (((with_reducible show wpAny _ _ (call (Value.ref 71) _) _ _ _); first | with_reducible refine be4 (by k_dflt (k_asm)) (by k_dflt (k_asm)) (by k_dflt (k_asm)) (by k_dflt (k_asm)) (by k_dflt (k_asm)) (by k_dflt (first | exact rfl | assumption)) (by k_dflt (ktr_room)) (by k_dflt (ktr_units)) (by k_dflt (first | exact .inl rfl | exact .inr rfl)) ?_ | refine be4 (by k_asm) (by k_asm) (by k_asm) (by k_asm) (by k_asm) (by first | exact rfl | assumption) (by ktr_room) (by ktr_units) (by first | exact .inl rfl | exact .inr rfl) ?_); k_whole); intro b9 t9 h9 tk9 hb9 F9 N9; (try dsimp only); (try k_fold)))
  (k_with "call ref" => (k_here; k_dflt (((with_reducible show wpAny _ _ (call (Value.ref 121) _) _ _ _); first | with_reducible refine dig2c (by k_dflt (k_asm)) (by k_dflt (k_asm)) (by k_dflt (k_asm)) (by k_dflt (k_asm)) (by k_dflt (k_asm)) (by k_dflt (first | exact rfl | assumption)) (by k_dflt (ktr_room)) (by k_dflt (ktr_units)) (by k_dflt (assumption)) (by k_dflt (assumption)) (by k_dflt (assumption)) ?_ | refine dig2c (by k_asm) (by k_asm) (by k_asm) (by k_asm) (by k_asm) (by first | exact rfl | assumption) (by ktr_room) (by ktr_units) (by assumption) (by assumption) (by assumption) ?_); k_whole); intro b9 t9 h9 tk9 hb9 F9 N9; (try dsimp only); (try k_fold)))
  (k_with "call ref" => (k_here; k_dflt (((with_reducible show wpAny _ _ (call (Value.ref 161) _) _ _ _); first | with_reducible refine plc (by k_dflt (k_asm)) (by k_dflt (k_asm)) (by k_dflt (k_asm)) (by k_dflt (k_asm)) (by k_dflt (first | exact rfl | assumption)) (by k_dflt (ktr_room)) (by k_dflt (ktr_units)) (by k_dflt (k_asm)) (by k_dflt (assumption)) (by k_dflt (omega)) (by k_dflt (omega)) (by k_dflt (omega)) (by k_dflt (omega)) (by k_dflt (omega)) (by k_dflt (omega)) (by k_dflt (omega)) (by k_dflt (omega)) ?_ ?_ | refine plc (by k_asm) (by k_asm) (by k_asm) (by k_asm) (by first | exact rfl | assumption) (by ktr_room) (by ktr_units) (by k_asm) (by assumption) (by omega) (by omega) (by omega) (by omega) (by omega) (by omega) (by omega) (by omega) ?_ ?_); k_whole); (all_goals (intros; (try dsimp only); (try k_fold)))))
  (k_with "call ref" => (k_here; k_dflt (((with_reducible show wpAny _ _ (call (Value.ref 154) _) _ _ _); first | with_reducible refine chkW (by k_dflt (k_asm)) (by k_dflt (k_asm)) (by k_dflt (k_asm)) (by k_dflt (k_asm)) (by k_dflt (first | exact rfl | assumption)) (by k_dflt (ktr_room)) (by k_dflt (ktr_units)) (by k_dflt (k_asm)) (by k_dflt (k_mem)) (by k_dflt (k_mem)) (by k_dflt (first | with_reducible assumption | (refine Ne.symm ?_; with_reducible assumption) | omega)) (by k_dflt (omega)) (by k_dflt (omega)) (by k_dflt (assumption)) (by k_dflt (assumption)) (by k_dflt (assumption)) ?_ | refine chkW (by k_asm) (by k_asm) (by k_asm) (by k_asm) (by first | exact rfl | assumption) (by ktr_room) (by ktr_units) (by k_asm) (by k_mem) (by k_mem) (by first | with_reducible assumption | (refine Ne.symm ?_; with_reducible assumption) | omega) (by omega) (by omega) (by assumption) (by assumption) (by assumption) ?_); k_whole); intro h9 tk9 F9 N9; (try dsimp only); (try k_fold)))
  trivial
theorem units_under_make (A : Around) (C : Addr) (vals : List Value) : (A.under (.builtin "type.__call__" ⟨.ref C :: vals, []⟩)).units = A.units + 1 := rfl
local macro_rules | `(tactic| ktr_units) => `(tactic| ((try simp only [units_under_make, units_in1, units_deeper, Around.mark_units, units_caller]); (try dsimp only [ktrTop]); (have hcL9 := cLine_is); omega))
section
variable {prog : Program} {w : World} {A : Around} {E : Value → Shared → Prop} {s : Shared} {b : Array UInt8} {t u : Tok} {ks : List Int} {j : Nat}
theorem eq_mark {Q : Value → Shared → Prop} (hb : KBw.bInts b = List.take j ks) (hm : List.take j ks = [255, 116, 79, 99]) (h : Q (.bool true) s) : wpAny (model prog w) A (compareOp .Eq (.bytes b t) (.bytes #[255, 116, 79, 99] u)) Q E s := by
  have e : b = #[255, 116, 79, 99] := bInts_inj ((hb.trans hm).trans (by decide))
  subst e
  refine eq_bytes ?_
  exact h
end
theorem wordsSInitc : True := by
  (k_with "compareOp Eq bytes bytes" => (k_here; k_dflt ((first | with_reducible refine eq_mark (by k_dflt (assumption)) (by k_dflt (assumption)) ?_ | refine eq_mark (by assumption) (by assumption) ?_)); (try dsimp only)))
  trivial


noncomputable def AllNe (d : Addr) : List (Addr × Obj) → Prop
  | [] => True
  | p :: l => @Ne Nat p.1 d ∧ AllNe d l
theorem allNe_of {d : Addr} : ∀ {l : List (Addr × Obj)}, (∀ p ∈ l, p.1 ≠ d) → AllNe d l
  | [], _ => trivial
  | _ :: _, h => ⟨h _ (.head _), allNe_of fun p hp => h p (.tail _ hp)⟩
theorem fan_last {h₀ : Heap} {L D : Addr} {s : Shared} {news : List (Addr × Obj)} {vs : List Value} {nn : Nat} {u : Tok} {prog : Program} {w : World} {A : Around} {E : Value → Shared → Prop} {c k : Int} {value slice : PySem.Expr} {Q : Value → Shared → Prop} (N : News h₀ L s.heap news) (hm : (D, listOf vs.toArray nn) ∈ news) (hi : IntsAre vs (fanL c)) (hk : k = 255) (h : ∀ t, Q (.int c t) s)
    (hs : subscripted slice false (.ref D) (.int k u) = operate [.ref D, .int k u] (getItem (.ref D) (.int k u)) := by with_unfolding_all rfl) :
    wpAny (model prog w) A (subscriptTail value slice (.ref D) (.int k u)) Q E s :=
  fan_sub N hm hi (by omega) (by omega) (fun t x hx => by
    rcases hx with ⟨e, _⟩ | ⟨_, e⟩
    · exact absurd (hk.symm.trans e) (by decide)
    · rw [e]; exact h t) hs
theorem wordsSInitd : True := by
  (k_with "subscriptTail" => (k_here; (with_reducible show wpAny _ _ (subscriptTail _ _ (Value.ref _) (Value.int _ _)) _ _ _); k_dflt ((first | with_reducible refine fan_last (by k_dflt (k_asm)) (by k_dflt (k_mem)) (by k_dflt (assumption)) (by k_dflt (with_unfolding_all rfl)) ?_ | refine fan_last (by k_asm) (by k_mem) (by assumption) (by with_unfolding_all rfl) ?_)); intro t9))
  trivial

theorem wordsSInite : True := by
  (k_with "subscriptTail Attribute BinOp ref int" => (k_here; (with_reducible show wpAny _ _ (subscriptTail _ _ (Value.ref _) (Value.int _ _)) _ _ _); k_dflt ((first | with_reducible refine fan_last (by k_dflt (k_asm)) (by k_dflt (k_mem)) (by k_dflt (assumption)) (by k_dflt (with_unfolding_all rfl)) ?_ | refine fan_last (by k_asm) (by k_mem) (by assumption) (by with_unfolding_all rfl) ?_)); intro t9))
  trivial

theorem init_split {h₀ h : Heap} {L x dx : Addr} {o d : Obj} {rel rest : List (Addr × Obj)} (N : News h₀ L h ((x, o) :: (dx, d) :: (rel ++ rest))) (hx : Apart rel rest) (hl : ∀ p ∈ rel ++ rest, p.1 < dx) (hl' : dx < x) :
    News h₀ L h ((x, o) :: (dx, d) :: rel) ∧ News h₀ L h rest ∧ Apart ((x, o) :: (dx, d) :: rel) rest ∧ (∀ p ∈ rel, @LT.lt Nat _ p.1 dx) := by
  refine ⟨fun p hp => N p ?_, fun p hp => N p (.tail _ (.tail _ (List.mem_append_right _ hp))), fun p hp hq => ?_, fun p hp => hl p (List.mem_append_left _ hp)⟩
  · rcases List.mem_cons.mp hp with e | hp
    · rw [e]; exact .head _
    rcases List.mem_cons.mp hp with e | hp
    · rw [e]; exact .tail _ (.head _)
    · exact .tail _ (.tail _ (List.mem_append_left _ hp))
  · have lt := hl p (List.mem_append_right _ hp)
    rcases List.mem_cons.mp hq with e | hq
    · have e' : p.1 = x := e
      rw [e'] at lt; exact Nat.lt_irrefl _ (Nat.lt_trans lt hl')
    rcases List.mem_cons.mp hq with e | hq
    · have e' : p.1 = dx := e
      rw [e'] at lt; exact Nat.lt_irrefl _ lt
    · exact hx p hp hq
section
variable {w : World} {p : Program} {loose : List Str} {mean : ExcName → Option Value} {mg mb : Str → Option Value}
  {dp un : Nat} {gd : Option (List Code)} {cn : Str} {cs : Scope} {a : Addr} {ccd : Value} {cl : List (Str × Addr)} {outer : List Env} {A₀ : Around} {base h₀ : Heap} {L : Addr} {m : Str → Option Value} {s : Shared} {Q E : Value → Shared → Prop}

theorem chksumW {x dx : Addr} {o d : Obj} {hI hD kD : Addr} {h1 h2 : Int} {t1 t2 t3 tO t0 : Tok} {oK : Obj} {oct c : Array UInt8} {ks : List Int}
    (B : Below A₀ base outer h₀) (F : Fr h₀ L s.heap m) (X : (hd.heap_1 w.params).In h₀) (T : Top p loose mean mg mb h₀) (hk : cs.kind = .function)
    (hd : dp + 8 < recursionLimit) (hu : un + 200 < cLine)
    (N : News h₀ L s.heap ((x, o) :: (dx, d) :: hashRel hI hD kD h1 h2 t1 t2 t3 oK)) (hlt : ∀ p ∈ hashRel hI hD kD h1 h2 t1 t2 t3 oK, @LT.lt Nat _ p.1 dx) (hl' : @LT.lt Nat _ dx x)
    (hlo : (kD == sysModules) = false) (hK : oK.IsDictOf (PySem.W.bytesKind PySem.Challenge.rw_nt0280_01.row.prog w) [(c.toList, .int 1 t0)])
    (hb : KBw.bInts oct = ks) (h3 : ks.length ≤ 100000) (hks : ks = KBw.bInts c ++ [0, 0, 0, 1]) (h5 : 4 ≤ ks.length)
    (ret : ∀ (h' : Heap) (tk' : Nat), Fr h₀ L h' m → News h₀ L h' ((x, o) :: (dx, d) :: hashRel hI hD kD h1 h2 t1 t2 t3 oK) → Q .none { s with heap := h', toks := tk' }) :
    wpAny (model PySem.Challenge.rw_nt0280_01.row.prog w) (ktrTop dp un gd cn cs L a ccd cl outer) (call (.ref 168) [.bytes oct tO, .ref hI]) Q E s := by
  refine chksum (news := [(x, o), (dx, d)]) B F X T hk hd hu (fun p hp => N p (.tail _ (.tail _ hp))) (fun p hp => N p ?_) (fun p hp hq => ?_) hlo hK hb h3 hks h5 fun h' tk' F' N' => ret h' tk' F' fun p hp => N' p ?_
  · rcases List.mem_cons.mp hp with e | e
    · rw [e]; exact .head _
    · rw [List.mem_singleton.mp e]; exact .tail _ (.head _)
  · obtain ⟨q, hq, e⟩ := List.mem_map.mp hq
    have lt := hlt q hq
    rcases List.mem_cons.mp hp with e' | e'
    · rw [e, e'] at lt; exact Nat.lt_irrefl _ (Nat.lt_trans lt hl')
    · rw [e, List.mem_singleton.mp e'] at lt; exact Nat.lt_irrefl _ lt
  · rcases List.mem_cons.mp hp with e | hp
    · rw [e]; exact List.mem_append_right _ (.head _)
    rcases List.mem_cons.mp hp with e | hp
    · rw [e]; exact List.mem_append_right _ (.tail _ (.head _))
    · exact List.mem_append_left _ hp
end
theorem wordsSInitf : True := by
  (k_with "call ref" => (k_here; k_dflt (((with_reducible show wpAny _ _ (call (Value.ref 168) _) _ _ _); first | with_reducible refine chksumW (by k_dflt (k_asm)) (by k_dflt (k_asm)) (by k_dflt (k_asm)) (by k_dflt (k_asm)) (by k_dflt (first | exact rfl | assumption)) (by k_dflt (ktr_room)) (by k_dflt (ktr_units)) (by k_dflt (k_asm)) (by k_dflt (assumption)) (by k_dflt (assumption)) (by k_dflt (assumption)) (by k_dflt (assumption)) (by k_dflt (assumption)) (by k_dflt (assumption)) (by k_dflt (assumption)) (by k_dflt (omega)) ?_ | refine chksumW (by k_asm) (by k_asm) (by k_asm) (by k_asm) (by first | exact rfl | assumption) (by ktr_room) (by ktr_units) (by k_asm) (by assumption) (by assumption) (by assumption) (by assumption) (by assumption) (by assumption) (by assumption) (by omega) ?_); k_whole); intro h9 tk9 F9 N9; (dsimp only [hashRel] at N9); (try dsimp only); (try k_fold)))
  trivial

theorem wordsSInitg : True := by
  (k_with "call ref" => (k_here; k_dflt (((with_reducible show wpAny _ _ (call (Value.ref 142) _) _ _ _); first | with_reducible refine fan (by k_dflt (k_asm)) (by k_dflt (k_asm)) (by k_dflt (k_asm)) (by k_dflt (k_asm)) (by k_dflt (first | exact rfl | assumption)) (by k_dflt (ktr_room)) (by k_dflt (ktr_units)) (by k_dflt (k_asm)) (by k_dflt (assumption)) (by k_dflt (assumption)) (by k_dflt (omega)) (by k_dflt (assumption)) (by k_dflt (assumption)) ?_ | refine fan (by k_asm) (by k_asm) (by k_asm) (by k_asm) (by first | exact rfl | assumption) (by ktr_room) (by ktr_units) (by k_asm) (by assumption) (by assumption) (by omega) (by assumption) (by assumption) ?_); k_whole); intro D9 v9 n9 h9 tk9 F9 N9 I9 H9; (replace H9 := allNe_of H9); (simp only [AllNe, and_true] at H9); (repeat (obtain ⟨hNe9, H9⟩ := H9)); (try dsimp only); (try k_fold)))
  trivial

section
variable {w : World} {p : Program} {loose : List Str} {mean : ExcName → Option Value} {mg mb : Str → Option Value}
  {dp un : Nat} {gd : Option (List Code)} {cn : Str} {cs : Scope} {a : Addr} {ccd : Value} {cl : List (Str × Addr)} {outer : List Env} {A₀ : Around} {base h₀ : Heap} {L : Addr} {m : Str → Option Value} {s : Shared} {Q E : Value → Shared → Prop}

theorem abe4v {news : List (Addr × Obj)} {oct : Array UInt8} {ks : List Int} {tO ta : Tok}
    (B : Below A₀ base outer h₀) (F : Fr h₀ L s.heap m) (X : (hd.heap_1 w.params).In h₀) (N : News h₀ L s.heap news) (T : Top p loose mean mg mb h₀) (hk : cs.kind = .function)
    (hd : dp + 2 < recursionLimit) (hu : un + 16 < cLine)
    (hb : KBw.bInts oct = ks) (h2 : 4 + 4 ≤ ks.length) (h3 : ks.length ≤ 100000) (hvr : beV (List.take (Int.toNat 4) (List.drop (Int.toNat 4) ks)) = 2)
    (ret : ∀ (t : Tok) (h' : Heap) (tk' : Nat), Fr h₀ L h' m → News h₀ L h' news → Q (.int 2 t) { s with heap := h', toks := tk' }) :
    wpAny (model PySem.Challenge.rw_nt0280_01.row.prog w) (ktrTop dp un gd cn cs L a ccd cl outer) (call (.ref 92) [.bytes oct tO, .int 4 ta]) Q E s := by
  refine abe4 B F X N T hk hd hu hb (by omega) (by omega) h3 fun t h' tk' F' N' => ?_
  have e : beV ((ks.drop (Int.toNat 4)).take 4) = 2 := hvr
  rw [e]
  exact ret t h' tk' F' N'
end
theorem wordsSInith : True := by
  (k_with "call ref" => (k_here; k_dflt (((with_reducible show wpAny _ _ (call (Value.ref 92) _) _ _ _); first | with_reducible refine abe4v (by k_dflt (k_asm)) (by k_dflt (k_asm)) (by k_dflt (k_asm)) (by k_dflt (k_asm)) (by k_dflt (k_asm)) (by k_dflt (first | exact rfl | assumption)) (by k_dflt (ktr_room)) (by k_dflt (ktr_units)) (by k_dflt (assumption)) (by k_dflt (omega)) (by k_dflt (omega)) (by k_dflt (assumption)) ?_ | refine abe4v (by k_asm) (by k_asm) (by k_asm) (by k_asm) (by k_asm) (by first | exact rfl | assumption) (by ktr_room) (by ktr_units) (by assumption) (by omega) (by omega) (by assumption) ?_); k_whole); intro t9 h9 tk9 F9 N9; (try dsimp only); (try k_fold)))
  trivial

theorem wordsSIniti : True := by
  (k_with "call ref" => (k_here; k_dflt (((with_reducible show wpAny _ _ (call (Value.ref 147) _) _ _ _); first | with_reducible refine ids (by k_dflt (k_asm)) (by k_dflt (k_asm)) (by k_dflt (k_asm)) (by k_dflt (k_asm)) (by k_dflt (k_asm)) (by k_dflt (first | exact rfl | assumption)) (by k_dflt (ktr_room)) (by k_dflt (ktr_units)) (by k_dflt (assumption)) (by k_dflt (omega)) (by k_dflt (omega)) (by k_dflt (omega)) (by k_dflt (omega)) (by k_dflt (omega)) ?_ | refine ids (by k_asm) (by k_asm) (by k_asm) (by k_asm) (by k_asm) (by first | exact rfl | assumption) (by ktr_room) (by ktr_units) (by assumption) (by omega) (by omega) (by omega) (by omega) (by omega) ?_); k_whole); intro D9 y9 h9 tk9 R9 H9 F9 N9; (replace H9 := allNe_of H9); (simp only [AllNe, and_true] at H9); (repeat (obtain ⟨hNe9, H9⟩ := H9)); (try dsimp only); (try k_fold)))
  trivial

theorem wordsSInitj : True := by
  (k_with "CompSrc" => (k_here; k_dflt ((first | with_reducible refine LCg.CompSrc.range (by k_dflt (rfl)) (by k_dflt (k_asm)) (by k_dflt (k_asm)) (by k_dflt (assumption)) (by k_dflt (first | exact small_one (by omega) (by omega) (by omega) (by omega) | decide)) (by k_dflt (first | exact rangeSize_nat _ _ | rfl)) (by k_dflt (rw [PySem.sizeLine_eq]; omega)) ?_ | refine LCg.CompSrc.range (by rfl) (by k_asm) (by k_asm) (by assumption) (by first | exact small_one (by omega) (by omega) (by omega) (by omega) | decide) (by first | exact rangeSize_nat _ _ | rfl) (by rw [PySem.sizeLine_eq]; omega) ?_)); intro g'; refine comp_relR (fun _ _ => True) ?_ ?_))
  trivial

theorem wordsSInitk : True := by
  (k_with "exec Assign cons ListComp" => (k_here; (with_reducible refine plainObj_wpAny_Assign_Attribute ?_ ?_); rotate_left; with_unfolding_all rfl))
  trivial

theorem fm8 {x g : Int} (h : x = 8 * g) : x.fmod 8 = 0 := by
  subst h; rw [Int.fmod_eq_emod_of_nonneg _ (by decide)]; omega
theorem fd8 {x g : Int} (h : x = 8 * g) : x.fdiv 8 = g := by
  subst h; rw [Int.fdiv_eq_ediv_of_nonneg _ (by decide)]; omega
section
variable {prog : Program} {w : World} {A : Around} {E : Value → Shared → Prop} {s : Shared} {x g : Int} {t u : Tok} {Q : Value → Shared → Prop}
theorem mod8 (e : x = 8 * g) (h : Q (.int 0 s.toks) { s with toks := s.toks + 1 }) : wpAny (model prog w) A (binaryOp .Mod (.int x t) (.int 8 u)) Q E s := by
  refine mod_int' (by decide) ?_
  rw [fm8 e]; exact h
theorem div8 (e : x = 8 * g) (hp : Builtin.divisionGoesByPylong x 8 = false) (h : Q (.int g s.toks) { s with toks := s.toks + 1 }) : wpAny (model prog w) A (binaryOp .FloorDiv (.int x t) (.int 8 u)) Q E s := by
  refine floordiv_int (by decide) ?_ (.inl hp)
  rw [fd8 e]; exact h
end
theorem wordsSInitl : True := by
  (k_with "binaryOp Mod int int" => (k_here; (with_reducible refine mod8 (g := gm) ?ke ?_); (case ke => omega)))
  trivial

theorem wordsSInitm : True := by
  (k_with "binaryOp FloorDiv int int" => (k_here; (with_reducible refine div8 (g := gm) ?ke ?kp ?_); (case ke => omega); (case kp => exact PyProof.noPylong_small (by omega))))
  trivial

section
variable {M : Model} {A : Around} {E : Value → Shared → Prop} {s' : Shared} {base g g₂ : Heap} {outer : List Env} {L a e t : Addr} {m : Str → Option Value} {name : Str} {scope : Scope} {cd : Value} {cells : List (Str × Addr)} {Q : Unit → Shared → Prop} {news : List (Addr × Obj)}
theorem leave_onX {cls : Value} {vs : List Value} (R : RaisedS base g₂ (envX name scope L a cd cells :: outer) e cls t vs news s'.heap) (K : Below A base outer g) (hsm : g₂.UpToSlots s'.heap) (F : Fr g L g₂ m)
    (hQ : ∀ h', RaisedS base g outer e cls t vs news h' → g.UpToSlots h' → Q () { s' with heap := h' }) :
    wpAny M (A.deeper (envX name scope L a cd cells)) (leaving (envX name scope L a cd cells) (.ref e)) Q E s' := by
  obtain ⟨⟨B, hB, hBG, hl, hfl, hnew⟩, htup⟩ := R
  exact wpAny_leaves_onW (Around.frames_deeper K.stack) rfl hfl fun h' x1 x2 => hQ h' ⟨⟨B, hB, fun b o q nm => hBG b o (F.keep b o q) (fun hm => by
      obtain ⟨env, he, hf⟩ := List.mem_filterMap.mp hm
      rcases List.mem_cons.mp he with rfl | he
      · have z : L = b := Option.some.inj hf
        rw [← z, kts_self F] at q; cases q
      · exact nm (List.mem_filterMap.mpr ⟨env, he, hf⟩)), fun q hq => ⟨(hl q hq).1, kts_none F.keep (hl q hq).2.1, (hl q hq).2.2⟩, x1, hnew⟩, htup.of_slots x2⟩ ((Heap.UpToSlots.of_keeps F.keep).trans (hsm.trans x2))
end
theorem wordsSInitn : True := by
  (k_with "leaving ref" => (k_here; k_dflt ((first | with_reducible refine leave_onX (by k_dflt (assumption)) (by k_dflt (assumption)) (by k_dflt (assumption)) (by k_dflt (assumption)) ?_ | refine leave_onX (by assumption) (by assumption) (by assumption) (by assumption) ?_); k_whole); intro h' R' U'; (try dsimp only at R' U' ⊢)))
  trivial

theorem wordsSInito : True := by
  (k_with "call ref" => (k_here; k_dflt (((with_reducible show wpAny _ _ (call (Value.ref 161) _) _ _ _); first | with_reducible refine plc (by k_dflt (k_asm)) (by k_dflt (k_asm)) (by k_dflt (k_asm)) (by k_dflt (k_asm)) (by k_dflt (first | exact rfl | assumption)) (by k_dflt (ktr_room)) (by k_dflt (ktr_units)) (by k_dflt (k_asm)) (by k_dflt (assumption)) (by k_dflt (omega)) (by k_dflt (omega)) (by k_dflt (omega)) (by k_dflt (omega)) (by k_dflt (omega)) (by k_dflt (omega)) (by k_dflt (omega)) (by k_dflt (omega)) ?_ ?_ | refine plc (by k_asm) (by k_asm) (by k_asm) (by k_asm) (by first | exact rfl | assumption) (by ktr_room) (by ktr_units) (by k_asm) (by assumption) (by omega) (by omega) (by omega) (by omega) (by omega) (by omega) (by omega) (by omega) ?_ ?_); k_whole); (all_goals (first | (intro D9 v9 x9 n9 h9 tk9 F9 N9 I9 P9 H9; (replace H9 := allNe_of H9); (simp only [AllNe, and_true] at H9); (repeat (obtain ⟨hNe9, H9⟩ := H9)); (try dsimp only); (try k_fold)) | (intro e9 t9 v9 k9 g9 h9 tk9 F9 R9 U9 K9 P9; (try dsimp only); (try k_fold))))))
  trivial

def idxEnts (w : World) (oct : Array UInt8) (n : Int) (hI lF lC lI lP : Addr) (vS : Value) (tO t2 tv tn k0 k1 k2 k3 k4 k5 k6 k7 k8 k9 : Tok) : List DictEntry := [{ hash := PyData.keyHash w.params (Str.ofString "octets"), key := .str (Str.ofString "octets") k0, val := .bytes oct tO }, { hash := PyData.keyHash w.params (Str.ofString "hasher"), key := .str (Str.ofString "hasher") k1, val := .ref hI }, { hash := PyData.keyHash w.params (Str.ofString "size"), key := .str (Str.ofString "size") k2, val := .int 4 t2 }, { hash := PyData.keyHash w.params (Str.ofString "version"), key := .str (Str.ofString "version") k3, val := .int 2 tv }, { hash := PyData.keyHash w.params (Str.ofString "fan"), key := .str (Str.ofString "fan") k4, val := .ref lF }, { hash := PyData.keyHash w.params (Str.ofString "count"), key := .str (Str.ofString "count") k5, val := .int n tn }, { hash := PyData.keyHash w.params (Str.ofString "crcs"), key := .str (Str.ofString "crcs") k6, val := .ref lC }, { hash := PyData.keyHash w.params (Str.ofString "ids"), key := .str (Str.ofString "ids") k7, val := .ref lI }, { hash := PyData.keyHash w.params (Str.ofString "places"), key := .str (Str.ofString "places") k8, val := .ref lP }, { hash := PyData.keyHash w.params (Str.ofString "pack_sum"), key := .str (Str.ofString "pack_sum") k9, val := vS }]
theorem idx_pick {h₀ h : Heap} {L : Addr} {a b c d e f g i j k l : Addr × Obj} {news : List (Addr × Obj)} (N : News h₀ L h ([a, b, c, d, e, f, g, i, j, k, l] ++ news)) : News h₀ L h (g :: i :: f :: c :: a :: j :: k :: l :: news) := fun p hp => N p (by
  simp only [List.cons_append, List.nil_append, List.mem_cons] at hp ⊢
  rcases hp with h | h | h | h | h | h | h | h | h <;> simp [h])
section
variable {w : World} {p : Program} {loose : List Str} {mean : ExcName → Option Value} {mg mb : Str → Option Value}
  {dp un : Nat} {gd : Option (List Code)} {cn : Str} {cs : Scope} {a : Addr} {ccd : Value} {cl : List (Str × Addr)} {outer : List Env} {A₀ : Around} {base h₀ : Heap} {L : Addr} {m : Str → Option Value} {s : Shared} {Q E : Value → Shared → Prop}

theorem init_ {news : List (Addr × Obj)} {hI hD kD : Addr} {h1 h2 n gm : Int} {t1 t2 t3 tO t0 : Tok} {oK : Obj} {oct c : Array UInt8} {ks : List Int}
    (B : Below A₀ base outer h₀) (F : Fr h₀ L s.heap m) (X : (hd.heap_1 w.params).In h₀) (T : Top p loose mean mg mb h₀) (hk : cs.kind = .function)
    (hd : dp + 40 < recursionLimit) (hu : un + 1000 < cLine)
    (N : News h₀ L s.heap (hashRel hI hD kD h1 h2 t1 t2 t3 oK)) (NR : News h₀ L s.heap news) (hx : Apart (hashRel hI hD kD h1 h2 t1 t2 t3 oK) news)
    (hne : @Ne Nat hI hD ∧ @Ne Nat hI kD ∧ @Ne Nat hD kD) (hlo : (kD == sysModules) = false) (hK : oK.IsDictOf (PySem.W.bytesKind PySem.Challenge.rw_nt0280_01.row.prog w) [(c.toList, .int 1 t0)])
    (hb : KBw.bInts oct = ks) (h3 : ks.length ≤ 100000) (hks : ks = KBw.bInts c ++ [0, 0, 0, 1]) (h5 : 1040 ≤ ks.length) (hn : 1 ≤ n) (hn3 : n ≤ 3)
    (hlen : (ks.length : Int) = 1040 + 12 * n + 8 * gm) (hfan : FanAt ks n) (hg : 0 ≤ gm) (hg3 : gm ≤ n) (hmk : List.take (clipAt ks.length 4) ks = [255, 116, 79, 99]) (hvr : beV (List.take (Int.toNat 4) (List.drop (Int.toNat 4) ks)) = 2) (hids : IdsAt ks (8 + 4 * 256) n)
    (ret : ∀ (x dx lF lC lI lP : Addr) (vF vI vP : List Value) (nF nP : Nat) (xs : List Int) (vS : Value) (tO t2 tv tn k0 k1 k2 k3 k4 k5 k6 k7 k8 k9 : Tok) (h' : Heap) (tk' : Nat), Fr h₀ L h' m →
      News h₀ L h' ((x, instObj 251 dx) :: (dx, dictOf (idxEnts w oct n hI lF lC lI lP vS tO t2 tv tn k0 k1 k2 k3 k4 k5 k6 k7 k8 k9) 10) :: (lF, listOf vF.toArray nF) :: (lI, LCg.lst vI) :: (lP, listOf vP.toArray nP) :: (hashRel hI hD kD h1 h2 t1 t2 t3 oK ++ news)) →
      IntsAre vF (fanL n) → RelL (IdRel ks (8 + 4 * 256)) (rangeKs 0 n.toNat) vI → IntsAre vP xs → (List.range n.toNat).map (placeOf ks (8 + 4 * 256 + 4 * n + 4 * n) (8 + 4 * 256 + 4 * n + 4 * n + 4 * n) gm) = xs.map some → Q (.ref x) { s with heap := h', toks := tk' })
    (retE : ∀ (e t : Addr) (vs : List Value) (k : Nat) (g h' : Heap) (tk' : Nat), Fr h₀ L g m → RaisedS base g (envX cn cs L a ccd cl :: outer) e (.ref 64) t vs [] h' → g.UpToSlots h' → k < n.toNat → placeOf ks (8 + 4 * 256 + 4 * n + 4 * n) (8 + 4 * 256 + 4 * n + 4 * n + 4 * n) gm k = none → E (.ref e) { s with heap := h', toks := tk' }) :
    wpAny (model PySem.Challenge.rw_nt0280_01.row.prog w) (ktrTop dp un gd cn cs L a ccd cl outer) (call (.ref 251) [.bytes oct tO, .ref hI]) Q E s := by
  revert X; k_fill; intro X
  refine wpAny_call ?_
  refine make_K (K := Mine.hd.heap_1 w.params) F ((RestIn.mk NR).with N) (X.keeps F.keep) (by k_is) (by k_is) (by k_is) fun x dx h' F' N' hl hl' => ?_
  obtain ⟨N, NR, hx, hlt⟩ := init_split N' hx hl hl'
  dsimp only [hashRel] at N hx hlt
  have l0 := hlt
  k_lt l0
  k_lt2 hl'
  clear N' hl F
  k_dflt (first   | (refine' code_defR ?k1 ?k2 ?k3 N NR hx ?k5 ?kA ?kF ?kK ?k6 ?k7 ?k8 ?k9 ?kB ?_ ?c2 ?c3 ?c4 ?c5; (case kA => exact rfl); (case kF => exact rfl); (case kK => first | exact rfl | assumption); (case k1 => k_asm); (case k2 => k_asm); (case k3 => k_asm); (case k5 => k_asm); (case k6 => k_is); (case k7 => k_is); (case k8 => ktr_room); (case k9 => first | exact BindsTo.of_eq rfl | exact binds_K (by k_in) rfl (by k_is) rfl rfl rfl); (case c5 => decide); (case kB => exact locs rfl); (case c2 => exact rfl); (case c3 => exact rfl); (case c4 => exact rfl); k_whole; clear N NR hx; intro g' L' h' FG' F' N' B' X' T' R' l1; (try k_lt l1); (try dsimp only); (try k_lift B'); (try k_fold))   | (refine' code_defCR ?k1 ?k2 ?k3 N NR hx ?k5 ?kA ?kF ?kK ?k6 ?k7 ?k8 ?k9 ?kB ?kD ?_ ?c2 ?c3 ?c4; (case kA => exact rfl); (case kF => exact rfl); (case kK => first | exact rfl | assumption); (case k1 => k_asm); (case k2 => k_asm); (case k3 => k_asm); (case k5 => k_asm); (case k6 => k_is); (case k7 => k_is); (case k8 => ktr_room); (case k9 => first | exact BindsTo.of_eq rfl | exact binds_K (by k_in) rfl (by k_is) rfl rfl rfl); (case kB => exact rfl); (case kD => decide +kernel); (case c2 => exact rfl); (case c3 => exact rfl); (case c4 => exact rfl); k_whole; clear N NR hx; intro g' L' h' tk' cells' FG' F' N' Y' B' X' T' R' l1; (try k_lt l1); k_cells Y'; (try simp only [List.cons_append, List.nil_append] at N'); (try dsimp only); (try k_lift B'); (try k_fold)))
  w_strict (repeat' (first | (k_unfold; (try dsimp only)) | walk1 | (dsimp only; walk1) | (leave1; try dsimp only) | (dsimp only; k_unfold; (try dsimp only)) | fail "no step"))
  all_goals (try dsimp only [InitBack])
  · refine' LCg.CompEnd.intro (by assumption) (by assumption) _ ?sub ?off trivial ⟨rfl, trivial⟩
    case sub => kcf_all
    case off => assumption
  · refine ⟨rfl, ?_⟩
    refine ret _ _ _ _ _ _ _ _ _ _ _ _ _ _ _ _ _ _ _ _ _ _ _ _ _ _ _ _ _ (by k_asm) (idx_pick (j := (_, _)) (k := (_, _)) (l := (_, _)) ((by assumption : RestIn _ _ _ _).with (by k_asm))) (by assumption) (by assumption) (by assumption) (by assumption)
  · refine retE _ _ _ _ _ _ _ (by k_asm) (by assumption) (by assumption) (by assumption) (by assumption)
end

end

section
theorem wordsSReadb : True := by
  w_top off
  k_with_none
  (k_with "exec For Name Subscript cons nil" => (k_here; (rename Fr _ _ _ _ => lF'); (with_unfolding_all refine For_invVF lF' (by exact rfl) (by exact rfl) ?_; k_whole)))
  (k_with "call ref" => (k_here; k_dflt (first | (refine call_meth (by k_asm) (by k_mem) ?_; k_whole; (first | ((first | with_reducible refine code_defO (by k_dflt (exact rfl)) (by k_dflt (exact rfl)) (by k_dflt (first | exact rfl | assumption)) (by k_dflt (k_asm)) (by k_dflt (k_asm)) (by k_dflt (k_asm)) (by k_dflt (k_asm)) (by k_dflt (k_asm)) (by k_dflt (k_is)) (by k_dflt (k_is)) (by k_dflt (ktr_room)) (by k_dflt (first | exact BindsTo.of_eq rfl | exact binds_K (by k_in) rfl (by k_is) rfl rfl rfl)) (by k_dflt (decide)) (by k_dflt (exact locs rfl)) (by k_dflt (exact rfl)) (by k_dflt (exact rfl)) (by k_dflt (exact rfl)) ?_ | refine code_defO (by exact rfl) (by exact rfl) (by first | exact rfl | assumption) (by k_asm) (by k_asm) (by k_asm) (by k_asm) (by k_asm) (by k_is) (by k_is) (by ktr_room) (by first | exact BindsTo.of_eq rfl | exact binds_K (by k_in) rfl (by k_is) rfl rfl rfl) (by decide) (by exact locs rfl) (by exact rfl) (by exact rfl) (by exact rfl) ?_); k_whole; intro g' L' h' FG' F' N' B' X' T'; (try dsimp only); (try k_lift B'); (try k_fold)) | ((first | with_reducible refine code_defCO (by k_dflt (exact rfl)) (by k_dflt (exact rfl)) (by k_dflt (first | exact rfl | assumption)) (by k_dflt (k_asm)) (by k_dflt (k_asm)) (by k_dflt (k_asm)) (by k_dflt (k_asm)) (by k_dflt (k_asm)) (by k_dflt (k_is)) (by k_dflt (k_is)) (by k_dflt (ktr_room)) (by k_dflt (first | exact BindsTo.of_eq rfl | exact binds_K (by k_in) rfl (by k_is) rfl rfl rfl)) (by k_dflt (exact rfl)) (by k_dflt (decide +kernel)) (by k_dflt (exact rfl)) (by k_dflt (exact rfl)) (by k_dflt (exact rfl)) ?_ | refine code_defCO (by exact rfl) (by exact rfl) (by first | exact rfl | assumption) (by k_asm) (by k_asm) (by k_asm) (by k_asm) (by k_asm) (by k_is) (by k_is) (by ktr_room) (by first | exact BindsTo.of_eq rfl | exact binds_K (by k_in) rfl (by k_is) rfl rfl rfl) (by exact rfl) (by decide +kernel) (by exact rfl) (by exact rfl) (by exact rfl) ?_); k_whole; intro g' L' h' tk' cells' FG' F' N' Y' B' X' T' l1; (try k_lt l1); k_cells Y'; (try simp only [List.cons_append, List.nil_append] at N'); (try dsimp only); (try k_lift B'); (try k_fold)))) | ((first | with_reducible refine call_cls (by k_dflt (k_asm)) (by k_dflt (k_asm)) (by k_dflt (k_asm)) (by k_dflt (k_is)) (by k_dflt (k_is)) (by k_dflt (k_is)) ?_ | refine call_cls (by k_asm) (by k_asm) (by k_asm) (by k_is) (by k_is) (by k_is) ?_); k_whole; intro x' d' h' F' N' l1 l2; (try k_lt l1); (try k_lt2 l2); (try k_sweep); (first | ((first | with_reducible refine code_defO (by k_dflt (exact rfl)) (by k_dflt (exact rfl)) (by k_dflt (first | exact rfl | assumption)) (by k_dflt (k_asm)) (by k_dflt (k_asm)) (by k_dflt (k_asm)) (by k_dflt (k_asm)) (by k_dflt (k_asm)) (by k_dflt (k_is)) (by k_dflt (k_is)) (by k_dflt (ktr_room)) (by k_dflt (first | exact BindsTo.of_eq rfl | exact binds_K (by k_in) rfl (by k_is) rfl rfl rfl)) (by k_dflt (decide)) (by k_dflt (exact locs rfl)) (by k_dflt (exact rfl)) (by k_dflt (exact rfl)) (by k_dflt (exact rfl)) ?_ | refine code_defO (by exact rfl) (by exact rfl) (by first | exact rfl | assumption) (by k_asm) (by k_asm) (by k_asm) (by k_asm) (by k_asm) (by k_is) (by k_is) (by ktr_room) (by first | exact BindsTo.of_eq rfl | exact binds_K (by k_in) rfl (by k_is) rfl rfl rfl) (by decide) (by exact locs rfl) (by exact rfl) (by exact rfl) (by exact rfl) ?_); k_whole; intro g' L' h' FG' F' N' B' X' T'; (try dsimp only); (try k_lift B'); (try k_fold)) | ((first | with_reducible refine code_defCO (by k_dflt (exact rfl)) (by k_dflt (exact rfl)) (by k_dflt (first | exact rfl | assumption)) (by k_dflt (k_asm)) (by k_dflt (k_asm)) (by k_dflt (k_asm)) (by k_dflt (k_asm)) (by k_dflt (k_asm)) (by k_dflt (k_is)) (by k_dflt (k_is)) (by k_dflt (ktr_room)) (by k_dflt (first | exact BindsTo.of_eq rfl | exact binds_K (by k_in) rfl (by k_is) rfl rfl rfl)) (by k_dflt (exact rfl)) (by k_dflt (decide +kernel)) (by k_dflt (exact rfl)) (by k_dflt (exact rfl)) (by k_dflt (exact rfl)) ?_ | refine code_defCO (by exact rfl) (by exact rfl) (by first | exact rfl | assumption) (by k_asm) (by k_asm) (by k_asm) (by k_asm) (by k_asm) (by k_is) (by k_is) (by ktr_room) (by first | exact BindsTo.of_eq rfl | exact binds_K (by k_in) rfl (by k_is) rfl rfl rfl) (by exact rfl) (by decide +kernel) (by exact rfl) (by exact rfl) (by exact rfl) ?_); k_whole; intro g' L' h' tk' cells' FG' F' N' Y' B' X' T' l1; (try k_lt l1); k_cells Y'; (try simp only [List.cons_append, List.nil_append] at N'); (try dsimp only); (try k_lift B'); (try k_fold)))) | ((first | with_reducible refine wpAny_call ?_ | refine wpAny_call ?_); (first | ((first | with_reducible refine code_defO (by k_dflt (exact rfl)) (by k_dflt (exact rfl)) (by k_dflt (first | exact rfl | assumption)) (by k_dflt (k_asm)) (by k_dflt (k_asm)) (by k_dflt (k_asm)) (by k_dflt (k_asm)) (by k_dflt (k_asm)) (by k_dflt (k_is)) (by k_dflt (k_is)) (by k_dflt (ktr_room)) (by k_dflt (first | exact BindsTo.of_eq rfl | exact binds_K (by k_in) rfl (by k_is) rfl rfl rfl)) (by k_dflt (decide)) (by k_dflt (exact locs rfl)) (by k_dflt (exact rfl)) (by k_dflt (exact rfl)) (by k_dflt (exact rfl)) ?_ | refine code_defO (by exact rfl) (by exact rfl) (by first | exact rfl | assumption) (by k_asm) (by k_asm) (by k_asm) (by k_asm) (by k_asm) (by k_is) (by k_is) (by ktr_room) (by first | exact BindsTo.of_eq rfl | exact binds_K (by k_in) rfl (by k_is) rfl rfl rfl) (by decide) (by exact locs rfl) (by exact rfl) (by exact rfl) (by exact rfl) ?_); k_whole; intro g' L' h' FG' F' N' B' X' T'; (try dsimp only); (try k_lift B'); (try k_fold)) | ((first | with_reducible refine code_defCO (by k_dflt (exact rfl)) (by k_dflt (exact rfl)) (by k_dflt (first | exact rfl | assumption)) (by k_dflt (k_asm)) (by k_dflt (k_asm)) (by k_dflt (k_asm)) (by k_dflt (k_asm)) (by k_dflt (k_asm)) (by k_dflt (k_is)) (by k_dflt (k_is)) (by k_dflt (ktr_room)) (by k_dflt (first | exact BindsTo.of_eq rfl | exact binds_K (by k_in) rfl (by k_is) rfl rfl rfl)) (by k_dflt (exact rfl)) (by k_dflt (decide +kernel)) (by k_dflt (exact rfl)) (by k_dflt (exact rfl)) (by k_dflt (exact rfl)) ?_ | refine code_defCO (by exact rfl) (by exact rfl) (by first | exact rfl | assumption) (by k_asm) (by k_asm) (by k_asm) (by k_asm) (by k_asm) (by k_is) (by k_is) (by ktr_room) (by first | exact BindsTo.of_eq rfl | exact binds_K (by k_in) rfl (by k_is) rfl rfl rfl) (by exact rfl) (by decide +kernel) (by exact rfl) (by exact rfl) (by exact rfl) ?_); k_whole; intro g' L' h' tk' cells' FG' F' N' Y' B' X' T' l1; (try k_lt l1); k_cells Y'; (try simp only [List.cons_append, List.nil_append] at N'); (try dsimp only); (try k_lift B'); (try k_fold)))))))
  (k_with "execs cons" => (k_here; (with_reducible (refine gen_toks ?_)); intro tk))
  (k_with "execs nil" => (k_here; (with_reducible (refine gen_toks ?_)); intro tk))
  (k_with "call builtin:list.append" => (k_here; k_dflt ((first | with_reducible refine app_K (by k_dflt (k_asm)) (by k_dflt (k_asm)) (by k_dflt (k_updF)) (by k_dflt ((simp only [List.length_append, List.length_cons, List.length_nil]; omega))) ?_ | refine app_K (by k_asm) (by k_asm) (by k_updF) (by (simp only [List.length_append, List.length_cons, List.length_nil]; omega)) ?_)); intro h' F' N'; (try dsimp only at N'); (try dsimp only)))
  (k_with "call ref" => (k_here; k_dflt (((with_reducible show wpAny _ _ (call (Value.ref 85) _) _ _ _); first | with_reducible refine abe (by k_dflt (k_asm)) (by k_dflt (k_asm)) (by k_dflt (k_asm)) (by k_dflt (k_asm)) (by k_dflt (k_asm)) (by k_dflt (first | exact rfl | assumption)) (by k_dflt (ktr_room)) (by k_dflt (ktr_units)) (by k_dflt (assumption)) (by k_dflt (omega)) (by k_dflt (omega)) (by k_dflt (omega)) (by k_dflt (omega)) ?_ | refine abe (by k_asm) (by k_asm) (by k_asm) (by k_asm) (by k_asm) (by first | exact rfl | assumption) (by ktr_room) (by ktr_units) (by assumption) (by omega) (by omega) (by omega) (by omega) ?_); k_whole); intro t9 h9 tk9 F9 N9; (try dsimp only); (try k_fold)))
  (k_with "compareOp Lt bytes bytes" => refine lt_bytes ?_)
  (k_with "compareOp LtE bytes bytes" => refine le_bytes ?_)
  (k_with "subscriptTail" => (k_here; (with_reducible show wpAny _ _ (subscriptTail _ _ (Value.ref _) (Value.str _ _)) _ _ _); k_dflt ((first | with_reducible refine kda_item (knd := PySem.strKind _ _) (by k_dflt (k_asm)) (by k_dflt (k_mem)) (by k_dflt (k_asm)) (strKind_is _ _ _ _) (by k_dflt (rfl)) ?_ | refine kda_item (knd := PySem.strKind _ _) (by k_asm) (by k_mem) (by k_asm) (strKind_is _ _ _ _) (by rfl) ?_))))
  (k_with "subscriptTail" => (k_here; (with_reducible show wpAny _ _ (subscriptTail _ _ (Value.ref _) (Value.bytes _ _)) _ _ _); k_dflt ((first | with_reducible refine kda_item (knd := PySem.W.bytesKind _ _) (by k_dflt (k_asm)) (by k_dflt (k_mem)) (by k_dflt (k_asm)) (bytesKind_at _ _ _ _) (by k_dflt (first | exact value_one _ _ | rfl)) ?_ | refine kda_item (knd := PySem.W.bytesKind _ _) (by k_asm) (by k_mem) (by k_asm) (bytesKind_at _ _ _ _) (by first | exact value_one _ _ | rfl) ?_))))
  (k_with "setItem ref str" => (k_here; k_dflt ((first | with_reducible refine kda_set (knd := PySem.strKind _ _) (by k_dflt (k_asm)) (by k_dflt (k_asm)) (by k_dflt (k_updF)) (by k_dflt (k_asm)) (strKind_is _ _ _ _) (by k_dflt (rw [sizeLine_eq]; exact Nat.le_of_ble_eq_true (by with_unfolding_all rfl))) ?_ | refine kda_set (knd := PySem.strKind _ _) (by k_asm) (by k_asm) (by k_updF) (by k_asm) (strKind_is _ _ _ _) (by rw [sizeLine_eq]; exact Nat.le_of_ble_eq_true (by with_unfolding_all rfl)) ?_)); intro h' o' F' N' hd'; (try dsimp only at N'); (try rw [stored_mixed] at hd'); (try rw [stored_nil] at hd')))
  (k_with "compareOp NotIn bytes ref" => (k_here; k_dflt ((first | with_reducible refine notin_bytes (by k_dflt (k_asm)) (by k_dflt (k_mem)) (by k_dflt (k_asm)) (by k_dflt (k_asm)) (by k_dflt (first | rfl | exact value_is _ _)) ?_ | refine notin_bytes (by k_asm) (by k_mem) (by k_asm) (by k_asm) (by first | rfl | exact value_is _ _) ?_))))
  (k_with "setItem ref bytes" => (k_here; k_dflt ((first | with_reducible refine kda_set (knd := PySem.W.bytesKind _ _) (by k_dflt (k_asm)) (by k_dflt (k_asm)) (by k_dflt (k_updF)) (by k_dflt (k_asm)) (bytesKind_at _ _ _ _) (by k_dflt (rw [sizeLine_eq]; exact Nat.le_of_ble_eq_true (by with_unfolding_all rfl))) ?_ | refine kda_set (knd := PySem.W.bytesKind _ _) (by k_asm) (by k_asm) (by k_updF) (by k_asm) (bytesKind_at _ _ _ _) (by rw [sizeLine_eq]; exact Nat.le_of_ble_eq_true (by with_unfolding_all rfl)) ?_)); intro h' o' F' N' hd'; (try dsimp only at N'); (try rw [stored_mixed] at hd'); (try rw [stored_nil] at hd')))
  (k_with "call builtin:len" => (k_here; (with_reducible show wpAny _ _ (call (Value.builtin "len") [Value.ref _]) _ _ _); k_dflt ((first | with_reducible refine kda_len (knd := PySem.W.bytesKind _ _) (by k_dflt (k_asm)) (by k_dflt (k_mem)) (by k_dflt (k_asm)) (by k_dflt (k_asm)) (Nat.le_of_ble_eq_true (by with_unfolding_all rfl)) ?_ | refine kda_len (knd := PySem.W.bytesKind _ _) (by k_asm) (by k_mem) (by k_asm) (by k_asm) (Nat.le_of_ble_eq_true (by with_unfolding_all rfl)) ?_))))
  (k_with "call type:bytes" => (k_here; (with_reducible show wpAny _ _ (call (Value.type "bytes") [Value.bytes _ _]) _ _ _); (refine call_bytesB ?_)))
  (k_with "LeaveK" => ((try ((rename RestIn _ _ _ _ => rI); (rename Fr _ _ _ _ => lF'); (have rJ := RestIn.keeps rI lF'); (try ((rename News _ _ _ _ => lN'); (have rK := RestIn.apart rI lN'))))); (k_dflt ((first | with_reducible refine leaveK_ (by k_dflt (k_asm)) (by k_dflt (k_asm)) ?_ | refine leaveK_ (by k_asm) (by k_asm) ?_); k_whole); intro kF kN; ground_anew kF; (have kX := kFor kF (by k_asm)); (try dsimp only [InitBack, CmpBack, LenBack, StrBack, BoolBack]); (try refine ⟨rfl, ?_⟩); (try dsimp only [CmpBack, LenBack, StrBack, BoolBack]); (try (refine ⟨⟨by omega, by omega⟩, ?_⟩)); (try (refine handed_on rfl ?_; try dsimp only)))))
  (k_with "setAttr ref" => (k_here; k_dflt ((first | with_reducible refine exc_set (K := Mine.hd.heap_1 _) (by k_dflt (k_asm)) (by k_dflt (k_asm)) (by k_dflt (k_asm)) (by k_dflt ((intro p hp; first | exact nomatch hp))) (by k_dflt (k_is)) (by k_dflt (k_is)) (by k_dflt ((intro self; exact PySem.F.store_Exception.passes self))) (by k_dflt (decide)) (by k_dflt (decide)) (by k_dflt (exact rfl)) (by k_dflt (k_is)) ?_ | refine exc_set (K := Mine.hd.heap_1 _) (by k_asm) (by k_asm) (by k_asm) (by (intro p hp; first | exact nomatch hp)) (by k_is) (by k_is) (by (intro self; exact PySem.F.store_Exception.passes self)) (by decide) (by decide) (by exact rfl) (by k_is) ?_); intro h' D oD tk F' N' hpD hDe); (try dsimp only)))
  (k_with "call ref" => (k_here; k_dflt (((with_reducible show wpAny _ _ (call (Value.ref 64) _) _ _ _); first | with_reducible refine badpack (by k_dflt (k_asm)) (by k_dflt (k_asm)) (by k_dflt (k_asm)) (by k_dflt (k_asm)) (by k_dflt (first | exact rfl | assumption)) (by k_dflt (ktr_room)) (by k_dflt (ktr_units)) (by k_dflt (k_asm)) ?_ | refine badpack (by k_asm) (by k_asm) (by k_asm) (by k_asm) (by first | exact rfl | assumption) (by ktr_room) (by ktr_units) (by k_asm) ?_); k_whole); intro e9 t9 d9 o9 h9 tk9 F9 N9; (try dsimp only); (try k_fold)))
  (k_with "exec Raise some none" => (k_here; k_dflt ((first | with_reducible refine Raise_x (K := Mine.hd.heap_1 _) (C := 64) (by k_dflt (k_asm)) (by k_dflt (k_is)) (by k_dflt (decide)) (by k_dflt (first | exact rfl | assumption)) ?_ | refine Raise_x (K := Mine.hd.heap_1 _) (C := 64) (by k_asm) (by k_is) (by decide) (by first | exact rfl | assumption) ?_); k_whole)))
  (k_with "RaisableX" => (k_here; k_dflt ((first | with_reducible refine raisable_x (by k_dflt (k_asm)) (by k_dflt (k_asm)) ?_ | refine raisable_x (by k_asm) (by k_asm) ?_); k_whole)))
  (k_with "leaving ref" => (k_here; k_dflt ((first | with_reducible refine leave_X (by k_dflt (assumption)) (by k_dflt (k_asm)) (by k_dflt (k_asm)) ?_ (by k_dflt (exact rfl)) | refine leave_X (by assumption) (by k_asm) (by k_asm) ?_ (by exact rfl)); k_whole); intro h' R' U'; (try dsimp only at R' U' ⊢)))
  (k_with "binaryOp Mult ref int" => (k_here; (with_reducible show wpAny _ _ (binaryOp Operator.Mult (Value.ref _) (Value.int _ _)) _ _ _); k_dflt ((first | with_reducible refine zeros_K (by k_dflt (k_asm)) (by k_dflt (k_asm)) (by k_dflt (k_mem)) ?_ | refine zeros_K (by k_asm) (by k_asm) (by k_mem) ?_)); intro D' h' ws' F' N' l1 i1; (try k_lt l1)))
  (k_with "subscriptTail" => (k_here; (with_reducible show wpAny _ _ (subscriptTail _ _ (Value.bytes _ _) (Value.int 0 _)) _ _ _); k_dflt ((first | with_reducible refine oid0 ?_ | refine oid0 ?_)); intro _ _))
  (k_with "getItem ref int" => (k_here; k_dflt ((first | with_reducible refine cnt_item (by k_dflt (k_asm)) (by k_dflt (k_mem)) (by k_dflt (assumption)) ?_ | refine cnt_item (by k_asm) (by k_mem) (by assumption) ?_)); intro _))
  (k_with "setItem ref int" => (k_here; k_dflt ((first | with_reducible refine cnt_store (by k_dflt (k_asm)) (by k_dflt (k_asm)) (by k_dflt (k_updF)) (by k_dflt (assumption)) ?_ | refine cnt_store (by k_asm) (by k_asm) (by k_updF) (by assumption) ?_)); intro h' ws' F' N' hi'; (try dsimp only at N')))
  (k_with "subscriptTail Name Name ref int" => (k_here; k_dflt (first | ((first | with_reducible refine cnt_sub (by k_dflt (k_asm)) (by k_dflt (k_mem)) (by k_dflt (assumption)) (by k_dflt (omega)) (by k_dflt (omega)) ?_ | refine cnt_sub (by k_asm) (by k_mem) (by assumption) (by omega) (by omega) ?_); intro t9 x9 f9) | ((first | with_reducible refine fan_sub (by k_dflt (k_asm)) (by k_dflt (k_mem)) (by k_dflt (assumption)) (by k_dflt (omega)) (by k_dflt (omega)) ?_ | refine fan_sub (by k_asm) (by k_mem) (by assumption) (by omega) (by omega) ?_); intro t9 x9 f9))))
  (k_with "call ref" => (k_here; k_dflt (((with_reducible show wpAny _ _ (call (Value.ref 71) _) _ _ _); first | with_reducible refine be4 (by k_dflt (k_asm)) (by k_dflt (k_asm)) (by k_dflt (k_asm)) (by k_dflt (k_asm)) (by k_dflt (k_asm)) (by k_dflt (first | exact rfl | assumption)) (by k_dflt (ktr_room)) (by k_dflt (ktr_units)) (by k_dflt (first | exact .inl rfl | exact .inr rfl)) ?_ | refine be4 (by k_asm) (by k_asm) (by k_asm) (by k_asm) (by k_asm) (by first | exact rfl | assumption) (by ktr_room) (by ktr_units) (by first | exact .inl rfl | exact .inr rfl) ?_); k_whole); intro b9 t9 h9 tk9 hb9 F9 N9; (try dsimp only); (try k_fold)))
  (k_with "call ref" => (k_here; k_dflt (((with_reducible show wpAny _ _ (call (Value.ref 121) _) _ _ _); first | with_reducible refine dig2c (by k_dflt (k_asm)) (by k_dflt (k_asm)) (by k_dflt (k_asm)) (by k_dflt (k_asm)) (by k_dflt (k_asm)) (by k_dflt (first | exact rfl | assumption)) (by k_dflt (ktr_room)) (by k_dflt (ktr_units)) (by k_dflt (assumption)) (by k_dflt (assumption)) (by k_dflt (assumption)) ?_ | refine dig2c (by k_asm) (by k_asm) (by k_asm) (by k_asm) (by k_asm) (by first | exact rfl | assumption) (by ktr_room) (by ktr_units) (by assumption) (by assumption) (by assumption) ?_); k_whole); intro b9 t9 h9 tk9 hb9 F9 N9; (try dsimp only); (try k_fold)))
  (k_with "call ref" => (k_here; k_dflt (((with_reducible show wpAny _ _ (call (Value.ref 161) _) _ _ _); first | with_reducible refine plc (by k_dflt (k_asm)) (by k_dflt (k_asm)) (by k_dflt (k_asm)) (by k_dflt (k_asm)) (by k_dflt (first | exact rfl | assumption)) (by k_dflt (ktr_room)) (by k_dflt (ktr_units)) (by k_dflt (k_asm)) (by k_dflt (assumption)) (by k_dflt (omega)) (by k_dflt (omega)) (by k_dflt (omega)) (by k_dflt (omega)) (by k_dflt (omega)) (by k_dflt (omega)) (by k_dflt (omega)) (by k_dflt (omega)) ?_ ?_ | refine plc (by k_asm) (by k_asm) (by k_asm) (by k_asm) (by first | exact rfl | assumption) (by ktr_room) (by ktr_units) (by k_asm) (by assumption) (by omega) (by omega) (by omega) (by omega) (by omega) (by omega) (by omega) (by omega) ?_ ?_); k_whole); (all_goals (intros; (try dsimp only); (try k_fold)))))
  (k_with "call ref" => (k_here; k_dflt (((with_reducible show wpAny _ _ (call (Value.ref 154) _) _ _ _); first | with_reducible refine chkW (by k_dflt (k_asm)) (by k_dflt (k_asm)) (by k_dflt (k_asm)) (by k_dflt (k_asm)) (by k_dflt (first | exact rfl | assumption)) (by k_dflt (ktr_room)) (by k_dflt (ktr_units)) (by k_dflt (k_asm)) (by k_dflt (k_mem)) (by k_dflt (k_mem)) (by k_dflt (first | with_reducible assumption | (refine Ne.symm ?_; with_reducible assumption) | omega)) (by k_dflt (omega)) (by k_dflt (omega)) (by k_dflt (assumption)) (by k_dflt (assumption)) (by k_dflt (assumption)) ?_ | refine chkW (by k_asm) (by k_asm) (by k_asm) (by k_asm) (by first | exact rfl | assumption) (by ktr_room) (by ktr_units) (by k_asm) (by k_mem) (by k_mem) (by first | with_reducible assumption | (refine Ne.symm ?_; with_reducible assumption) | omega) (by omega) (by omega) (by assumption) (by assumption) (by assumption) ?_); k_whole); intro h9 tk9 F9 N9; (try dsimp only); (try k_fold)))
  (k_with "call ref" => (k_here; (with_reducible show wpAny _ _ (call (Value.ref 251) _) _ _ _); k_dflt (((with_reducible show wpAny _ _ (call (Value.ref 251) _) _ _ _); first | with_reducible refine init_ (by k_dflt (k_asm)) (by k_dflt (k_asm)) (by k_dflt (k_asm)) (by k_dflt (k_asm)) (by k_dflt (first | exact rfl | assumption)) (by k_dflt (ktr_room)) (by k_dflt (ktr_units)) (by k_dflt (k_asm)) (by k_dflt (exact News.nil)) (by k_dflt (exact (fun _ h9 => nomatch h9))) (by k_dflt (assumption)) (by k_dflt (assumption)) (by k_dflt (assumption)) (by k_dflt (assumption)) (by k_dflt (assumption)) (by k_dflt (assumption)) (by k_dflt (assumption)) (by k_dflt (assumption)) (by k_dflt (assumption)) (by k_dflt (assumption)) (by k_dflt (assumption)) (by k_dflt (assumption)) (by k_dflt (assumption)) (by k_dflt (assumption)) (by k_dflt (assumption)) (by k_dflt (assumption)) ?_ ?_ | refine init_ (by k_asm) (by k_asm) (by k_asm) (by k_asm) (by first | exact rfl | assumption) (by ktr_room) (by ktr_units) (by k_asm) (by exact News.nil) (by exact (fun _ h9 => nomatch h9)) (by assumption) (by assumption) (by assumption) (by assumption) (by assumption) (by assumption) (by assumption) (by assumption) (by assumption) (by assumption) (by assumption) (by assumption) (by assumption) (by assumption) (by assumption) (by assumption) ?_ ?_); k_whole)))
  (k_with "noteFrame ref" => (k_here; (rename RaisedS _ _ _ _ _ _ _ _ _ => rkX); (rename KtsDicts _ _ => dkX); k_dflt ((first | with_reducible refine caught_SO0 (KF := Mine.hd.heap_1 _) (C := 64) rkX (by k_dflt (assumption)) (by k_dflt (assumption)) (by k_dflt (assumption)) (by k_dflt (assumption)) (by k_dflt (assumption)) dkX KtsTurn.refl (by k_dflt (k_is)) (by k_dflt (decide +kernel)) ?_ (by k_dflt (exact rfl)) (by k_dflt (exact rfl)) (by k_dflt (decide)) (by k_dflt (passes_own)) | refine caught_SO0 (KF := Mine.hd.heap_1 _) (C := 64) rkX (by assumption) (by assumption) (by assumption) (by assumption) (by assumption) dkX KtsTurn.refl (by k_is) (by decide +kernel) ?_ (by exact rfl) (by exact rfl) (by decide) (by passes_own)); k_whole); intro h' g9 n9 T9 F' N' G9 N9 B' X' P' D'; (clear N9 G9 N'); (have N' := (News.nil : News g9 _ h' []))))
  trivial
local macro_rules | `(tactic| ktr_units) => `(tactic| ((try simp only [units_under_make, units_in1, units_deeper, Around.mark_units, units_caller]); (try dsimp only [ktrTop]); (have hcL9 := cLine_is); omega))
theorem rest_five {h₀ h : Heap} {L : Addr} {a b c d e : Addr × Obj} {l rest : List (Addr × Obj)} (R : RestIn h₀ L h rest) (N : News h₀ L h (a :: b :: c :: d :: e :: l)) : News h₀ L h ([a, b, c, d, e] ++ rest) :=
  R.with fun p hp => N p (by
    simp only [List.mem_cons, List.not_mem_nil, or_false] at hp ⊢
    rcases hp with h | h | h | h | h <;> simp [h])
theorem Apart.five {a b c d e : Addr × Obj} {l rest : List (Addr × Obj)} (h : Apart (a :: b :: c :: d :: e :: l) rest) : Apart [a, b, c, d, e] rest := fun p hp hq => h p hp (by
  simp only [List.map_cons, List.map_nil, List.mem_cons, List.not_mem_nil, or_false] at hq ⊢
  rcases hq with h | h | h | h | h <;> simp [h])
section
variable {w : World} {p : Program} {loose : List Str} {mean : ExcName → Option Value} {mg mb : Str → Option Value}
  {dp un : Nat} {gd : Option (List Code)} {cn : Str} {cs : Scope} {a : Addr} {ccd : Value} {cl : List (Str × Addr)} {outer : List Env} {A₀ : Around} {base h₀ : Heap} {L : Addr} {m : Str → Option Value} {s : Shared} {Q E : Value → Shared → Prop}

theorem read_ {news : List (Addr × Obj)} {hI hD kD : Addr} {h1 h2 n gm : Int} {t1 t2 t3 tO t0 : Tok} {oK : Obj} {oct c : Array UInt8} {ks : List Int}
    (B : Below A₀ h₀ [] h₀) (F : Fr h₀ L s.heap m) (X : (hd.heap_1 w.params).In h₀) (T : Top p loose mean mg mb h₀) (hk : cs.kind = .function)
    (hd : dp + 50 < recursionLimit) (hu : un + 1200 < cLine)
    (N : News h₀ L s.heap (hashRel hI hD kD h1 h2 t1 t2 t3 oK)) (NR : News h₀ L s.heap news) (hx : Apart (hashRel hI hD kD h1 h2 t1 t2 t3 oK) news)
    (hne : @Ne Nat hI hD ∧ @Ne Nat hI kD ∧ @Ne Nat hD kD) (hlo : (kD == sysModules) = false) (hK : oK.IsDictOf (PySem.W.bytesKind PySem.Challenge.rw_nt0280_01.row.prog w) [(c.toList, .int 1 t0)])
    (hb : KBw.bInts oct = ks) (h3 : ks.length ≤ 100000) (hks : ks = KBw.bInts c ++ [0, 0, 0, 1]) (h5 : 1040 ≤ ks.length) (hn : 1 ≤ n) (hn3 : n ≤ 3)
    (hlen : (ks.length : Int) = 1040 + 12 * n + 8 * gm) (hfan : FanAt ks n) (hg : 0 ≤ gm) (hg3 : gm ≤ n) (hmk : List.take (clipAt ks.length 4) ks = [255, 116, 79, 99]) (hvr : beV (List.take (Int.toNat 4) (List.drop (Int.toNat 4) ks)) = 2) (hids : IdsAt ks (8 + 4 * 256) n)
    (ret : ∀ (x dx lF lC lI lP : Addr) (vF vI vP : List Value) (nF nP : Nat) (xs : List Int) (vS : Value) (tO t2 tv tn k0 k1 k2 k3 k4 k5 k6 k7 k8 k9 : Tok) (h' : Heap) (tk' : Nat), Fr h₀ L h' m →
      News h₀ L h' ([(x, instObj 251 dx), (dx, dictOf (idxEnts w oct n hI lF lC lI lP vS tO t2 tv tn k0 k1 k2 k3 k4 k5 k6 k7 k8 k9) 10), (lF, listOf vF.toArray nF), (lI, LCg.lst vI), (lP, listOf vP.toArray nP)] ++ news) →
      Apart [(x, instObj 251 dx), (dx, dictOf (idxEnts w oct n hI lF lC lI lP vS tO t2 tv tn k0 k1 k2 k3 k4 k5 k6 k7 k8 k9) 10), (lF, listOf vF.toArray nF), (lI, LCg.lst vI), (lP, listOf vP.toArray nP)] news →
      IntsAre vF (fanL n) → RelL (IdRel ks (8 + 4 * 256)) (rangeKs 0 n.toNat) vI → IntsAre vP xs → (List.range n.toNat).map (placeOf ks (8 + 4 * 256 + 4 * n + 4 * n) (8 + 4 * 256 + 4 * n + 4 * n + 4 * n) gm) = xs.map some → Q (.ref x) { s with heap := h', toks := tk' })
    (retN : ∀ (k : Nat) (h' : Heap) (tk' : Nat), Fr h₀ L h' m → News h₀ L h' news → k < n.toNat → placeOf ks (8 + 4 * 256 + 4 * n + 4 * n) (8 + 4 * 256 + 4 * n + 4 * n + 4 * n) gm k = none → Q .none { s with heap := h', toks := tk' }) :
    wpAny (model PySem.Challenge.rw_nt0280_01.row.prog w) (ktrTop dp un gd cn cs L a ccd cl []) (call (.ref 284) [.bytes oct tO, .ref hI]) Q E s := by
  revert X; k_fill; intro X
  refine wpAny_call ?_
  dsimp only [hashRel] at N hx
  k_dflt (refine' code_defSR ?k1 ?k2 ?k3 N NR hx ?k5 ?kA ?kF ?kK ?k6 ?k7 ?k8 ?k9 ?kB ?_ ?c2 ?c3 ?c4 ?c5; (case kA => exact rfl); (case kF => exact rfl); (case kK => first | exact rfl | assumption); (case k1 => k_asm); (case k2 => k_asm); (case k3 => k_asm); (case k5 => k_asm); (case k6 => k_is); (case k7 => k_is); (case k8 => ktr_room); (case k9 => first | exact BindsTo.of_eq rfl | exact binds_K (by k_in) rfl (by k_is) rfl rfl rfl); (case c5 => decide); (case kB => exact locs rfl); (case c2 => exact rfl); (case c3 => exact rfl); (case c4 => exact rfl); k_whole; clear N NR hx; intro g' L' h' FG' F' N' B' X' T' R' l1 D'; (try k_lt l1); (try dsimp only); (try k_lift B'); (try k_fold))
  w_strict (repeat' (first | (k_unfold; (try dsimp only)) | walk1 | (dsimp only; walk1) | (leave1; try dsimp only) | (dsimp only; k_unfold; (try dsimp only)) | fail "no step"))
  · refine' ret _ _ _ _ _ _ _ _ _ _ _ _ _ _ _ _ _ _ _ _ _ _ _ _ _ _ _ _ _ ?r1 ?r2 ?r3 ?r4 ?r5 ?r6 ?r7
    case r1 => k_asm
    case r2 => exact rest_five ((by assumption : RestIn h₀ L g' news).turned KtsTurn.refl (by assumption)) (by k_asm)
    case r3 => exact Apart.five ((by assumption : RestIn h₀ L g' news).apart (by assumption))
    case r4 => assumption
    case r5 => assumption
    case r6 => assumption
    case r7 => assumption
  · refine retN _ _ _ (by k_asm) ((by assumption : RestIn h₀ L g' news).turned (by assumption) (by assumption)).news (by assumption) (by assumption)
end

end

section
theorem wordsSFromb : True := by
  w_top off
  k_with_none
  (k_with "exec For Name Subscript cons nil" => (k_here; (rename Fr _ _ _ _ => lF'); (with_unfolding_all refine For_invVF lF' (by exact rfl) (by exact rfl) ?_; k_whole)))
  (k_with "call ref" => (k_here; k_dflt (first | (refine call_meth (by k_asm) (by k_mem) ?_; k_whole; (first | ((first | with_reducible refine code_defO (by k_dflt (exact rfl)) (by k_dflt (exact rfl)) (by k_dflt (first | exact rfl | assumption)) (by k_dflt (k_asm)) (by k_dflt (k_asm)) (by k_dflt (k_asm)) (by k_dflt (k_asm)) (by k_dflt (k_asm)) (by k_dflt (k_is)) (by k_dflt (k_is)) (by k_dflt (ktr_room)) (by k_dflt (first | exact BindsTo.of_eq rfl | exact binds_K (by k_in) rfl (by k_is) rfl rfl rfl)) (by k_dflt (decide)) (by k_dflt (exact locs rfl)) (by k_dflt (exact rfl)) (by k_dflt (exact rfl)) (by k_dflt (exact rfl)) ?_ | refine code_defO (by exact rfl) (by exact rfl) (by first | exact rfl | assumption) (by k_asm) (by k_asm) (by k_asm) (by k_asm) (by k_asm) (by k_is) (by k_is) (by ktr_room) (by first | exact BindsTo.of_eq rfl | exact binds_K (by k_in) rfl (by k_is) rfl rfl rfl) (by decide) (by exact locs rfl) (by exact rfl) (by exact rfl) (by exact rfl) ?_); k_whole; intro g' L' h' FG' F' N' B' X' T'; (try dsimp only); (try k_lift B'); (try k_fold)) | ((first | with_reducible refine code_defCO (by k_dflt (exact rfl)) (by k_dflt (exact rfl)) (by k_dflt (first | exact rfl | assumption)) (by k_dflt (k_asm)) (by k_dflt (k_asm)) (by k_dflt (k_asm)) (by k_dflt (k_asm)) (by k_dflt (k_asm)) (by k_dflt (k_is)) (by k_dflt (k_is)) (by k_dflt (ktr_room)) (by k_dflt (first | exact BindsTo.of_eq rfl | exact binds_K (by k_in) rfl (by k_is) rfl rfl rfl)) (by k_dflt (exact rfl)) (by k_dflt (decide +kernel)) (by k_dflt (exact rfl)) (by k_dflt (exact rfl)) (by k_dflt (exact rfl)) ?_ | refine code_defCO (by exact rfl) (by exact rfl) (by first | exact rfl | assumption) (by k_asm) (by k_asm) (by k_asm) (by k_asm) (by k_asm) (by k_is) (by k_is) (by ktr_room) (by first | exact BindsTo.of_eq rfl | exact binds_K (by k_in) rfl (by k_is) rfl rfl rfl) (by exact rfl) (by decide +kernel) (by exact rfl) (by exact rfl) (by exact rfl) ?_); k_whole; intro g' L' h' tk' cells' FG' F' N' Y' B' X' T' l1; (try k_lt l1); k_cells Y'; (try simp only [List.cons_append, List.nil_append] at N'); (try dsimp only); (try k_lift B'); (try k_fold)))) | ((first | with_reducible refine call_cls (by k_dflt (k_asm)) (by k_dflt (k_asm)) (by k_dflt (k_asm)) (by k_dflt (k_is)) (by k_dflt (k_is)) (by k_dflt (k_is)) ?_ | refine call_cls (by k_asm) (by k_asm) (by k_asm) (by k_is) (by k_is) (by k_is) ?_); k_whole; intro x' d' h' F' N' l1 l2; (try k_lt l1); (try k_lt2 l2); (try k_sweep); (first | ((first | with_reducible refine code_defO (by k_dflt (exact rfl)) (by k_dflt (exact rfl)) (by k_dflt (first | exact rfl | assumption)) (by k_dflt (k_asm)) (by k_dflt (k_asm)) (by k_dflt (k_asm)) (by k_dflt (k_asm)) (by k_dflt (k_asm)) (by k_dflt (k_is)) (by k_dflt (k_is)) (by k_dflt (ktr_room)) (by k_dflt (first | exact BindsTo.of_eq rfl | exact binds_K (by k_in) rfl (by k_is) rfl rfl rfl)) (by k_dflt (decide)) (by k_dflt (exact locs rfl)) (by k_dflt (exact rfl)) (by k_dflt (exact rfl)) (by k_dflt (exact rfl)) ?_ | refine code_defO (by exact rfl) (by exact rfl) (by first | exact rfl | assumption) (by k_asm) (by k_asm) (by k_asm) (by k_asm) (by k_asm) (by k_is) (by k_is) (by ktr_room) (by first | exact BindsTo.of_eq rfl | exact binds_K (by k_in) rfl (by k_is) rfl rfl rfl) (by decide) (by exact locs rfl) (by exact rfl) (by exact rfl) (by exact rfl) ?_); k_whole; intro g' L' h' FG' F' N' B' X' T'; (try dsimp only); (try k_lift B'); (try k_fold)) | ((first | with_reducible refine code_defCO (by k_dflt (exact rfl)) (by k_dflt (exact rfl)) (by k_dflt (first | exact rfl | assumption)) (by k_dflt (k_asm)) (by k_dflt (k_asm)) (by k_dflt (k_asm)) (by k_dflt (k_asm)) (by k_dflt (k_asm)) (by k_dflt (k_is)) (by k_dflt (k_is)) (by k_dflt (ktr_room)) (by k_dflt (first | exact BindsTo.of_eq rfl | exact binds_K (by k_in) rfl (by k_is) rfl rfl rfl)) (by k_dflt (exact rfl)) (by k_dflt (decide +kernel)) (by k_dflt (exact rfl)) (by k_dflt (exact rfl)) (by k_dflt (exact rfl)) ?_ | refine code_defCO (by exact rfl) (by exact rfl) (by first | exact rfl | assumption) (by k_asm) (by k_asm) (by k_asm) (by k_asm) (by k_asm) (by k_is) (by k_is) (by ktr_room) (by first | exact BindsTo.of_eq rfl | exact binds_K (by k_in) rfl (by k_is) rfl rfl rfl) (by exact rfl) (by decide +kernel) (by exact rfl) (by exact rfl) (by exact rfl) ?_); k_whole; intro g' L' h' tk' cells' FG' F' N' Y' B' X' T' l1; (try k_lt l1); k_cells Y'; (try simp only [List.cons_append, List.nil_append] at N'); (try dsimp only); (try k_lift B'); (try k_fold)))) | ((first | with_reducible refine wpAny_call ?_ | refine wpAny_call ?_); (first | ((first | with_reducible refine code_defO (by k_dflt (exact rfl)) (by k_dflt (exact rfl)) (by k_dflt (first | exact rfl | assumption)) (by k_dflt (k_asm)) (by k_dflt (k_asm)) (by k_dflt (k_asm)) (by k_dflt (k_asm)) (by k_dflt (k_asm)) (by k_dflt (k_is)) (by k_dflt (k_is)) (by k_dflt (ktr_room)) (by k_dflt (first | exact BindsTo.of_eq rfl | exact binds_K (by k_in) rfl (by k_is) rfl rfl rfl)) (by k_dflt (decide)) (by k_dflt (exact locs rfl)) (by k_dflt (exact rfl)) (by k_dflt (exact rfl)) (by k_dflt (exact rfl)) ?_ | refine code_defO (by exact rfl) (by exact rfl) (by first | exact rfl | assumption) (by k_asm) (by k_asm) (by k_asm) (by k_asm) (by k_asm) (by k_is) (by k_is) (by ktr_room) (by first | exact BindsTo.of_eq rfl | exact binds_K (by k_in) rfl (by k_is) rfl rfl rfl) (by decide) (by exact locs rfl) (by exact rfl) (by exact rfl) (by exact rfl) ?_); k_whole; intro g' L' h' FG' F' N' B' X' T'; (try dsimp only); (try k_lift B'); (try k_fold)) | ((first | with_reducible refine code_defCO (by k_dflt (exact rfl)) (by k_dflt (exact rfl)) (by k_dflt (first | exact rfl | assumption)) (by k_dflt (k_asm)) (by k_dflt (k_asm)) (by k_dflt (k_asm)) (by k_dflt (k_asm)) (by k_dflt (k_asm)) (by k_dflt (k_is)) (by k_dflt (k_is)) (by k_dflt (ktr_room)) (by k_dflt (first | exact BindsTo.of_eq rfl | exact binds_K (by k_in) rfl (by k_is) rfl rfl rfl)) (by k_dflt (exact rfl)) (by k_dflt (decide +kernel)) (by k_dflt (exact rfl)) (by k_dflt (exact rfl)) (by k_dflt (exact rfl)) ?_ | refine code_defCO (by exact rfl) (by exact rfl) (by first | exact rfl | assumption) (by k_asm) (by k_asm) (by k_asm) (by k_asm) (by k_asm) (by k_is) (by k_is) (by ktr_room) (by first | exact BindsTo.of_eq rfl | exact binds_K (by k_in) rfl (by k_is) rfl rfl rfl) (by exact rfl) (by decide +kernel) (by exact rfl) (by exact rfl) (by exact rfl) ?_); k_whole; intro g' L' h' tk' cells' FG' F' N' Y' B' X' T' l1; (try k_lt l1); k_cells Y'; (try simp only [List.cons_append, List.nil_append] at N'); (try dsimp only); (try k_lift B'); (try k_fold)))))))
  (k_with "execs cons" => (k_here; (with_reducible (refine gen_toks ?_)); intro tk))
  (k_with "execs nil" => (k_here; (with_reducible (refine gen_toks ?_)); intro tk))
  (k_with "call builtin:list.append" => (k_here; k_dflt ((first | with_reducible refine app_K (by k_dflt (k_asm)) (by k_dflt (k_asm)) (by k_dflt (k_updF)) (by k_dflt ((simp only [List.length_append, List.length_cons, List.length_nil]; omega))) ?_ | refine app_K (by k_asm) (by k_asm) (by k_updF) (by (simp only [List.length_append, List.length_cons, List.length_nil]; omega)) ?_)); intro h' F' N'; (try dsimp only at N'); (try dsimp only)))
  (k_with "call ref" => (k_here; k_dflt (((with_reducible show wpAny _ _ (call (Value.ref 85) _) _ _ _); first | with_reducible refine abe (by k_dflt (k_asm)) (by k_dflt (k_asm)) (by k_dflt (k_asm)) (by k_dflt (k_asm)) (by k_dflt (k_asm)) (by k_dflt (first | exact rfl | assumption)) (by k_dflt (ktr_room)) (by k_dflt (ktr_units)) (by k_dflt (assumption)) (by k_dflt (omega)) (by k_dflt (omega)) (by k_dflt (omega)) (by k_dflt (omega)) ?_ | refine abe (by k_asm) (by k_asm) (by k_asm) (by k_asm) (by k_asm) (by first | exact rfl | assumption) (by ktr_room) (by ktr_units) (by assumption) (by omega) (by omega) (by omega) (by omega) ?_); k_whole); intro t9 h9 tk9 F9 N9; (try dsimp only); (try k_fold)))
  (k_with "compareOp Lt bytes bytes" => refine lt_bytes ?_)
  (k_with "compareOp LtE bytes bytes" => refine le_bytes ?_)
  (k_with "LeaveK" => ((try ((rename RestIn _ _ _ _ => rI); (rename Fr _ _ _ _ => lF'); (have rJ := RestIn.keeps rI lF'); (try ((rename News _ _ _ _ => lN'); (have rK := RestIn.apart rI lN'))))); (k_dflt ((first | with_reducible refine leaveK_ (by k_dflt (k_asm)) (by k_dflt (k_asm)) ?_ | refine leaveK_ (by k_asm) (by k_asm) ?_); k_whole); intro kF kN; ground_anew kF; (have kX := kFor kF (by k_asm)); (try dsimp only [InitBack, CmpBack, LenBack, StrBack, BoolBack]); (try refine ⟨rfl, ?_⟩); (try dsimp only [CmpBack, LenBack, StrBack, BoolBack]); (try (refine ⟨⟨by omega, by omega⟩, ?_⟩)); (try (refine handed_on rfl ?_; try dsimp only)))))
  (k_with "binaryOp Mult ref int" => (k_here; (with_reducible show wpAny _ _ (binaryOp Operator.Mult (Value.ref _) (Value.int _ _)) _ _ _); k_dflt ((first | with_reducible refine zeros_K (by k_dflt (k_asm)) (by k_dflt (k_asm)) (by k_dflt (k_mem)) ?_ | refine zeros_K (by k_asm) (by k_asm) (by k_mem) ?_)); intro D' h' ws' F' N' l1 i1; (try k_lt l1)))
  (k_with "subscriptTail" => (k_here; (with_reducible show wpAny _ _ (subscriptTail _ _ (Value.bytes _ _) (Value.int 0 _)) _ _ _); k_dflt ((first | with_reducible refine oid0 ?_ | refine oid0 ?_)); intro _ _))
  (k_with "getItem ref int" => (k_here; k_dflt ((first | with_reducible refine cnt_item (by k_dflt (k_asm)) (by k_dflt (k_mem)) (by k_dflt (assumption)) ?_ | refine cnt_item (by k_asm) (by k_mem) (by assumption) ?_)); intro _))
  (k_with "setItem ref int" => (k_here; k_dflt ((first | with_reducible refine cnt_store (by k_dflt (k_asm)) (by k_dflt (k_asm)) (by k_dflt (k_updF)) (by k_dflt (assumption)) ?_ | refine cnt_store (by k_asm) (by k_asm) (by k_updF) (by assumption) ?_)); intro h' ws' F' N' hi'; (try dsimp only at N')))
  (k_with "subscriptTail Name Name ref int" => (k_here; k_dflt (first | ((first | with_reducible refine cnt_sub (by k_dflt (k_asm)) (by k_dflt (k_mem)) (by k_dflt (assumption)) (by k_dflt (omega)) (by k_dflt (omega)) ?_ | refine cnt_sub (by k_asm) (by k_mem) (by assumption) (by omega) (by omega) ?_); intro t9 x9 f9) | ((first | with_reducible refine fan_sub (by k_dflt (k_asm)) (by k_dflt (k_mem)) (by k_dflt (assumption)) (by k_dflt (omega)) (by k_dflt (omega)) ?_ | refine fan_sub (by k_asm) (by k_mem) (by assumption) (by omega) (by omega) ?_); intro t9 x9 f9))))
  (k_with "call ref" => (k_here; k_dflt (((with_reducible show wpAny _ _ (call (Value.ref 154) _) _ _ _); first | with_reducible refine chkW (by k_dflt (k_asm)) (by k_dflt (k_asm)) (by k_dflt (k_asm)) (by k_dflt (k_asm)) (by k_dflt (first | exact rfl | assumption)) (by k_dflt (ktr_room)) (by k_dflt (ktr_units)) (by k_dflt (k_asm)) (by k_dflt (k_mem)) (by k_dflt (k_mem)) (by k_dflt (first | with_reducible assumption | (refine Ne.symm ?_; with_reducible assumption) | omega)) (by k_dflt (omega)) (by k_dflt (omega)) (by k_dflt (assumption)) (by k_dflt (assumption)) (by k_dflt (assumption)) ?_ | refine chkW (by k_asm) (by k_asm) (by k_asm) (by k_asm) (by first | exact rfl | assumption) (by ktr_room) (by ktr_units) (by k_asm) (by k_mem) (by k_mem) (by first | with_reducible assumption | (refine Ne.symm ?_; with_reducible assumption) | omega) (by omega) (by omega) (by assumption) (by assumption) (by assumption) ?_); k_whole); intro h9 tk9 F9 N9; (try dsimp only); (try k_fold)))
  trivial
section
variable {prog : Program} {w : World} {A : Around} {E : Value → Shared → Prop} {s : Shared} {h₀ : Heap} {L D : Addr} {news : List (Addr × Obj)} {vI : List Value} {b c : Array UInt8} {x y n g : Int} {t u : Tok} {value slice : PySem.Expr} {Q : Value → Shared → Prop}
theorem eq_id (hb : KBw.bInts b = [1, 0, 0, x]) (hc : KBw.bInts c = [1, 0, 0, x]) (h : Q (.bool true) s) : wpAny (model prog w) A (compareOp .Eq (.bytes b t) (.bytes c u)) Q E s := by
  obtain rfl : b = c := bInts_inj (hb.trans hc.symm)
  refine eq_bytes ?_
  rw [beq_self_eq_true]; exact h
theorem len_4 (hb : KBw.bInts b = [1, 0, 0, x]) (h : Q (.int 4 (s.toks + 1)) { s with toks := s.toks + 1 + 1 }) : wpAny (model prog w) A (call (.builtin "len") [.bytes b t]) Q E s :=
  KBw.len_K (ks := [1, 0, 0, x]) hb (by simp) h
theorem half (h : ∀ g, 2 * g ≤ x → x < 2 * g + 2 → Q (.int g s.toks) { s with toks := s.toks + 1 }) : wpAny (model prog w) A (binaryOp .FloorDiv (.int x t) (.int 2 u)) Q E s := by
  refine floordiv_int (by decide) (h _ ?_ ?_) (.inl (PyProof.noPylong_small (by decide)))
  · rw [Int.fdiv_eq_ediv_of_nonneg _ (by decide)]; omega
  · rw [Int.fdiv_eq_ediv_of_nonneg _ (by decide)]; omega
end
section
variable {prog : Program} {w : World} {A : Around} {E : Value → Shared → Prop} {Q : Flow → Shared → Prop} {s : Shared} {env : Env} {h₀ : Heap} {L : Addr}
def MidF (m₀ : Str → Option Value) (l : Int) (t1 : Tok) (h : Int) (t2 : Tok) (u : Option Value) : Str → Option Value := fun y => if y = Str.ofString "low" then some (.int l t1) else if y = Str.ofString "high" then some (.int h t2) else if y = Str.ofString "middle" then u else m₀ y
def FfStep (h₀ : Heap) (L : Addr) (news : List (Addr × Obj)) (m₀ : Str → Option Value) (k n l h : Int) (s : Shared) (f : Flow) (s₃ : Shared) : Prop :=
  f = .next ∧ ∃ h' tk m' l' t1 h'' t2, s₃ = { s with heap := h', toks := tk } ∧ Fr h₀ L h' m' ∧ News h₀ L h' news ∧ m' (Str.ofString "low") = some (.int l' t1) ∧ m' (Str.ofString "high") = some (.int h'' t2) ∧
    (∀ y, y ≠ Str.ofString "low" → y ≠ Str.ofString "high" → y ≠ Str.ofString "middle" → m' y = m₀ y) ∧ 0 ≤ l' ∧ l' ≤ k ∧ k ≤ h'' ∧ h'' ≤ n ∧ h'' - l' < h - l
theorem FfStep.intro {news : List (Addr × Obj)} {m₀ m' : Str → Option Value} {k n l h l' h'' : Int} {t1 t2 : Tok} {h' : Heap} {tk : Nat}
    (F : Fr h₀ L h' m') (N : News h₀ L h' news) (hl : m' (Str.ofString "low") = some (.int l' t1)) (hh : m' (Str.ofString "high") = some (.int h'' t2))
    (hm : ∀ y, y ≠ Str.ofString "low" → y ≠ Str.ofString "high" → y ≠ Str.ofString "middle" → m' y = m₀ y) (hi : 0 ≤ l' ∧ l' ≤ k ∧ k ≤ h'' ∧ h'' ≤ n ∧ h'' - l' < h - l) : FfStep h₀ L news m₀ k n l h s .next { s with heap := h', toks := tk } :=
  ⟨rfl, h', tk, m', l', t1, h'', t2, rfl, F, N, hl, hh, hm, hi⟩
theorem While_ff {test : PySem.Expr} {body : List Stmt} {pos : Pos} {m₀ : Str → Option Value} {news : List (Addr × Obj)} {k n : Int} {tl th : Tok}
    (F : Fr h₀ L s.heap m₀) (N : News h₀ L s.heap news) (hl : m₀ (Str.ofString "low") = some (.int 0 tl)) (hh : m₀ (Str.ofString "high") = some (.int n th)) (hk : 0 ≤ k) (hkn : k ≤ n)
    (turn : ∀ l t1 h t2 u h₁ tk₁, 0 ≤ l → l ≤ k → k ≤ h → h ≤ n → Fr h₀ L h₁ (MidF m₀ l t1 h t2 u) → News h₀ L h₁ news →
      wpAny (model prog w) A (isTrue test env (eval test env)) (fun b s₂ =>
        if b = true then wpAny (model prog w) A (execs body env) (FfStep h₀ L news m₀ k n l h s) E s₂ else Q .next s₂) E { s with heap := h₁, toks := tk₁ })
    (hE : PassesOwn (model prog w) A env E := by passes_own) :
    wpAny (model prog w) A (exec (.While test body [] pos) env) Q E s := by
  refine While_inv (fun j m₁ news₁ => news₁ = news ∧ ∃ l t1 h t2, m₁ (Str.ofString "low") = some (.int l t1) ∧ m₁ (Str.ofString "high") = some (.int h t2) ∧
    (∀ y, y ≠ Str.ofString "low" → y ≠ Str.ofString "high" → y ≠ Str.ofString "middle" → m₁ y = m₀ y) ∧ 0 ≤ l ∧ l ≤ k ∧ k ≤ h ∧ h ≤ n ∧ j = (h - l).toNat) F N ⟨rfl, 0, tl, n, th, hl, hh, fun _ _ _ _ => rfl, Int.le_refl _, hk, hkn, Int.le_refl _, rfl⟩ ?_ hE
  rintro j m₁ news₁ h₁ tk₁ F₁ N₁ ⟨rfl, l, t1, h, t2, e1, e2, e3, i1, i2, i3, i4, rfl⟩
  have em : m₁ = MidF m₀ l t1 h t2 (m₁ (Str.ofString "middle")) := by
    funext y
    unfold MidF
    by_cases q1 : y = Str.ofString "low"
    · rw [if_pos q1, q1, e1]
    · rw [if_neg q1]
      by_cases q2 : y = Str.ofString "high"
      · rw [if_pos q2, q2, e2]
      · rw [if_neg q2]
        by_cases q3 : y = Str.ofString "middle"
        · rw [if_pos q3, q3]
        · rw [if_neg q3]; exact e3 y q1 q2 q3
  rw [em] at F₁
  refine wpAny_mono (turn l t1 h t2 _ h₁ tk₁ i1 i2 i3 i4 F₁ N₁) (fun b s₂ q => ?_) fun _ _ e => e
  cases b with
  | false => exact q
  | true =>
    simp only [if_true] at q ⊢
    refine wpAny_mono q (fun f s₃ r => ?_) fun _ _ e => e
    obtain ⟨rfl, h', tk, m', l', t1', h'', t2', rfl, F', N', a1, a2, a3, b1, b2, b3, b4, b5⟩ := r
    exact WhileStep.intro F' N' (by omega) ⟨rfl, l', t1', h'', t2', a1, a2, a3, b1, b2, b3, b4, rfl⟩
end
theorem full_split {h₀ h : Heap} {L D : Addr} {o : Obj} {full : List (Addr × Obj)} (N : News h₀ L h full) (hm : (D, o) ∈ full) :
    News h₀ L h [(D, o)] ∧ News h₀ L h (full.filter fun p => p.1 != D) ∧ Apart [(D, o)] (full.filter fun p => p.1 != D) :=
  ⟨fun p hp => by rw [List.mem_singleton.mp hp]; exact N _ hm, fun p hp => N p (List.mem_filter.mp hp).1, Apart.mk1 fun p hp e => by
    have := (List.mem_filter.mp hp).2
    rw [e, bne_self_eq_false] at this
    cases this⟩
theorem full_join {h₀ h : Heap} {L D : Addr} {o : Obj} {full : List (Addr × Obj)} {g : Heap} (N₀ : News h₀ L g full) (hm : (D, o) ∈ full) (N : News h₀ L h ([(D, o)] ++ full.filter fun p => p.1 != D)) : News h₀ L h full := fun p hp => by
  by_cases e : p.1 = D
  · have h1 := (N₀ p hp).1
    have h2 := (N₀ _ hm).1
    rw [e] at h1
    have e2 : p.2 = o := Option.some.inj (h1.symm.trans h2)
    have e3 : p = (D, o) := Prod.ext e e2
    rw [e3]
    exact N _ (.head _)
  · exact N p (List.mem_append_right _ (List.mem_filter.mpr ⟨hp, by simpa using e⟩))
theorem wordsSFromc : True := by
  (k_with "exec While Compare cons nil" => (k_here; (with_reducible show wpAny _ _ (exec (Stmt.While _ _ _ _) _) _ _ _); refine hold ?_))
  trivial

theorem wordsSFromd : True := by
  (k_with "binaryOp FloorDiv int int" => (k_here; (with_reducible show wpAny _ _ (binaryOp Operator.FloorDiv (Value.int _ _) (Value.int 2 _)) _ _ _); k_dflt ((first | with_reducible refine half ?_ | refine half ?_)); intro g9 hg9 hg8))
  trivial

theorem wordsSFrome : True := by
  (k_with "subscriptTail Name Name ref int" => (k_here; (with_reducible show wpAny _ _ (subscriptTail _ _ (Value.ref _) (Value.int _ _)) _ _ _); k_dflt ((first | with_reducible refine id_item (by k_dflt (k_asm)) (by k_dflt (k_mem)) (by k_dflt (assumption)) (by k_dflt (omega)) (by k_dflt (omega)) (by k_dflt (omega)) ?_ | refine id_item (by k_asm) (by k_mem) (by assumption) (by omega) (by omega) (by omega) ?_)); intro b9 t9 hb9))
  trivial

theorem wordsSFromf : True := by
  (k_with "compareOp Lt bytes bytes" => (k_here; k_dflt ((first | with_reducible refine lt_id (by k_dflt (assumption)) (by k_dflt (assumption)) (by k_dflt (omega)) (by k_dflt (omega)) (by k_dflt (omega)) (by k_dflt (omega)) ?_ | refine lt_id (by assumption) (by assumption) (by omega) (by omega) (by omega) (by omega) ?_))))
  trivial

section
variable {w : World} {p : Program} {loose : List Str} {mean : ExcName → Option Value} {mg mb : Str → Option Value}
  {dp un : Nat} {gd : Option (List Code)} {cn : Str} {cs : Scope} {a : Addr} {ccd : Value} {cl : List (Str × Addr)} {outer : List Env} {A₀ : Around} {base h₀ : Heap} {L : Addr} {m : Str → Option Value} {s : Shared} {Q E : Value → Shared → Prop}

theorem ffrom {full : List (Addr × Obj)} {lI : Addr} {vI : List Value} {n k : Int} {b : Array UInt8} {ta tb tc : Tok}
    (B : Below A₀ base outer h₀) (F : Fr h₀ L s.heap m) (X : (hd.heap_1 w.params).In h₀) (N : News h₀ L s.heap full) (T : Top p loose mean mg mb h₀) (hk : cs.kind = .function)
    (hd : dp + 2 < recursionLimit) (hu : un + 16 < cLine)
    (hm : (lI, LCg.lst vI) ∈ full) (hV : IdsV n vI) (hn3 : n ≤ 3) (hp0 : 0 ≤ k) (hp1 : k < n) (hb : KBw.bInts b = [1, 0, 0, k])
    (ret : ∀ (t : Tok) (h' : Heap) (tk' : Nat), Fr h₀ L h' m → News h₀ L h' full → Q (.int k t) { s with heap := h', toks := tk' }) :
    wpAny (model PySem.Challenge.rw_nt0280_01.row.prog w) (ktrTop dp un gd cn cs L a ccd cl outer) (call (.ref 175) [.ref lI, .int 0 ta, .int n tb, .bytes b tc]) Q E s := by
  revert X; k_fill; intro X
  replace ret : ∀ (t : Tok) (h' : Heap) (tk' : Nat), Fr h₀ L h' m → News h₀ L h' ([(lI, LCg.lst vI)] ++ full.filter fun p => p.1 != lI) → Q (.int k t) { s with heap := h', toks := tk' } := fun t h' tk' F' N' => ret t h' tk' F' (full_join N hm N')
  obtain ⟨N, NR, hx⟩ := full_split N hm
  revert NR hx ret
  generalize (full.filter fun p => p.1 != lI) = news
  intro ret NR hx
  clear hm
  refine wpAny_call ?_
  k_dflt (first   | (refine' code_defR ?k1 ?k2 ?k3 N NR hx ?k5 ?kA ?kF ?kK ?k6 ?k7 ?k8 ?k9 ?kB ?_ ?c2 ?c3 ?c4 ?c5; (case kA => exact rfl); (case kF => exact rfl); (case kK => first | exact rfl | assumption); (case k1 => k_asm); (case k2 => k_asm); (case k3 => k_asm); (case k5 => k_asm); (case k6 => k_is); (case k7 => k_is); (case k8 => ktr_room); (case k9 => first | exact BindsTo.of_eq rfl | exact binds_K (by k_in) rfl (by k_is) rfl rfl rfl); (case c5 => decide); (case kB => exact locs rfl); (case c2 => exact rfl); (case c3 => exact rfl); (case c4 => exact rfl); k_whole; clear N NR hx; intro g' L' h' FG' F' N' B' X' T' R' l1; (try k_lt l1); (try dsimp only); (try k_lift B'); (try k_fold))   | (refine' code_defCR ?k1 ?k2 ?k3 N NR hx ?k5 ?kA ?kF ?kK ?k6 ?k7 ?k8 ?k9 ?kB ?kD ?_ ?c2 ?c3 ?c4; (case kA => exact rfl); (case kF => exact rfl); (case kK => first | exact rfl | assumption); (case k1 => k_asm); (case k2 => k_asm); (case k3 => k_asm); (case k5 => k_asm); (case k6 => k_is); (case k7 => k_is); (case k8 => ktr_room); (case k9 => first | exact BindsTo.of_eq rfl | exact binds_K (by k_in) rfl (by k_is) rfl rfl rfl); (case kB => exact rfl); (case kD => decide +kernel); (case c2 => exact rfl); (case c3 => exact rfl); (case c4 => exact rfl); k_whole; clear N NR hx; intro g' L' h' tk' cells' FG' F' N' Y' B' X' T' R' l1; (try k_lt l1); k_cells Y'; (try simp only [List.cons_append, List.nil_append] at N'); (try dsimp only); (try k_lift B'); (try k_fold)))
  w_strict (repeat' (first | (k_unfold; (try dsimp only)) | walk1 | (dsimp only; walk1) | (leave1; try dsimp only) | (dsimp only; k_unfold; (try dsimp only)) | fail "no step"))
  unfold Hold
  refine While_ff (by k_asm) (by k_asm) rfl rfl hp0 (Int.le_of_lt hp1) ?_
  intro l t1 h t2 u h₁ tk₁ i1 i2 i3 i4 F1 N1
  (try dsimp only [MidF] at F1)
  w_strict (repeat' (first | (k_unfold; (try dsimp only)) | walk1 | (dsimp only; walk1) | (leave1; try dsimp only) | (dsimp only; k_unfold; (try dsimp only)) | fail "no step"))
  · refine FfStep.intro (by k_asm) (by k_asm) rfl rfl ?_ ⟨by omega, by omega, by omega, by omega, by omega⟩
    intro y q1 q2 q3; simp only [if_neg q1, if_neg q2, if_neg q3, MidF]
  · refine FfStep.intro (by k_asm) (by k_asm) rfl rfl ?_ ⟨by omega, by omega, by omega, by omega, by omega⟩
    intro y q1 q2 q3; simp only [if_neg q1, if_neg q2, if_neg q3, MidF]
  · have e : l = k := by omega
    rw [e]
    exact ret _ _ _ (by k_asm) ((by assumption : RestIn _ _ _ _).with (by k_asm))
end

end

section
theorem wordsSFindb : True := by
  w_top off
  k_with_none
  (k_with "exec For Name Subscript cons nil" => (k_here; (rename Fr _ _ _ _ => lF'); (with_unfolding_all refine For_invVF lF' (by exact rfl) (by exact rfl) ?_; k_whole)))
  (k_with "call ref" => (k_here; k_dflt (first | (refine call_meth (by k_asm) (by k_mem) ?_; k_whole; (first | ((first | with_reducible refine code_defO (by k_dflt (exact rfl)) (by k_dflt (exact rfl)) (by k_dflt (first | exact rfl | assumption)) (by k_dflt (k_asm)) (by k_dflt (k_asm)) (by k_dflt (k_asm)) (by k_dflt (k_asm)) (by k_dflt (k_asm)) (by k_dflt (k_is)) (by k_dflt (k_is)) (by k_dflt (ktr_room)) (by k_dflt (first | exact BindsTo.of_eq rfl | exact binds_K (by k_in) rfl (by k_is) rfl rfl rfl)) (by k_dflt (decide)) (by k_dflt (exact locs rfl)) (by k_dflt (exact rfl)) (by k_dflt (exact rfl)) (by k_dflt (exact rfl)) ?_ | refine code_defO (by exact rfl) (by exact rfl) (by first | exact rfl | assumption) (by k_asm) (by k_asm) (by k_asm) (by k_asm) (by k_asm) (by k_is) (by k_is) (by ktr_room) (by first | exact BindsTo.of_eq rfl | exact binds_K (by k_in) rfl (by k_is) rfl rfl rfl) (by decide) (by exact locs rfl) (by exact rfl) (by exact rfl) (by exact rfl) ?_); k_whole; intro g' L' h' FG' F' N' B' X' T'; (try dsimp only); (try k_lift B'); (try k_fold)) | ((first | with_reducible refine code_defCO (by k_dflt (exact rfl)) (by k_dflt (exact rfl)) (by k_dflt (first | exact rfl | assumption)) (by k_dflt (k_asm)) (by k_dflt (k_asm)) (by k_dflt (k_asm)) (by k_dflt (k_asm)) (by k_dflt (k_asm)) (by k_dflt (k_is)) (by k_dflt (k_is)) (by k_dflt (ktr_room)) (by k_dflt (first | exact BindsTo.of_eq rfl | exact binds_K (by k_in) rfl (by k_is) rfl rfl rfl)) (by k_dflt (exact rfl)) (by k_dflt (decide +kernel)) (by k_dflt (exact rfl)) (by k_dflt (exact rfl)) (by k_dflt (exact rfl)) ?_ | refine code_defCO (by exact rfl) (by exact rfl) (by first | exact rfl | assumption) (by k_asm) (by k_asm) (by k_asm) (by k_asm) (by k_asm) (by k_is) (by k_is) (by ktr_room) (by first | exact BindsTo.of_eq rfl | exact binds_K (by k_in) rfl (by k_is) rfl rfl rfl) (by exact rfl) (by decide +kernel) (by exact rfl) (by exact rfl) (by exact rfl) ?_); k_whole; intro g' L' h' tk' cells' FG' F' N' Y' B' X' T' l1; (try k_lt l1); k_cells Y'; (try simp only [List.cons_append, List.nil_append] at N'); (try dsimp only); (try k_lift B'); (try k_fold)))) | ((first | with_reducible refine call_cls (by k_dflt (k_asm)) (by k_dflt (k_asm)) (by k_dflt (k_asm)) (by k_dflt (k_is)) (by k_dflt (k_is)) (by k_dflt (k_is)) ?_ | refine call_cls (by k_asm) (by k_asm) (by k_asm) (by k_is) (by k_is) (by k_is) ?_); k_whole; intro x' d' h' F' N' l1 l2; (try k_lt l1); (try k_lt2 l2); (try k_sweep); (first | ((first | with_reducible refine code_defO (by k_dflt (exact rfl)) (by k_dflt (exact rfl)) (by k_dflt (first | exact rfl | assumption)) (by k_dflt (k_asm)) (by k_dflt (k_asm)) (by k_dflt (k_asm)) (by k_dflt (k_asm)) (by k_dflt (k_asm)) (by k_dflt (k_is)) (by k_dflt (k_is)) (by k_dflt (ktr_room)) (by k_dflt (first | exact BindsTo.of_eq rfl | exact binds_K (by k_in) rfl (by k_is) rfl rfl rfl)) (by k_dflt (decide)) (by k_dflt (exact locs rfl)) (by k_dflt (exact rfl)) (by k_dflt (exact rfl)) (by k_dflt (exact rfl)) ?_ | refine code_defO (by exact rfl) (by exact rfl) (by first | exact rfl | assumption) (by k_asm) (by k_asm) (by k_asm) (by k_asm) (by k_asm) (by k_is) (by k_is) (by ktr_room) (by first | exact BindsTo.of_eq rfl | exact binds_K (by k_in) rfl (by k_is) rfl rfl rfl) (by decide) (by exact locs rfl) (by exact rfl) (by exact rfl) (by exact rfl) ?_); k_whole; intro g' L' h' FG' F' N' B' X' T'; (try dsimp only); (try k_lift B'); (try k_fold)) | ((first | with_reducible refine code_defCO (by k_dflt (exact rfl)) (by k_dflt (exact rfl)) (by k_dflt (first | exact rfl | assumption)) (by k_dflt (k_asm)) (by k_dflt (k_asm)) (by k_dflt (k_asm)) (by k_dflt (k_asm)) (by k_dflt (k_asm)) (by k_dflt (k_is)) (by k_dflt (k_is)) (by k_dflt (ktr_room)) (by k_dflt (first | exact BindsTo.of_eq rfl | exact binds_K (by k_in) rfl (by k_is) rfl rfl rfl)) (by k_dflt (exact rfl)) (by k_dflt (decide +kernel)) (by k_dflt (exact rfl)) (by k_dflt (exact rfl)) (by k_dflt (exact rfl)) ?_ | refine code_defCO (by exact rfl) (by exact rfl) (by first | exact rfl | assumption) (by k_asm) (by k_asm) (by k_asm) (by k_asm) (by k_asm) (by k_is) (by k_is) (by ktr_room) (by first | exact BindsTo.of_eq rfl | exact binds_K (by k_in) rfl (by k_is) rfl rfl rfl) (by exact rfl) (by decide +kernel) (by exact rfl) (by exact rfl) (by exact rfl) ?_); k_whole; intro g' L' h' tk' cells' FG' F' N' Y' B' X' T' l1; (try k_lt l1); k_cells Y'; (try simp only [List.cons_append, List.nil_append] at N'); (try dsimp only); (try k_lift B'); (try k_fold)))) | ((first | with_reducible refine wpAny_call ?_ | refine wpAny_call ?_); (first | ((first | with_reducible refine code_defO (by k_dflt (exact rfl)) (by k_dflt (exact rfl)) (by k_dflt (first | exact rfl | assumption)) (by k_dflt (k_asm)) (by k_dflt (k_asm)) (by k_dflt (k_asm)) (by k_dflt (k_asm)) (by k_dflt (k_asm)) (by k_dflt (k_is)) (by k_dflt (k_is)) (by k_dflt (ktr_room)) (by k_dflt (first | exact BindsTo.of_eq rfl | exact binds_K (by k_in) rfl (by k_is) rfl rfl rfl)) (by k_dflt (decide)) (by k_dflt (exact locs rfl)) (by k_dflt (exact rfl)) (by k_dflt (exact rfl)) (by k_dflt (exact rfl)) ?_ | refine code_defO (by exact rfl) (by exact rfl) (by first | exact rfl | assumption) (by k_asm) (by k_asm) (by k_asm) (by k_asm) (by k_asm) (by k_is) (by k_is) (by ktr_room) (by first | exact BindsTo.of_eq rfl | exact binds_K (by k_in) rfl (by k_is) rfl rfl rfl) (by decide) (by exact locs rfl) (by exact rfl) (by exact rfl) (by exact rfl) ?_); k_whole; intro g' L' h' FG' F' N' B' X' T'; (try dsimp only); (try k_lift B'); (try k_fold)) | ((first | with_reducible refine code_defCO (by k_dflt (exact rfl)) (by k_dflt (exact rfl)) (by k_dflt (first | exact rfl | assumption)) (by k_dflt (k_asm)) (by k_dflt (k_asm)) (by k_dflt (k_asm)) (by k_dflt (k_asm)) (by k_dflt (k_asm)) (by k_dflt (k_is)) (by k_dflt (k_is)) (by k_dflt (ktr_room)) (by k_dflt (first | exact BindsTo.of_eq rfl | exact binds_K (by k_in) rfl (by k_is) rfl rfl rfl)) (by k_dflt (exact rfl)) (by k_dflt (decide +kernel)) (by k_dflt (exact rfl)) (by k_dflt (exact rfl)) (by k_dflt (exact rfl)) ?_ | refine code_defCO (by exact rfl) (by exact rfl) (by first | exact rfl | assumption) (by k_asm) (by k_asm) (by k_asm) (by k_asm) (by k_asm) (by k_is) (by k_is) (by ktr_room) (by first | exact BindsTo.of_eq rfl | exact binds_K (by k_in) rfl (by k_is) rfl rfl rfl) (by exact rfl) (by decide +kernel) (by exact rfl) (by exact rfl) (by exact rfl) ?_); k_whole; intro g' L' h' tk' cells' FG' F' N' Y' B' X' T' l1; (try k_lt l1); k_cells Y'; (try simp only [List.cons_append, List.nil_append] at N'); (try dsimp only); (try k_lift B'); (try k_fold)))))))
  (k_with "execs cons" => (k_here; (with_reducible (refine gen_toks ?_)); intro tk))
  (k_with "execs nil" => (k_here; (with_reducible (refine gen_toks ?_)); intro tk))
  (k_with "call builtin:list.append" => (k_here; k_dflt ((first | with_reducible refine app_K (by k_dflt (k_asm)) (by k_dflt (k_asm)) (by k_dflt (k_updF)) (by k_dflt ((simp only [List.length_append, List.length_cons, List.length_nil]; omega))) ?_ | refine app_K (by k_asm) (by k_asm) (by k_updF) (by (simp only [List.length_append, List.length_cons, List.length_nil]; omega)) ?_)); intro h' F' N'; (try dsimp only at N'); (try dsimp only)))
  (k_with "call ref" => (k_here; k_dflt (((with_reducible show wpAny _ _ (call (Value.ref 85) _) _ _ _); first | with_reducible refine abe (by k_dflt (k_asm)) (by k_dflt (k_asm)) (by k_dflt (k_asm)) (by k_dflt (k_asm)) (by k_dflt (k_asm)) (by k_dflt (first | exact rfl | assumption)) (by k_dflt (ktr_room)) (by k_dflt (ktr_units)) (by k_dflt (assumption)) (by k_dflt (omega)) (by k_dflt (omega)) (by k_dflt (omega)) (by k_dflt (omega)) ?_ | refine abe (by k_asm) (by k_asm) (by k_asm) (by k_asm) (by k_asm) (by first | exact rfl | assumption) (by ktr_room) (by ktr_units) (by assumption) (by omega) (by omega) (by omega) (by omega) ?_); k_whole); intro t9 h9 tk9 F9 N9; (try dsimp only); (try k_fold)))
  (k_with "compareOp Lt bytes bytes" => refine lt_bytes ?_)
  (k_with "compareOp LtE bytes bytes" => refine le_bytes ?_)
  (k_with "subscriptTail" => (k_here; (with_reducible show wpAny _ _ (subscriptTail _ _ (Value.ref _) (Value.str _ _)) _ _ _); k_dflt ((first | with_reducible refine kda_item (knd := PySem.strKind _ _) (by k_dflt (k_asm)) (by k_dflt (k_mem)) (by k_dflt (k_asm)) (strKind_is _ _ _ _) (by k_dflt (rfl)) ?_ | refine kda_item (knd := PySem.strKind _ _) (by k_asm) (by k_mem) (by k_asm) (strKind_is _ _ _ _) (by rfl) ?_))))
  (k_with "subscriptTail" => (k_here; (with_reducible show wpAny _ _ (subscriptTail _ _ (Value.ref _) (Value.bytes _ _)) _ _ _); k_dflt ((first | with_reducible refine kda_item (knd := PySem.W.bytesKind _ _) (by k_dflt (k_asm)) (by k_dflt (k_mem)) (by k_dflt (k_asm)) (bytesKind_at _ _ _ _) (by k_dflt (first | exact value_one _ _ | rfl)) ?_ | refine kda_item (knd := PySem.W.bytesKind _ _) (by k_asm) (by k_mem) (by k_asm) (bytesKind_at _ _ _ _) (by first | exact value_one _ _ | rfl) ?_))))
  (k_with "setItem ref str" => (k_here; k_dflt ((first | with_reducible refine kda_set (knd := PySem.strKind _ _) (by k_dflt (k_asm)) (by k_dflt (k_asm)) (by k_dflt (k_updF)) (by k_dflt (k_asm)) (strKind_is _ _ _ _) (by k_dflt (rw [sizeLine_eq]; exact Nat.le_of_ble_eq_true (by with_unfolding_all rfl))) ?_ | refine kda_set (knd := PySem.strKind _ _) (by k_asm) (by k_asm) (by k_updF) (by k_asm) (strKind_is _ _ _ _) (by rw [sizeLine_eq]; exact Nat.le_of_ble_eq_true (by with_unfolding_all rfl)) ?_)); intro h' o' F' N' hd'; (try dsimp only at N'); (try rw [stored_mixed] at hd'); (try rw [stored_nil] at hd')))
  (k_with "compareOp NotIn bytes ref" => (k_here; k_dflt ((first | with_reducible refine notin_bytes (by k_dflt (k_asm)) (by k_dflt (k_mem)) (by k_dflt (k_asm)) (by k_dflt (k_asm)) (by k_dflt (first | rfl | exact value_is _ _)) ?_ | refine notin_bytes (by k_asm) (by k_mem) (by k_asm) (by k_asm) (by first | rfl | exact value_is _ _) ?_))))
  (k_with "setItem ref bytes" => (k_here; k_dflt ((first | with_reducible refine kda_set (knd := PySem.W.bytesKind _ _) (by k_dflt (k_asm)) (by k_dflt (k_asm)) (by k_dflt (k_updF)) (by k_dflt (k_asm)) (bytesKind_at _ _ _ _) (by k_dflt (rw [sizeLine_eq]; exact Nat.le_of_ble_eq_true (by with_unfolding_all rfl))) ?_ | refine kda_set (knd := PySem.W.bytesKind _ _) (by k_asm) (by k_asm) (by k_updF) (by k_asm) (bytesKind_at _ _ _ _) (by rw [sizeLine_eq]; exact Nat.le_of_ble_eq_true (by with_unfolding_all rfl)) ?_)); intro h' o' F' N' hd'; (try dsimp only at N'); (try rw [stored_mixed] at hd'); (try rw [stored_nil] at hd')))
  (k_with "call builtin:len" => (k_here; (with_reducible show wpAny _ _ (call (Value.builtin "len") [Value.ref _]) _ _ _); k_dflt ((first | with_reducible refine kda_len (knd := PySem.W.bytesKind _ _) (by k_dflt (k_asm)) (by k_dflt (k_mem)) (by k_dflt (k_asm)) (by k_dflt (k_asm)) (Nat.le_of_ble_eq_true (by with_unfolding_all rfl)) ?_ | refine kda_len (knd := PySem.W.bytesKind _ _) (by k_asm) (by k_mem) (by k_asm) (by k_asm) (Nat.le_of_ble_eq_true (by with_unfolding_all rfl)) ?_))))
  (k_with "call type:bytes" => (k_here; (with_reducible show wpAny _ _ (call (Value.type "bytes") [Value.bytes _ _]) _ _ _); (refine call_bytesB ?_)))
  (k_with "LeaveK" => ((try ((rename RestIn _ _ _ _ => rI); (rename Fr _ _ _ _ => lF'); (have rJ := RestIn.keeps rI lF'); (try ((rename News _ _ _ _ => lN'); (have rK := RestIn.apart rI lN'))))); (k_dflt ((first | with_reducible refine leaveK_ (by k_dflt (k_asm)) (by k_dflt (k_asm)) ?_ | refine leaveK_ (by k_asm) (by k_asm) ?_); k_whole); intro kF kN; ground_anew kF; (have kX := kFor kF (by k_asm)); (try dsimp only [InitBack, CmpBack, LenBack, StrBack, BoolBack]); (try refine ⟨rfl, ?_⟩); (try dsimp only [CmpBack, LenBack, StrBack, BoolBack]); (try (refine ⟨⟨by omega, by omega⟩, ?_⟩)); (try (refine handed_on rfl ?_; try dsimp only)))))
  (k_with "setAttr ref" => (k_here; k_dflt ((first | with_reducible refine exc_set (K := Mine.hd.heap_1 _) (by k_dflt (k_asm)) (by k_dflt (k_asm)) (by k_dflt (k_asm)) (by k_dflt ((intro p hp; first | exact nomatch hp))) (by k_dflt (k_is)) (by k_dflt (k_is)) (by k_dflt ((intro self; exact PySem.F.store_Exception.passes self))) (by k_dflt (decide)) (by k_dflt (decide)) (by k_dflt (exact rfl)) (by k_dflt (k_is)) ?_ | refine exc_set (K := Mine.hd.heap_1 _) (by k_asm) (by k_asm) (by k_asm) (by (intro p hp; first | exact nomatch hp)) (by k_is) (by k_is) (by (intro self; exact PySem.F.store_Exception.passes self)) (by decide) (by decide) (by exact rfl) (by k_is) ?_); intro h' D oD tk F' N' hpD hDe); (try dsimp only)))
  (k_with "call ref" => (k_here; k_dflt (((with_reducible show wpAny _ _ (call (Value.ref 64) _) _ _ _); first | with_reducible refine badpack (by k_dflt (k_asm)) (by k_dflt (k_asm)) (by k_dflt (k_asm)) (by k_dflt (k_asm)) (by k_dflt (first | exact rfl | assumption)) (by k_dflt (ktr_room)) (by k_dflt (ktr_units)) (by k_dflt (k_asm)) ?_ | refine badpack (by k_asm) (by k_asm) (by k_asm) (by k_asm) (by first | exact rfl | assumption) (by ktr_room) (by ktr_units) (by k_asm) ?_); k_whole); intro e9 t9 d9 o9 h9 tk9 F9 N9; (try dsimp only); (try k_fold)))
  (k_with "exec Raise some none" => (k_here; k_dflt ((first | with_reducible refine Raise_x (K := Mine.hd.heap_1 _) (C := 64) (by k_dflt (k_asm)) (by k_dflt (k_is)) (by k_dflt (decide)) (by k_dflt (first | exact rfl | assumption)) ?_ | refine Raise_x (K := Mine.hd.heap_1 _) (C := 64) (by k_asm) (by k_is) (by decide) (by first | exact rfl | assumption) ?_); k_whole)))
  (k_with "RaisableX" => (k_here; k_dflt ((first | with_reducible refine raisable_x (by k_dflt (k_asm)) (by k_dflt (k_asm)) ?_ | refine raisable_x (by k_asm) (by k_asm) ?_); k_whole)))
  (k_with "leaving ref" => (k_here; k_dflt ((first | with_reducible refine leave_X (by k_dflt (assumption)) (by k_dflt (k_asm)) (by k_dflt (k_asm)) ?_ (by k_dflt (exact rfl)) | refine leave_X (by assumption) (by k_asm) (by k_asm) ?_ (by exact rfl)); k_whole); intro h' R' U'; (try dsimp only at R' U' ⊢)))
  (k_with "binaryOp Mult ref int" => (k_here; (with_reducible show wpAny _ _ (binaryOp Operator.Mult (Value.ref _) (Value.int _ _)) _ _ _); k_dflt ((first | with_reducible refine zeros_K (by k_dflt (k_asm)) (by k_dflt (k_asm)) (by k_dflt (k_mem)) ?_ | refine zeros_K (by k_asm) (by k_asm) (by k_mem) ?_)); intro D' h' ws' F' N' l1 i1; (try k_lt l1)))
  (k_with "subscriptTail" => (k_here; (with_reducible show wpAny _ _ (subscriptTail _ _ (Value.bytes _ _) (Value.int 0 _)) _ _ _); k_dflt ((first | with_reducible refine oid0 ?_ | refine oid0 ?_)); intro _ _))
  (k_with "getItem ref int" => (k_here; k_dflt ((first | with_reducible refine cnt_item (by k_dflt (k_asm)) (by k_dflt (k_mem)) (by k_dflt (assumption)) ?_ | refine cnt_item (by k_asm) (by k_mem) (by assumption) ?_)); intro _))
  (k_with "setItem ref int" => (k_here; k_dflt ((first | with_reducible refine cnt_store (by k_dflt (k_asm)) (by k_dflt (k_asm)) (by k_dflt (k_updF)) (by k_dflt (assumption)) ?_ | refine cnt_store (by k_asm) (by k_asm) (by k_updF) (by assumption) ?_)); intro h' ws' F' N' hi'; (try dsimp only at N')))
  (k_with "subscriptTail Name Name ref int" => (k_here; k_dflt (first | ((first | with_reducible refine cnt_sub (by k_dflt (k_asm)) (by k_dflt (k_mem)) (by k_dflt (assumption)) (by k_dflt (omega)) (by k_dflt (omega)) ?_ | refine cnt_sub (by k_asm) (by k_mem) (by assumption) (by omega) (by omega) ?_); intro t9 x9 f9) | ((first | with_reducible refine fan_sub (by k_dflt (k_asm)) (by k_dflt (k_mem)) (by k_dflt (assumption)) (by k_dflt (omega)) (by k_dflt (omega)) ?_ | refine fan_sub (by k_asm) (by k_mem) (by assumption) (by omega) (by omega) ?_); intro t9 x9 f9))))
  (k_with "call ref" => (k_here; k_dflt (((with_reducible show wpAny _ _ (call (Value.ref 71) _) _ _ _); first | with_reducible refine be4 (by k_dflt (k_asm)) (by k_dflt (k_asm)) (by k_dflt (k_asm)) (by k_dflt (k_asm)) (by k_dflt (k_asm)) (by k_dflt (first | exact rfl | assumption)) (by k_dflt (ktr_room)) (by k_dflt (ktr_units)) (by k_dflt (first | exact .inl rfl | exact .inr rfl)) ?_ | refine be4 (by k_asm) (by k_asm) (by k_asm) (by k_asm) (by k_asm) (by first | exact rfl | assumption) (by ktr_room) (by ktr_units) (by first | exact .inl rfl | exact .inr rfl) ?_); k_whole); intro b9 t9 h9 tk9 hb9 F9 N9; (try dsimp only); (try k_fold)))
  (k_with "call ref" => (k_here; k_dflt (((with_reducible show wpAny _ _ (call (Value.ref 121) _) _ _ _); first | with_reducible refine dig2c (by k_dflt (k_asm)) (by k_dflt (k_asm)) (by k_dflt (k_asm)) (by k_dflt (k_asm)) (by k_dflt (k_asm)) (by k_dflt (first | exact rfl | assumption)) (by k_dflt (ktr_room)) (by k_dflt (ktr_units)) (by k_dflt (assumption)) (by k_dflt (assumption)) (by k_dflt (assumption)) ?_ | refine dig2c (by k_asm) (by k_asm) (by k_asm) (by k_asm) (by k_asm) (by first | exact rfl | assumption) (by ktr_room) (by ktr_units) (by assumption) (by assumption) (by assumption) ?_); k_whole); intro b9 t9 h9 tk9 hb9 F9 N9; (try dsimp only); (try k_fold)))
  (k_with "call ref" => (k_here; k_dflt (((with_reducible show wpAny _ _ (call (Value.ref 161) _) _ _ _); first | with_reducible refine plc (by k_dflt (k_asm)) (by k_dflt (k_asm)) (by k_dflt (k_asm)) (by k_dflt (k_asm)) (by k_dflt (first | exact rfl | assumption)) (by k_dflt (ktr_room)) (by k_dflt (ktr_units)) (by k_dflt (k_asm)) (by k_dflt (assumption)) (by k_dflt (omega)) (by k_dflt (omega)) (by k_dflt (omega)) (by k_dflt (omega)) (by k_dflt (omega)) (by k_dflt (omega)) (by k_dflt (omega)) (by k_dflt (omega)) ?_ ?_ | refine plc (by k_asm) (by k_asm) (by k_asm) (by k_asm) (by first | exact rfl | assumption) (by ktr_room) (by ktr_units) (by k_asm) (by assumption) (by omega) (by omega) (by omega) (by omega) (by omega) (by omega) (by omega) (by omega) ?_ ?_); k_whole); (all_goals (intros; (try dsimp only); (try k_fold)))))
  (k_with "call ref" => (k_here; k_dflt (((with_reducible show wpAny _ _ (call (Value.ref 154) _) _ _ _); first | with_reducible refine chkW (by k_dflt (k_asm)) (by k_dflt (k_asm)) (by k_dflt (k_asm)) (by k_dflt (k_asm)) (by k_dflt (first | exact rfl | assumption)) (by k_dflt (ktr_room)) (by k_dflt (ktr_units)) (by k_dflt (k_asm)) (by k_dflt (k_mem)) (by k_dflt (k_mem)) (by k_dflt (first | with_reducible assumption | (refine Ne.symm ?_; with_reducible assumption) | omega)) (by k_dflt (omega)) (by k_dflt (omega)) (by k_dflt (assumption)) (by k_dflt (assumption)) (by k_dflt (assumption)) ?_ | refine chkW (by k_asm) (by k_asm) (by k_asm) (by k_asm) (by first | exact rfl | assumption) (by ktr_room) (by ktr_units) (by k_asm) (by k_mem) (by k_mem) (by first | with_reducible assumption | (refine Ne.symm ?_; with_reducible assumption) | omega) (by omega) (by omega) (by assumption) (by assumption) (by assumption) ?_); k_whole); intro h9 tk9 F9 N9; (try dsimp only); (try k_fold)))
  (k_with "call ref" => (k_here; (with_reducible show wpAny _ _ (call (Value.ref 251) _) _ _ _); k_dflt (((with_reducible show wpAny _ _ (call (Value.ref 251) _) _ _ _); first | with_reducible refine init_ (by k_dflt (k_asm)) (by k_dflt (k_asm)) (by k_dflt (k_asm)) (by k_dflt (k_asm)) (by k_dflt (first | exact rfl | assumption)) (by k_dflt (ktr_room)) (by k_dflt (ktr_units)) (by k_dflt (k_asm)) (by k_dflt (exact News.nil)) (by k_dflt (exact (fun _ h9 => nomatch h9))) (by k_dflt (assumption)) (by k_dflt (assumption)) (by k_dflt (assumption)) (by k_dflt (assumption)) (by k_dflt (assumption)) (by k_dflt (assumption)) (by k_dflt (assumption)) (by k_dflt (assumption)) (by k_dflt (assumption)) (by k_dflt (assumption)) (by k_dflt (assumption)) (by k_dflt (assumption)) (by k_dflt (assumption)) (by k_dflt (assumption)) (by k_dflt (assumption)) (by k_dflt (assumption)) ?_ ?_ | refine init_ (by k_asm) (by k_asm) (by k_asm) (by k_asm) (by first | exact rfl | assumption) (by ktr_room) (by ktr_units) (by k_asm) (by exact News.nil) (by exact (fun _ h9 => nomatch h9)) (by assumption) (by assumption) (by assumption) (by assumption) (by assumption) (by assumption) (by assumption) (by assumption) (by assumption) (by assumption) (by assumption) (by assumption) (by assumption) (by assumption) (by assumption) (by assumption) ?_ ?_); k_whole)))
  (k_with "call ref" => (k_here; (with_reducible show wpAny _ _ (call (Value.ref 175) _) _ _ _); k_dflt (((with_reducible show wpAny _ _ (call (Value.ref 175) _) _ _ _); first | with_reducible refine ffrom (by k_dflt (k_asm)) (by k_dflt (k_asm)) (by k_dflt (k_asm)) (by k_dflt (k_asm)) (by k_dflt (k_asm)) (by k_dflt (first | exact rfl | assumption)) (by k_dflt (ktr_room)) (by k_dflt (ktr_units)) (by k_dflt (k_mem)) (by k_dflt (assumption)) (by k_dflt (omega)) (by k_dflt (omega)) (by k_dflt (omega)) (by k_dflt (assumption)) ?_ | refine ffrom (by k_asm) (by k_asm) (by k_asm) (by k_asm) (by k_asm) (by first | exact rfl | assumption) (by ktr_room) (by ktr_units) (by k_mem) (by assumption) (by omega) (by omega) (by omega) (by assumption) ?_); k_whole); intro t9 h9 tk9 F9 N9; (try dsimp only); (try k_fold)))
  (k_with "subscriptTail" => (k_here; (with_reducible show wpAny _ _ (subscriptTail _ _ (Value.ref _) (Value.int _ _)) _ _ _); k_dflt ((first | with_reducible refine id_item (by k_dflt (k_asm)) (by k_dflt (k_mem)) (by k_dflt (assumption)) (by k_dflt (omega)) (by k_dflt (omega)) (by k_dflt (omega)) ?_ | refine id_item (by k_asm) (by k_mem) (by assumption) (by omega) (by omega) (by omega) ?_)); intro b9 t9 hb9))
  (k_with "subscriptTail" => (k_here; (with_reducible show wpAny _ _ (subscriptTail _ _ (Value.bytes _ _) (Value.int 0 _)) _ _ _); k_dflt ((first | with_reducible refine oid_0 (by k_dflt (assumption)) ?_ | refine oid_0 (by assumption) ?_)); intro _ _))
  (k_with "compareOp Eq bytes bytes" => (k_here; k_dflt ((first | with_reducible refine eq_id (by k_dflt (assumption)) (by k_dflt (assumption)) ?_ | refine eq_id (by assumption) (by assumption) ?_))))
  (k_with "call builtin:len" => (k_here; (with_reducible show wpAny _ _ (call (Value.builtin "len") [Value.bytes _ _]) _ _ _); k_dflt ((first | with_reducible refine len_4 (by k_dflt (assumption)) ?_ | refine len_4 (by assumption) ?_))))
  trivial
section
variable {prog : Program} {w : World} {A : Around} {E : Value → Shared → Prop} {s : Shared} {h₀ : Heap} {L D : Addr} {news : List (Addr × Obj)} {vs : List Value} {ns : List Int} {nn : Nat} {c k : Int} {u : Tok} {value slice : PySem.Expr} {Q : Value → Shared → Prop}
theorem at_K (N : News h₀ L s.heap news) (hm : (D, listOf vs.toArray nn) ∈ news) (hi : IntsAre vs ns) (h0 : 0 ≤ k) (h1 : k < ns.length) (h2 : ns.length ≤ 1000) (h : ∀ t, Q (.int (ns.getD k.toNat 0) t) s)
    (hs : subscripted slice false (.ref D) (.int k u) = operate [.ref D, .int k u] (getItem (.ref D) (.int k u)) := by with_unfolding_all rfl) :
    wpAny (model prog w) A (subscriptTail value slice (.ref D) (.int k u)) Q E s :=
  ksa_sub N hm hi h0 h1 (by omega) h hs
theorem fan_0 (N : News h₀ L s.heap news) (hm : (D, listOf vs.toArray nn) ∈ news) (hi : IntsAre vs (fanL c)) (hk : k = 0) (h : ∀ t, Q (.int 0 t) s)
    (hs : subscripted slice false (.ref D) (.int k u) = operate [.ref D, .int k u] (getItem (.ref D) (.int k u)) := by with_unfolding_all rfl) :
    wpAny (model prog w) A (subscriptTail value slice (.ref D) (.int k u)) Q E s :=
  fan_sub N hm hi (by omega) (by omega) (fun t x hx => by
    rcases hx with ⟨_, e⟩ | ⟨e, _⟩
    · rw [e]; exact h t
    · exact absurd hk e) hs
theorem fan_1 (N : News h₀ L s.heap news) (hm : (D, listOf vs.toArray nn) ∈ news) (hi : IntsAre vs (fanL c)) (hk : k = 1) (h : ∀ t, Q (.int c t) s)
    (hs : subscripted slice false (.ref D) (.int k u) = operate [.ref D, .int k u] (getItem (.ref D) (.int k u)) := by with_unfolding_all rfl) :
    wpAny (model prog w) A (subscriptTail value slice (.ref D) (.int k u)) Q E s :=
  fan_sub N hm hi (by omega) (by omega) (fun t x hx => by
    rcases hx with ⟨e, _⟩ | ⟨_, e⟩
    · omega
    · rw [e]; exact h t) hs
end
theorem wordsSFindc : True := by
  (k_with "subscriptTail" => (k_here; (with_reducible show wpAny _ _ (subscriptTail _ _ (Value.ref _) (Value.int _ _)) _ _ _); k_dflt (first | ((first | with_reducible refine fan_0 (by k_dflt (k_asm)) (by k_dflt (k_mem)) (by k_dflt (assumption)) (by k_dflt (with_unfolding_all rfl)) ?_ | refine fan_0 (by k_asm) (by k_mem) (by assumption) (by with_unfolding_all rfl) ?_); intro t9) | ((first | with_reducible refine fan_1 (by k_dflt (k_asm)) (by k_dflt (k_mem)) (by k_dflt (assumption)) (by k_dflt (with_unfolding_all rfl)) ?_ | refine fan_1 (by k_asm) (by k_mem) (by assumption) (by with_unfolding_all rfl) ?_); intro t9) | ((first | with_reducible refine at_K (by k_dflt (k_asm)) (by k_dflt (k_mem)) (by k_dflt (assumption)) (by k_dflt (omega)) (by k_dflt ((first | omega | (simp only [List.length_cons, List.length_nil]; omega)))) (by k_dflt ((first | omega | (simp only [List.length_cons, List.length_nil]; omega)))) ?_ | refine at_K (by k_asm) (by k_mem) (by assumption) (by omega) (by (first | omega | (simp only [List.length_cons, List.length_nil]; omega))) (by (first | omega | (simp only [List.length_cons, List.length_nil]; omega))) ?_); intro t9))))
  trivial

theorem wordsSFindd : True := by
  (k_with "subscriptTail Attribute BinOp ref int" => (k_here; (with_reducible show wpAny _ _ (subscriptTail _ _ (Value.ref _) (Value.int _ _)) _ _ _); k_dflt (first | ((first | with_reducible refine fan_0 (by k_dflt (k_asm)) (by k_dflt (k_mem)) (by k_dflt (assumption)) (by k_dflt (with_unfolding_all rfl)) ?_ | refine fan_0 (by k_asm) (by k_mem) (by assumption) (by with_unfolding_all rfl) ?_); intro t9) | ((first | with_reducible refine fan_1 (by k_dflt (k_asm)) (by k_dflt (k_mem)) (by k_dflt (assumption)) (by k_dflt (with_unfolding_all rfl)) ?_ | refine fan_1 (by k_asm) (by k_mem) (by assumption) (by with_unfolding_all rfl) ?_); intro t9) | ((first | with_reducible refine at_K (by k_dflt (k_asm)) (by k_dflt (k_mem)) (by k_dflt (assumption)) (by k_dflt (omega)) (by k_dflt ((first | omega | (simp only [List.length_cons, List.length_nil]; omega)))) (by k_dflt ((first | omega | (simp only [List.length_cons, List.length_nil]; omega)))) ?_ | refine at_K (by k_asm) (by k_mem) (by assumption) (by omega) (by (first | omega | (simp only [List.length_cons, List.length_nil]; omega))) (by (first | omega | (simp only [List.length_cons, List.length_nil]; omega))) ?_); intro t9))))
  trivial

theorem wordsSFinde : True := by
  (k_with "subscriptTail Attribute Name ref int" => (k_here; (with_reducible show wpAny _ _ (subscriptTail _ _ (Value.ref _) (Value.int _ _)) _ _ _); k_dflt (first | ((first | with_reducible refine fan_0 (by k_dflt (k_asm)) (by k_dflt (k_mem)) (by k_dflt (assumption)) (by k_dflt (with_unfolding_all rfl)) ?_ | refine fan_0 (by k_asm) (by k_mem) (by assumption) (by with_unfolding_all rfl) ?_); intro t9) | ((first | with_reducible refine fan_1 (by k_dflt (k_asm)) (by k_dflt (k_mem)) (by k_dflt (assumption)) (by k_dflt (with_unfolding_all rfl)) ?_ | refine fan_1 (by k_asm) (by k_mem) (by assumption) (by with_unfolding_all rfl) ?_); intro t9) | ((first | with_reducible refine at_K (by k_dflt (k_asm)) (by k_dflt (k_mem)) (by k_dflt (assumption)) (by k_dflt (omega)) (by k_dflt ((first | omega | (simp only [List.length_cons, List.length_nil]; omega)))) (by k_dflt ((first | omega | (simp only [List.length_cons, List.length_nil]; omega)))) ?_ | refine at_K (by k_asm) (by k_mem) (by assumption) (by omega) (by (first | omega | (simp only [List.length_cons, List.length_nil]; omega))) (by (first | omega | (simp only [List.length_cons, List.length_nil]; omega))) ?_); intro t9))))
  trivial

theorem wordsSFindf : True := by
  (k_with "subscriptTail Attribute Subscript ref int" => (k_here; (with_reducible show wpAny _ _ (subscriptTail _ _ (Value.ref _) (Value.int _ _)) _ _ _); k_dflt (first | ((first | with_reducible refine fan_0 (by k_dflt (k_asm)) (by k_dflt (k_mem)) (by k_dflt (assumption)) (by k_dflt (with_unfolding_all rfl)) ?_ | refine fan_0 (by k_asm) (by k_mem) (by assumption) (by with_unfolding_all rfl) ?_); intro t9) | ((first | with_reducible refine fan_1 (by k_dflt (k_asm)) (by k_dflt (k_mem)) (by k_dflt (assumption)) (by k_dflt (with_unfolding_all rfl)) ?_ | refine fan_1 (by k_asm) (by k_mem) (by assumption) (by with_unfolding_all rfl) ?_); intro t9) | ((first | with_reducible refine at_K (by k_dflt (k_asm)) (by k_dflt (k_mem)) (by k_dflt (assumption)) (by k_dflt (omega)) (by k_dflt ((first | omega | (simp only [List.length_cons, List.length_nil]; omega)))) (by k_dflt ((first | omega | (simp only [List.length_cons, List.length_nil]; omega)))) ?_ | refine at_K (by k_asm) (by k_mem) (by assumption) (by omega) (by (first | omega | (simp only [List.length_cons, List.length_nil]; omega))) (by (first | omega | (simp only [List.length_cons, List.length_nil]; omega))) ?_); intro t9))))
  trivial

section
variable {w : World} {p : Program} {loose : List Str} {mean : ExcName → Option Value} {mg mb : Str → Option Value}
  {dp un : Nat} {gd : Option (List Code)} {cn : Str} {cs : Scope} {a : Addr} {ccd : Value} {cl : List (Str × Addr)} {outer : List Env} {A₀ : Around} {base h₀ : Heap} {L : Addr} {m : Str → Option Value} {s : Shared} {Q E : Value → Shared → Prop}

theorem offat {news : List (Addr × Obj)} {x dx hI lF lC lI lP : Addr} {oct : Array UInt8} {n k : Int} {vS : Value} {tO t2 tv tn k0 k1 k2 k3 k4 k5 k6 k7 k8 k9 ta : Tok} {vF vI vP : List Value} {nF nP : Nat} {xs ks : List Int}
    (B : Below A₀ base outer h₀) (F : Fr h₀ L s.heap m) (X : (hd.heap_1 w.params).In h₀) (T : Top p loose mean mg mb h₀) (hk : cs.kind = .function)
    (hd : dp + 8 < recursionLimit) (hu : un + 200 < cLine)
    (N : News h₀ L s.heap [(x, instObj 251 dx), (dx, dictOf (idxEnts w oct n hI lF lC lI lP vS tO t2 tv tn k0 k1 k2 k3 k4 k5 k6 k7 k8 k9) 10), (lF, listOf vF.toArray nF), (lI, LCg.lst vI), (lP, listOf vP.toArray nP)]) (NR : News h₀ L s.heap news) (hx : Apart [(x, instObj 251 dx), (dx, dictOf (idxEnts w oct n hI lF lC lI lP vS tO t2 tv tn k0 k1 k2 k3 k4 k5 k6 k7 k8 k9) 10), (lF, listOf vF.toArray nF), (lI, LCg.lst vI), (lP, listOf vP.toArray nP)] news)
    (hn : 1 ≤ n) (hn3 : n ≤ 3) (hp0 : 0 ≤ k) (hp1 : k < n) (hv : IntsAre vP xs) (hxl : xs.length = n.toNat)
    (ret : ∀ (t : Tok) (h' : Heap) (tk' : Nat), Fr h₀ L h' m → News h₀ L h' ([(x, instObj 251 dx), (dx, dictOf (idxEnts w oct n hI lF lC lI lP vS tO t2 tv tn k0 k1 k2 k3 k4 k5 k6 k7 k8 k9) 10), (lF, listOf vF.toArray nF), (lI, LCg.lst vI), (lP, listOf vP.toArray nP)] ++ news) → Q (.int (xs.getD k.toNat 0) t) { s with heap := h', toks := tk' }) :
    wpAny (model PySem.Challenge.rw_nt0280_01.row.prog w) (ktrTop dp un gd cn cs L a ccd cl outer) (call (.ref 227) [.ref x, .int k ta]) Q E s := by
  revert X; k_fill; intro X
  refine wpAny_call ?_
  dsimp only [idxEnts] at N hx
  k_dflt (first   | (refine' code_defR ?k1 ?k2 ?k3 N NR hx ?k5 ?kA ?kF ?kK ?k6 ?k7 ?k8 ?k9 ?kB ?_ ?c2 ?c3 ?c4 ?c5; (case kA => exact rfl); (case kF => exact rfl); (case kK => first | exact rfl | assumption); (case k1 => k_asm); (case k2 => k_asm); (case k3 => k_asm); (case k5 => k_asm); (case k6 => k_is); (case k7 => k_is); (case k8 => ktr_room); (case k9 => first | exact BindsTo.of_eq rfl | exact binds_K (by k_in) rfl (by k_is) rfl rfl rfl); (case c5 => decide); (case kB => exact locs rfl); (case c2 => exact rfl); (case c3 => exact rfl); (case c4 => exact rfl); k_whole; clear N NR hx; intro g' L' h' FG' F' N' B' X' T' R' l1; (try k_lt l1); (try dsimp only); (try k_lift B'); (try k_fold))   | (refine' code_defCR ?k1 ?k2 ?k3 N NR hx ?k5 ?kA ?kF ?kK ?k6 ?k7 ?k8 ?k9 ?kB ?kD ?_ ?c2 ?c3 ?c4; (case kA => exact rfl); (case kF => exact rfl); (case kK => first | exact rfl | assumption); (case k1 => k_asm); (case k2 => k_asm); (case k3 => k_asm); (case k5 => k_asm); (case k6 => k_is); (case k7 => k_is); (case k8 => ktr_room); (case k9 => first | exact BindsTo.of_eq rfl | exact binds_K (by k_in) rfl (by k_is) rfl rfl rfl); (case kB => exact rfl); (case kD => decide +kernel); (case c2 => exact rfl); (case c3 => exact rfl); (case c4 => exact rfl); k_whole; clear N NR hx; intro g' L' h' tk' cells' FG' F' N' Y' B' X' T' R' l1; (try k_lt l1); k_cells Y'; (try simp only [List.cons_append, List.nil_append] at N'); (try dsimp only); (try k_lift B'); (try k_fold)))
  w_strict (repeat' (first | (k_unfold; (try dsimp only)) | walk1 | (dsimp only; walk1) | (leave1; try dsimp only) | (dsimp only; k_unfold; (try dsimp only)) | fail "no step"))
  exact ret _ _ _ (by k_asm) ((by assumption : RestIn _ _ _ _).with (by k_asm))
theorem find_ {news : List (Addr × Obj)} {x dx hI lF lC lI lP : Addr} {oct : Array UInt8} {n k : Int} {vS : Value} {tO t2 tv tn k0 k1 k2 k3 k4 k5 k6 k7 k8 k9 ta : Tok} {vF vI vP : List Value} {nF nP : Nat} {xs ks : List Int} {b : Array UInt8} {tb : Tok}
    (B : Below A₀ base outer h₀) (F : Fr h₀ L s.heap m) (X : (hd.heap_1 w.params).In h₀) (T : Top p loose mean mg mb h₀) (hk : cs.kind = .function)
    (hd : dp + 8 < recursionLimit) (hu : un + 200 < cLine)
    (N : News h₀ L s.heap [(x, instObj 251 dx), (dx, dictOf (idxEnts w oct n hI lF lC lI lP vS tO t2 tv tn k0 k1 k2 k3 k4 k5 k6 k7 k8 k9) 10), (lF, listOf vF.toArray nF), (lI, LCg.lst vI), (lP, listOf vP.toArray nP)]) (NR : News h₀ L s.heap news) (hx : Apart [(x, instObj 251 dx), (dx, dictOf (idxEnts w oct n hI lF lC lI lP vS tO t2 tv tn k0 k1 k2 k3 k4 k5 k6 k7 k8 k9) 10), (lF, listOf vF.toArray nF), (lI, LCg.lst vI), (lP, listOf vP.toArray nP)] news)
    (hn : 1 ≤ n) (hn3 : n ≤ 3) (hp0 : 0 ≤ k) (hp1 : k < n) (hv : IntsAre vP xs) (hxl : xs.length = n.toNat) (hvF : IntsAre vF (fanL n)) (R : RelL (IdRel ks (8 + 4 * 256)) (rangeKs 0 n.toNat) vI) (hids : IdsAt ks (8 + 4 * 256) n) (hb : KBw.bInts b = [1, 0, 0, k])
    (ret : ∀ (t : Tok) (h' : Heap) (tk' : Nat), Fr h₀ L h' m → News h₀ L h' ([(x, instObj 251 dx), (dx, dictOf (idxEnts w oct n hI lF lC lI lP vS tO t2 tv tn k0 k1 k2 k3 k4 k5 k6 k7 k8 k9) 10), (lF, listOf vF.toArray nF), (lI, LCg.lst vI), (lP, listOf vP.toArray nP)] ++ news) → Q (.int (xs.getD k.toNat 0) t) { s with heap := h', toks := tk' }) :
    wpAny (model PySem.Challenge.rw_nt0280_01.row.prog w) (ktrTop dp un gd cn cs L a ccd cl outer) (call (.ref 213) [.ref x, .bytes b tb]) Q E s := by
  revert X; k_fill; intro X
  refine wpAny_call ?_
  dsimp only [idxEnts] at N hx
  have hV := idsV_of (by omega) R hids
  clear R hids
  k_dflt (first   | (refine' code_defR ?k1 ?k2 ?k3 N NR hx ?k5 ?kA ?kF ?kK ?k6 ?k7 ?k8 ?k9 ?kB ?_ ?c2 ?c3 ?c4 ?c5; (case kA => exact rfl); (case kF => exact rfl); (case kK => first | exact rfl | assumption); (case k1 => k_asm); (case k2 => k_asm); (case k3 => k_asm); (case k5 => k_asm); (case k6 => k_is); (case k7 => k_is); (case k8 => ktr_room); (case k9 => first | exact BindsTo.of_eq rfl | exact binds_K (by k_in) rfl (by k_is) rfl rfl rfl); (case c5 => decide); (case kB => exact locs rfl); (case c2 => exact rfl); (case c3 => exact rfl); (case c4 => exact rfl); k_whole; clear N NR hx; intro g' L' h' FG' F' N' B' X' T' R' l1; (try k_lt l1); (try dsimp only); (try k_lift B'); (try k_fold))   | (refine' code_defCR ?k1 ?k2 ?k3 N NR hx ?k5 ?kA ?kF ?kK ?k6 ?k7 ?k8 ?k9 ?kB ?kD ?_ ?c2 ?c3 ?c4; (case kA => exact rfl); (case kF => exact rfl); (case kK => first | exact rfl | assumption); (case k1 => k_asm); (case k2 => k_asm); (case k3 => k_asm); (case k5 => k_asm); (case k6 => k_is); (case k7 => k_is); (case k8 => ktr_room); (case k9 => first | exact BindsTo.of_eq rfl | exact binds_K (by k_in) rfl (by k_is) rfl rfl rfl); (case kB => exact rfl); (case kD => decide +kernel); (case c2 => exact rfl); (case c3 => exact rfl); (case c4 => exact rfl); k_whole; clear N NR hx; intro g' L' h' tk' cells' FG' F' N' Y' B' X' T' R' l1; (try k_lt l1); k_cells Y'; (try simp only [List.cons_append, List.nil_append] at N'); (try dsimp only); (try k_lift B'); (try k_fold)))
  w_strict (repeat' (first | (k_unfold; (try dsimp only)) | walk1 | (dsimp only; walk1) | (leave1; try dsimp only) | (dsimp only; k_unfold; (try dsimp only)) | fail "no step"))
  exact ret _ _ _ (by k_asm) ((by assumption : RestIn _ _ _ _).with (by k_asm))
end

end

section
theorem wordsLawOb : True := by
  w_top off
  k_with_none
  (k_with "exec For Name Subscript cons nil" => (k_here; (rename Fr _ _ _ _ => lF'); (with_unfolding_all refine For_invVF lF' (by exact rfl) (by exact rfl) ?_; k_whole)))
  (k_with "call ref" => (k_here; k_dflt (first | (refine call_meth (by k_asm) (by k_mem) ?_; k_whole; (first | ((first | with_reducible refine code_defO (by k_dflt (exact rfl)) (by k_dflt (exact rfl)) (by k_dflt (first | exact rfl | assumption)) (by k_dflt (k_asm)) (by k_dflt (k_asm)) (by k_dflt (k_asm)) (by k_dflt (k_asm)) (by k_dflt (k_asm)) (by k_dflt (k_is)) (by k_dflt (k_is)) (by k_dflt (ktr_room)) (by k_dflt (first | exact BindsTo.of_eq rfl | exact binds_K (by k_in) rfl (by k_is) rfl rfl rfl)) (by k_dflt (decide)) (by k_dflt (exact locs rfl)) (by k_dflt (exact rfl)) (by k_dflt (exact rfl)) (by k_dflt (exact rfl)) ?_ | refine code_defO (by exact rfl) (by exact rfl) (by first | exact rfl | assumption) (by k_asm) (by k_asm) (by k_asm) (by k_asm) (by k_asm) (by k_is) (by k_is) (by ktr_room) (by first | exact BindsTo.of_eq rfl | exact binds_K (by k_in) rfl (by k_is) rfl rfl rfl) (by decide) (by exact locs rfl) (by exact rfl) (by exact rfl) (by exact rfl) ?_); k_whole; intro g' L' h' FG' F' N' B' X' T'; (try dsimp only); (try k_lift B'); (try k_fold)) | ((first | with_reducible refine code_defCO (by k_dflt (exact rfl)) (by k_dflt (exact rfl)) (by k_dflt (first | exact rfl | assumption)) (by k_dflt (k_asm)) (by k_dflt (k_asm)) (by k_dflt (k_asm)) (by k_dflt (k_asm)) (by k_dflt (k_asm)) (by k_dflt (k_is)) (by k_dflt (k_is)) (by k_dflt (ktr_room)) (by k_dflt (first | exact BindsTo.of_eq rfl | exact binds_K (by k_in) rfl (by k_is) rfl rfl rfl)) (by k_dflt (exact rfl)) (by k_dflt (decide +kernel)) (by k_dflt (exact rfl)) (by k_dflt (exact rfl)) (by k_dflt (exact rfl)) ?_ | refine code_defCO (by exact rfl) (by exact rfl) (by first | exact rfl | assumption) (by k_asm) (by k_asm) (by k_asm) (by k_asm) (by k_asm) (by k_is) (by k_is) (by ktr_room) (by first | exact BindsTo.of_eq rfl | exact binds_K (by k_in) rfl (by k_is) rfl rfl rfl) (by exact rfl) (by decide +kernel) (by exact rfl) (by exact rfl) (by exact rfl) ?_); k_whole; intro g' L' h' tk' cells' FG' F' N' Y' B' X' T' l1; (try k_lt l1); k_cells Y'; (try simp only [List.cons_append, List.nil_append] at N'); (try dsimp only); (try k_lift B'); (try k_fold)))) | ((first | with_reducible refine call_cls (by k_dflt (k_asm)) (by k_dflt (k_asm)) (by k_dflt (k_asm)) (by k_dflt (k_is)) (by k_dflt (k_is)) (by k_dflt (k_is)) ?_ | refine call_cls (by k_asm) (by k_asm) (by k_asm) (by k_is) (by k_is) (by k_is) ?_); k_whole; intro x' d' h' F' N' l1 l2; (try k_lt l1); (try k_lt2 l2); (try k_sweep); (first | ((first | with_reducible refine code_defO (by k_dflt (exact rfl)) (by k_dflt (exact rfl)) (by k_dflt (first | exact rfl | assumption)) (by k_dflt (k_asm)) (by k_dflt (k_asm)) (by k_dflt (k_asm)) (by k_dflt (k_asm)) (by k_dflt (k_asm)) (by k_dflt (k_is)) (by k_dflt (k_is)) (by k_dflt (ktr_room)) (by k_dflt (first | exact BindsTo.of_eq rfl | exact binds_K (by k_in) rfl (by k_is) rfl rfl rfl)) (by k_dflt (decide)) (by k_dflt (exact locs rfl)) (by k_dflt (exact rfl)) (by k_dflt (exact rfl)) (by k_dflt (exact rfl)) ?_ | refine code_defO (by exact rfl) (by exact rfl) (by first | exact rfl | assumption) (by k_asm) (by k_asm) (by k_asm) (by k_asm) (by k_asm) (by k_is) (by k_is) (by ktr_room) (by first | exact BindsTo.of_eq rfl | exact binds_K (by k_in) rfl (by k_is) rfl rfl rfl) (by decide) (by exact locs rfl) (by exact rfl) (by exact rfl) (by exact rfl) ?_); k_whole; intro g' L' h' FG' F' N' B' X' T'; (try dsimp only); (try k_lift B'); (try k_fold)) | ((first | with_reducible refine code_defCO (by k_dflt (exact rfl)) (by k_dflt (exact rfl)) (by k_dflt (first | exact rfl | assumption)) (by k_dflt (k_asm)) (by k_dflt (k_asm)) (by k_dflt (k_asm)) (by k_dflt (k_asm)) (by k_dflt (k_asm)) (by k_dflt (k_is)) (by k_dflt (k_is)) (by k_dflt (ktr_room)) (by k_dflt (first | exact BindsTo.of_eq rfl | exact binds_K (by k_in) rfl (by k_is) rfl rfl rfl)) (by k_dflt (exact rfl)) (by k_dflt (decide +kernel)) (by k_dflt (exact rfl)) (by k_dflt (exact rfl)) (by k_dflt (exact rfl)) ?_ | refine code_defCO (by exact rfl) (by exact rfl) (by first | exact rfl | assumption) (by k_asm) (by k_asm) (by k_asm) (by k_asm) (by k_asm) (by k_is) (by k_is) (by ktr_room) (by first | exact BindsTo.of_eq rfl | exact binds_K (by k_in) rfl (by k_is) rfl rfl rfl) (by exact rfl) (by decide +kernel) (by exact rfl) (by exact rfl) (by exact rfl) ?_); k_whole; intro g' L' h' tk' cells' FG' F' N' Y' B' X' T' l1; (try k_lt l1); k_cells Y'; (try simp only [List.cons_append, List.nil_append] at N'); (try dsimp only); (try k_lift B'); (try k_fold)))) | ((first | with_reducible refine wpAny_call ?_ | refine wpAny_call ?_); (first | ((first | with_reducible refine code_defO (by k_dflt (exact rfl)) (by k_dflt (exact rfl)) (by k_dflt (first | exact rfl | assumption)) (by k_dflt (k_asm)) (by k_dflt (k_asm)) (by k_dflt (k_asm)) (by k_dflt (k_asm)) (by k_dflt (k_asm)) (by k_dflt (k_is)) (by k_dflt (k_is)) (by k_dflt (ktr_room)) (by k_dflt (first | exact BindsTo.of_eq rfl | exact binds_K (by k_in) rfl (by k_is) rfl rfl rfl)) (by k_dflt (decide)) (by k_dflt (exact locs rfl)) (by k_dflt (exact rfl)) (by k_dflt (exact rfl)) (by k_dflt (exact rfl)) ?_ | refine code_defO (by exact rfl) (by exact rfl) (by first | exact rfl | assumption) (by k_asm) (by k_asm) (by k_asm) (by k_asm) (by k_asm) (by k_is) (by k_is) (by ktr_room) (by first | exact BindsTo.of_eq rfl | exact binds_K (by k_in) rfl (by k_is) rfl rfl rfl) (by decide) (by exact locs rfl) (by exact rfl) (by exact rfl) (by exact rfl) ?_); k_whole; intro g' L' h' FG' F' N' B' X' T'; (try dsimp only); (try k_lift B'); (try k_fold)) | ((first | with_reducible refine code_defCO (by k_dflt (exact rfl)) (by k_dflt (exact rfl)) (by k_dflt (first | exact rfl | assumption)) (by k_dflt (k_asm)) (by k_dflt (k_asm)) (by k_dflt (k_asm)) (by k_dflt (k_asm)) (by k_dflt (k_asm)) (by k_dflt (k_is)) (by k_dflt (k_is)) (by k_dflt (ktr_room)) (by k_dflt (first | exact BindsTo.of_eq rfl | exact binds_K (by k_in) rfl (by k_is) rfl rfl rfl)) (by k_dflt (exact rfl)) (by k_dflt (decide +kernel)) (by k_dflt (exact rfl)) (by k_dflt (exact rfl)) (by k_dflt (exact rfl)) ?_ | refine code_defCO (by exact rfl) (by exact rfl) (by first | exact rfl | assumption) (by k_asm) (by k_asm) (by k_asm) (by k_asm) (by k_asm) (by k_is) (by k_is) (by ktr_room) (by first | exact BindsTo.of_eq rfl | exact binds_K (by k_in) rfl (by k_is) rfl rfl rfl) (by exact rfl) (by decide +kernel) (by exact rfl) (by exact rfl) (by exact rfl) ?_); k_whole; intro g' L' h' tk' cells' FG' F' N' Y' B' X' T' l1; (try k_lt l1); k_cells Y'; (try simp only [List.cons_append, List.nil_append] at N'); (try dsimp only); (try k_lift B'); (try k_fold)))))))
  (k_with "execs cons" => (k_here; (with_reducible (refine gen_toks ?_)); intro tk))
  (k_with "execs nil" => (k_here; (with_reducible (refine gen_toks ?_)); intro tk))
  (k_with "call builtin:list.append" => (k_here; k_dflt ((first | with_reducible refine app_K (by k_dflt (k_asm)) (by k_dflt (k_asm)) (by k_dflt (k_updF)) (by k_dflt ((simp only [List.length_append, List.length_cons, List.length_nil]; omega))) ?_ | refine app_K (by k_asm) (by k_asm) (by k_updF) (by (simp only [List.length_append, List.length_cons, List.length_nil]; omega)) ?_)); intro h' F' N'; (try dsimp only at N'); (try dsimp only)))
  (k_with "call ref" => (k_here; k_dflt (((with_reducible show wpAny _ _ (call (Value.ref 85) _) _ _ _); first | with_reducible refine abe (by k_dflt (k_asm)) (by k_dflt (k_asm)) (by k_dflt (k_asm)) (by k_dflt (k_asm)) (by k_dflt (k_asm)) (by k_dflt (first | exact rfl | assumption)) (by k_dflt (ktr_room)) (by k_dflt (ktr_units)) (by k_dflt (assumption)) (by k_dflt (omega)) (by k_dflt (omega)) (by k_dflt (omega)) (by k_dflt (omega)) ?_ | refine abe (by k_asm) (by k_asm) (by k_asm) (by k_asm) (by k_asm) (by first | exact rfl | assumption) (by ktr_room) (by ktr_units) (by assumption) (by omega) (by omega) (by omega) (by omega) ?_); k_whole); intro t9 h9 tk9 F9 N9; (try dsimp only); (try k_fold)))
  (k_with "compareOp Lt bytes bytes" => refine lt_bytes ?_)
  (k_with "compareOp LtE bytes bytes" => refine le_bytes ?_)
  (k_with "subscriptTail" => (k_here; (with_reducible show wpAny _ _ (subscriptTail _ _ (Value.ref _) (Value.str _ _)) _ _ _); k_dflt ((first | with_reducible refine kda_item (knd := PySem.strKind _ _) (by k_dflt (k_asm)) (by k_dflt (k_mem)) (by k_dflt (k_asm)) (strKind_is _ _ _ _) (by k_dflt (rfl)) ?_ | refine kda_item (knd := PySem.strKind _ _) (by k_asm) (by k_mem) (by k_asm) (strKind_is _ _ _ _) (by rfl) ?_))))
  (k_with "subscriptTail" => (k_here; (with_reducible show wpAny _ _ (subscriptTail _ _ (Value.ref _) (Value.bytes _ _)) _ _ _); k_dflt ((first | with_reducible refine kda_item (knd := PySem.W.bytesKind _ _) (by k_dflt (k_asm)) (by k_dflt (k_mem)) (by k_dflt (k_asm)) (bytesKind_at _ _ _ _) (by k_dflt (first | exact value_one _ _ | rfl)) ?_ | refine kda_item (knd := PySem.W.bytesKind _ _) (by k_asm) (by k_mem) (by k_asm) (bytesKind_at _ _ _ _) (by first | exact value_one _ _ | rfl) ?_))))
  (k_with "setItem ref str" => (k_here; k_dflt ((first | with_reducible refine kda_set (knd := PySem.strKind _ _) (by k_dflt (k_asm)) (by k_dflt (k_asm)) (by k_dflt (k_updF)) (by k_dflt (k_asm)) (strKind_is _ _ _ _) (by k_dflt (rw [sizeLine_eq]; exact Nat.le_of_ble_eq_true (by with_unfolding_all rfl))) ?_ | refine kda_set (knd := PySem.strKind _ _) (by k_asm) (by k_asm) (by k_updF) (by k_asm) (strKind_is _ _ _ _) (by rw [sizeLine_eq]; exact Nat.le_of_ble_eq_true (by with_unfolding_all rfl)) ?_)); intro h' o' F' N' hd'; (try dsimp only at N'); (try rw [stored_mixed] at hd'); (try rw [stored_nil] at hd')))
  (k_with "compareOp NotIn bytes ref" => (k_here; k_dflt ((first | with_reducible refine notin_bytes (by k_dflt (k_asm)) (by k_dflt (k_mem)) (by k_dflt (k_asm)) (by k_dflt (k_asm)) (by k_dflt (first | rfl | exact value_is _ _)) ?_ | refine notin_bytes (by k_asm) (by k_mem) (by k_asm) (by k_asm) (by first | rfl | exact value_is _ _) ?_))))
  (k_with "setItem ref bytes" => (k_here; k_dflt ((first | with_reducible refine kda_set (knd := PySem.W.bytesKind _ _) (by k_dflt (k_asm)) (by k_dflt (k_asm)) (by k_dflt (k_updF)) (by k_dflt (k_asm)) (bytesKind_at _ _ _ _) (by k_dflt (rw [sizeLine_eq]; exact Nat.le_of_ble_eq_true (by with_unfolding_all rfl))) ?_ | refine kda_set (knd := PySem.W.bytesKind _ _) (by k_asm) (by k_asm) (by k_updF) (by k_asm) (bytesKind_at _ _ _ _) (by rw [sizeLine_eq]; exact Nat.le_of_ble_eq_true (by with_unfolding_all rfl)) ?_)); intro h' o' F' N' hd'; (try dsimp only at N'); (try rw [stored_mixed] at hd'); (try rw [stored_nil] at hd')))
  (k_with "call builtin:len" => (k_here; (with_reducible show wpAny _ _ (call (Value.builtin "len") [Value.ref _]) _ _ _); k_dflt ((first | with_reducible refine kda_len (knd := PySem.W.bytesKind _ _) (by k_dflt (k_asm)) (by k_dflt (k_mem)) (by k_dflt (k_asm)) (by k_dflt (k_asm)) (Nat.le_of_ble_eq_true (by with_unfolding_all rfl)) ?_ | refine kda_len (knd := PySem.W.bytesKind _ _) (by k_asm) (by k_mem) (by k_asm) (by k_asm) (Nat.le_of_ble_eq_true (by with_unfolding_all rfl)) ?_))))
  (k_with "call type:bytes" => (k_here; (with_reducible show wpAny _ _ (call (Value.type "bytes") [Value.bytes _ _]) _ _ _); (refine call_bytesB ?_)))
  (k_with "LeaveK" => ((try ((rename RestIn _ _ _ _ => rI); (rename Fr _ _ _ _ => lF'); (have rJ := RestIn.keeps rI lF'); (try ((rename News _ _ _ _ => lN'); (have rK := RestIn.apart rI lN'))))); (k_dflt ((first | with_reducible refine leaveK_ (by k_dflt (k_asm)) (by k_dflt (k_asm)) ?_ | refine leaveK_ (by k_asm) (by k_asm) ?_); k_whole); intro kF kN; ground_anew kF; (have kX := kFor kF (by k_asm)); (try dsimp only [InitBack, CmpBack, LenBack, StrBack, BoolBack]); (try refine ⟨rfl, ?_⟩); (try dsimp only [CmpBack, LenBack, StrBack, BoolBack]); (try (refine ⟨⟨by omega, by omega⟩, ?_⟩)); (try (refine handed_on rfl ?_; try dsimp only)))))
  (k_with "setAttr ref" => (k_here; k_dflt ((first | with_reducible refine exc_set (K := Mine.hd.heap_1 _) (by k_dflt (k_asm)) (by k_dflt (k_asm)) (by k_dflt (k_asm)) (by k_dflt ((intro p hp; first | exact nomatch hp))) (by k_dflt (k_is)) (by k_dflt (k_is)) (by k_dflt ((intro self; exact PySem.F.store_Exception.passes self))) (by k_dflt (decide)) (by k_dflt (decide)) (by k_dflt (exact rfl)) (by k_dflt (k_is)) ?_ | refine exc_set (K := Mine.hd.heap_1 _) (by k_asm) (by k_asm) (by k_asm) (by (intro p hp; first | exact nomatch hp)) (by k_is) (by k_is) (by (intro self; exact PySem.F.store_Exception.passes self)) (by decide) (by decide) (by exact rfl) (by k_is) ?_); intro h' D oD tk F' N' hpD hDe); (try dsimp only)))
  (k_with "call ref" => (k_here; k_dflt (((with_reducible show wpAny _ _ (call (Value.ref 64) _) _ _ _); first | with_reducible refine badpack (by k_dflt (k_asm)) (by k_dflt (k_asm)) (by k_dflt (k_asm)) (by k_dflt (k_asm)) (by k_dflt (first | exact rfl | assumption)) (by k_dflt (ktr_room)) (by k_dflt (ktr_units)) (by k_dflt (k_asm)) ?_ | refine badpack (by k_asm) (by k_asm) (by k_asm) (by k_asm) (by first | exact rfl | assumption) (by ktr_room) (by ktr_units) (by k_asm) ?_); k_whole); intro e9 t9 d9 o9 h9 tk9 F9 N9; (try dsimp only); (try k_fold)))
  (k_with "exec Raise some none" => (k_here; k_dflt ((first | with_reducible refine Raise_x (K := Mine.hd.heap_1 _) (C := 64) (by k_dflt (k_asm)) (by k_dflt (k_is)) (by k_dflt (decide)) (by k_dflt (first | exact rfl | assumption)) ?_ | refine Raise_x (K := Mine.hd.heap_1 _) (C := 64) (by k_asm) (by k_is) (by decide) (by first | exact rfl | assumption) ?_); k_whole)))
  (k_with "RaisableX" => (k_here; k_dflt ((first | with_reducible refine raisable_x (by k_dflt (k_asm)) (by k_dflt (k_asm)) ?_ | refine raisable_x (by k_asm) (by k_asm) ?_); k_whole)))
  (k_with "leaving ref" => (k_here; k_dflt ((first | with_reducible refine leave_X (by k_dflt (assumption)) (by k_dflt (k_asm)) (by k_dflt (k_asm)) ?_ (by k_dflt (exact rfl)) | refine leave_X (by assumption) (by k_asm) (by k_asm) ?_ (by exact rfl)); k_whole); intro h' R' U'; (try dsimp only at R' U' ⊢)))
  (k_with "binaryOp Mult ref int" => (k_here; (with_reducible show wpAny _ _ (binaryOp Operator.Mult (Value.ref _) (Value.int _ _)) _ _ _); k_dflt ((first | with_reducible refine zeros_K (by k_dflt (k_asm)) (by k_dflt (k_asm)) (by k_dflt (k_mem)) ?_ | refine zeros_K (by k_asm) (by k_asm) (by k_mem) ?_)); intro D' h' ws' F' N' l1 i1; (try k_lt l1)))
  (k_with "subscriptTail" => (k_here; (with_reducible show wpAny _ _ (subscriptTail _ _ (Value.bytes _ _) (Value.int 0 _)) _ _ _); k_dflt ((first | with_reducible refine oid0 ?_ | refine oid0 ?_)); intro _ _))
  (k_with "getItem ref int" => (k_here; k_dflt ((first | with_reducible refine cnt_item (by k_dflt (k_asm)) (by k_dflt (k_mem)) (by k_dflt (assumption)) ?_ | refine cnt_item (by k_asm) (by k_mem) (by assumption) ?_)); intro _))
  (k_with "setItem ref int" => (k_here; k_dflt ((first | with_reducible refine cnt_store (by k_dflt (k_asm)) (by k_dflt (k_asm)) (by k_dflt (k_updF)) (by k_dflt (assumption)) ?_ | refine cnt_store (by k_asm) (by k_asm) (by k_updF) (by assumption) ?_)); intro h' ws' F' N' hi'; (try dsimp only at N')))
  (k_with "subscriptTail Name Name ref int" => (k_here; k_dflt (first | ((first | with_reducible refine cnt_sub (by k_dflt (k_asm)) (by k_dflt (k_mem)) (by k_dflt (assumption)) (by k_dflt (omega)) (by k_dflt (omega)) ?_ | refine cnt_sub (by k_asm) (by k_mem) (by assumption) (by omega) (by omega) ?_); intro t9 x9 f9) | ((first | with_reducible refine fan_sub (by k_dflt (k_asm)) (by k_dflt (k_mem)) (by k_dflt (assumption)) (by k_dflt (omega)) (by k_dflt (omega)) ?_ | refine fan_sub (by k_asm) (by k_mem) (by assumption) (by omega) (by omega) ?_); intro t9 x9 f9))))
  (k_with "call ref" => (k_here; k_dflt (((with_reducible show wpAny _ _ (call (Value.ref 71) _) _ _ _); first | with_reducible refine be4 (by k_dflt (k_asm)) (by k_dflt (k_asm)) (by k_dflt (k_asm)) (by k_dflt (k_asm)) (by k_dflt (k_asm)) (by k_dflt (first | exact rfl | assumption)) (by k_dflt (ktr_room)) (by k_dflt (ktr_units)) (by k_dflt (first | exact .inl rfl | exact .inr rfl)) ?_ | refine be4 (by k_asm) (by k_asm) (by k_asm) (by k_asm) (by k_asm) (by first | exact rfl | assumption) (by ktr_room) (by ktr_units) (by first | exact .inl rfl | exact .inr rfl) ?_); k_whole); intro b9 t9 h9 tk9 hb9 F9 N9; (try dsimp only); (try k_fold)))
  (k_with "call ref" => (k_here; k_dflt (((with_reducible show wpAny _ _ (call (Value.ref 121) _) _ _ _); first | with_reducible refine dig2c (by k_dflt (k_asm)) (by k_dflt (k_asm)) (by k_dflt (k_asm)) (by k_dflt (k_asm)) (by k_dflt (k_asm)) (by k_dflt (first | exact rfl | assumption)) (by k_dflt (ktr_room)) (by k_dflt (ktr_units)) (by k_dflt (assumption)) (by k_dflt (assumption)) (by k_dflt (assumption)) ?_ | refine dig2c (by k_asm) (by k_asm) (by k_asm) (by k_asm) (by k_asm) (by first | exact rfl | assumption) (by ktr_room) (by ktr_units) (by assumption) (by assumption) (by assumption) ?_); k_whole); intro b9 t9 h9 tk9 hb9 F9 N9; (try dsimp only); (try k_fold)))
  (k_with "call ref" => (k_here; k_dflt (((with_reducible show wpAny _ _ (call (Value.ref 161) _) _ _ _); first | with_reducible refine plc (by k_dflt (k_asm)) (by k_dflt (k_asm)) (by k_dflt (k_asm)) (by k_dflt (k_asm)) (by k_dflt (first | exact rfl | assumption)) (by k_dflt (ktr_room)) (by k_dflt (ktr_units)) (by k_dflt (k_asm)) (by k_dflt (assumption)) (by k_dflt (omega)) (by k_dflt (omega)) (by k_dflt (omega)) (by k_dflt (omega)) (by k_dflt (omega)) (by k_dflt (omega)) (by k_dflt (omega)) (by k_dflt (omega)) ?_ ?_ | refine plc (by k_asm) (by k_asm) (by k_asm) (by k_asm) (by first | exact rfl | assumption) (by ktr_room) (by ktr_units) (by k_asm) (by assumption) (by omega) (by omega) (by omega) (by omega) (by omega) (by omega) (by omega) (by omega) ?_ ?_); k_whole); (all_goals (intros; (try dsimp only); (try k_fold)))))
  (k_with "call ref" => (k_here; k_dflt (((with_reducible show wpAny _ _ (call (Value.ref 154) _) _ _ _); first | with_reducible refine chkW (by k_dflt (k_asm)) (by k_dflt (k_asm)) (by k_dflt (k_asm)) (by k_dflt (k_asm)) (by k_dflt (first | exact rfl | assumption)) (by k_dflt (ktr_room)) (by k_dflt (ktr_units)) (by k_dflt (k_asm)) (by k_dflt (k_mem)) (by k_dflt (k_mem)) (by k_dflt (first | with_reducible assumption | (refine Ne.symm ?_; with_reducible assumption) | omega)) (by k_dflt (omega)) (by k_dflt (omega)) (by k_dflt (assumption)) (by k_dflt (assumption)) (by k_dflt (assumption)) ?_ | refine chkW (by k_asm) (by k_asm) (by k_asm) (by k_asm) (by first | exact rfl | assumption) (by ktr_room) (by ktr_units) (by k_asm) (by k_mem) (by k_mem) (by first | with_reducible assumption | (refine Ne.symm ?_; with_reducible assumption) | omega) (by omega) (by omega) (by assumption) (by assumption) (by assumption) ?_); k_whole); intro h9 tk9 F9 N9; (try dsimp only); (try k_fold)))
  (k_with "call ref" => (k_here; (with_reducible show wpAny _ _ (call (Value.ref 251) _) _ _ _); k_dflt (((with_reducible show wpAny _ _ (call (Value.ref 251) _) _ _ _); first | with_reducible refine init_ (by k_dflt (k_asm)) (by k_dflt (k_asm)) (by k_dflt (k_asm)) (by k_dflt (k_asm)) (by k_dflt (first | exact rfl | assumption)) (by k_dflt (ktr_room)) (by k_dflt (ktr_units)) (by k_dflt (k_asm)) (by k_dflt (exact News.nil)) (by k_dflt (exact (fun _ h9 => nomatch h9))) (by k_dflt (assumption)) (by k_dflt (assumption)) (by k_dflt (assumption)) (by k_dflt (assumption)) (by k_dflt (assumption)) (by k_dflt (assumption)) (by k_dflt (assumption)) (by k_dflt (assumption)) (by k_dflt (assumption)) (by k_dflt (assumption)) (by k_dflt (assumption)) (by k_dflt (assumption)) (by k_dflt (assumption)) (by k_dflt (assumption)) (by k_dflt (assumption)) (by k_dflt (assumption)) ?_ ?_ | refine init_ (by k_asm) (by k_asm) (by k_asm) (by k_asm) (by first | exact rfl | assumption) (by ktr_room) (by ktr_units) (by k_asm) (by exact News.nil) (by exact (fun _ h9 => nomatch h9)) (by assumption) (by assumption) (by assumption) (by assumption) (by assumption) (by assumption) (by assumption) (by assumption) (by assumption) (by assumption) (by assumption) (by assumption) (by assumption) (by assumption) (by assumption) (by assumption) ?_ ?_); k_whole)))
  (k_with "call ref" => (k_here; k_dflt (first | (((with_reducible show wpAny _ _ (call (Value.ref 272) _) _ _ _); first | with_reducible refine big4 (by k_dflt (k_asm)) (by k_dflt (k_asm)) (by k_dflt (k_asm)) (by k_dflt (k_asm)) (by k_dflt (k_asm)) (by k_dflt (first | exact rfl | assumption)) (by k_dflt (ktr_room)) (by k_dflt (ktr_units)) ?_ | refine big4 (by k_asm) (by k_asm) (by k_asm) (by k_asm) (by k_asm) (by first | exact rfl | assumption) (by ktr_room) (by ktr_units) ?_); k_whole) | (((with_reducible show wpAny _ _ (call (Value.ref 272) _) _ _ _); first | with_reducible refine big8 (by k_dflt (k_asm)) (by k_dflt (k_asm)) (by k_dflt (k_asm)) (by k_dflt (k_asm)) (by k_dflt (k_asm)) (by k_dflt (first | exact rfl | assumption)) (by k_dflt (ktr_room)) (by k_dflt (ktr_units)) ?_ | refine big8 (by k_asm) (by k_asm) (by k_asm) (by k_asm) (by k_asm) (by first | exact rfl | assumption) (by ktr_room) (by ktr_units) ?_); k_whole)); intro b9 t9 h9 tk9 hb9 F9 N9; (have hz9 := szb_of hb9); (try dsimp only); (try k_fold)))
  (k_with "binaryOp Add bytes bytes" => (k_here; k_dflt ((first | with_reducible refine add_S (by k_dflt (first | assumption | exact rfl)) (by k_dflt (first | assumption | exact rfl)) (by k_dflt (first | assumption | exact szb_lit)) (by k_dflt (assumption)) (by k_dflt (exact Nat.le_of_ble_eq_true rfl)) ?_ | refine add_S (by first | assumption | exact rfl) (by first | assumption | exact rfl) (by first | assumption | exact szb_lit) (by assumption) (by exact Nat.le_of_ble_eq_true rfl) ?_)); intro d9 t9 k9 hb9 hz9; (try dsimp only)))
  (k_with "binaryOp Mult bytes int" => (k_here; k_dflt ((first | with_reducible refine mul_S (by k_dflt (assumption)) (by k_dflt (exact beL_len _ _)) (by k_dflt (omega)) (by k_dflt (omega)) ?_ | refine mul_S (by assumption) (by exact beL_len _ _) (by omega) (by omega) ?_)); intro d9 t9 k9 hb9 hz9; (try dsimp only)))
  (k_with "call type:bytes" => (k_here; (with_reducible show wpAny _ _ (call (Value.type "bytes") [Value.ref _]) _ _ _); k_dflt ((first | with_reducible refine mk_B (by k_dflt (k_asm)) (by k_dflt (k_asm)) (by k_dflt (rfl)) (by k_dflt (k_mem)) (by k_dflt (exact .cons _ _ (.cons _ _ (.cons _ _ (.cons _ _ .nil))))) (by k_dflt ((intro n9 hn9; (simp only [List.mem_cons, List.not_mem_nil, or_false] at hn9); omega))) (by k_dflt (exact Nat.le_of_ble_eq_true rfl)) ?_ | refine mk_B (by k_asm) (by k_asm) (by rfl) (by k_mem) (by exact .cons _ _ (.cons _ _ (.cons _ _ (.cons _ _ .nil)))) (by (intro n9 hn9; (simp only [List.mem_cons, List.not_mem_nil, or_false] at hn9); omega)) (by exact Nat.le_of_ble_eq_true rfl) ?_)); intro h9 d9 t9 k9 F9 N9 hb9 hz9; (replace hz9 := szb_ints hb9); (try dsimp only)))
  (k_with "compareOp In int ref" => (k_here; k_dflt ((first | with_reducible refine in_B (by k_dflt (k_asm)) (by k_dflt (k_mem)) (by k_dflt (assumption)) ?_ ?_ | refine in_B (by k_asm) (by k_mem) (by assumption) ?_ ?_)); intro hb9; (try dsimp only)))
  (k_with "compareOp NotIn int ref" => (k_here; k_dflt ((first | with_reducible refine notin_B (by k_dflt (k_asm)) (by k_dflt (k_mem)) (by k_dflt (assumption)) ?_ ?_ | refine notin_B (by k_asm) (by k_mem) (by assumption) ?_ ?_)); intro hb9; (try dsimp only)))
  (k_with "call builtin:list.index" => (k_here; k_dflt ((first | with_reducible refine idx_B (by k_dflt (k_asm)) (by k_dflt (k_mem)) (by k_dflt (assumption)) (by k_dflt (assumption)) (by k_dflt (omega)) ?_ | refine idx_B (by k_asm) (by k_mem) (by assumption) (by assumption) (by omega) ?_)); (try dsimp only)))
  (k_with "eval ListComp" => (k_here; (with_reducible show wpAny _ _ (eval (PySem.Expr.ListComp _ [⟨PySem.Expr.Name _ _, _, [_], _⟩] _ _) _) _ _ _); k_dflt ((first | with_reducible refine LCt.ListComp_T (F₀ := by k_dflt (k_asm)) (by k_dflt (with_unfolding_all rfl)) (by k_dflt (decide)) (by k_dflt (rfl)) (by k_dflt (decide)) (by k_dflt (rfl)) ?_ | refine LCt.ListComp_T (F₀ := by k_asm) (by with_unfolding_all rfl) (by decide) (by rfl) (by decide) (by rfl) ?_))))
  (k_with "CompSrcT" => (k_here; k_dflt ((first | with_reducible refine LCt.CompSrcT.ledger (by k_dflt (rfl)) (by k_dflt (k_asm)) (by k_dflt (k_asm)) (by k_dflt (k_mem)) (by k_dflt (rw [List.size_toArray, PySem.sizeLine_eq]; omega)) ?_ | refine LCt.CompSrcT.ledger (by rfl) (by k_asm) (by k_asm) (by k_mem) (by rw [List.size_toArray, PySem.sizeLine_eq]; omega) ?_)); intro g'; (refine' kci_list gG (by assumption) ?_ ?_ ?_)))
  (k_with "eval ListComp" => (k_here; (with_reducible show wpAny _ _ (eval (PySem.Expr.ListComp _ [⟨PySem.Expr.Tuple _ _ _, _, _, _⟩] _ _) _) _ _ _); k_dflt ((first | with_reducible refine ListComp_E (_F₀ := by k_dflt (k_asm)) (by k_dflt (with_unfolding_all rfl)) (by k_dflt (decide)) (by k_dflt (rfl)) (by k_dflt (decide)) (by k_dflt (rfl)) (by k_dflt (rfl)) (by k_dflt (decide)) ?_ | refine ListComp_E (_F₀ := by k_asm) (by with_unfolding_all rfl) (by decide) (by rfl) (by decide) (by rfl) (by rfl) (by decide) ?_))))
  (k_with "call type:enumerate" => (k_here; k_dflt ((first | with_reducible refine en_callI n (by k_dflt (rfl)) (by k_dflt (k_asm)) (by k_dflt (k_asm)) (by k_dflt (k_mem)) (by k_dflt (assumption)) (by k_dflt (assumption)) (by k_dflt (omega)) ?_ ?_ | refine en_callI n (by rfl) (by k_asm) (by k_asm) (by k_mem) (by assumption) (by assumption) (by omega) ?_ ?_)); (all_goals (first | (intro g9 ys9 hys9; (show LCg.FinE _ _ _ _ _ _ _)) | (intro g9; unfold EnTurn; intro i9 x9 t9 e9 it9 C9 D9 oE9 oIt9 oC9 m9 ys9 h9 tk9 E9 hi9 hx9 hC9 ha9 hb9 F9 N9)))))
  (k_with "call ref" => (k_here; (with_reducible show wpAny _ _ (call (Value.ref 260) _) _ _ _); k_dflt (((with_reducible show wpAny _ _ (call (Value.ref 260) _) _ _ _); first | with_reducible refine deck (by k_dflt (k_asm)) (by k_dflt (k_asm)) (by k_dflt (k_asm)) (by k_dflt (k_asm)) (by k_dflt (k_asm)) (by k_dflt (first | exact rfl | assumption)) (by k_dflt (ktr_room)) (by k_dflt (ktr_units)) (by k_dflt (assumption)) (by k_dflt (assumption)) (by k_dflt (omega)) ?_ | refine deck (by k_asm) (by k_asm) (by k_asm) (by k_asm) (by k_asm) (by first | exact rfl | assumption) (by ktr_room) (by ktr_units) (by assumption) (by assumption) (by omega) ?_); k_whole); intro dD9 lL9 oD9 vs9 nn9 h9 tk9 hD9 hlo9 hl9 hn9 hn8 F9 N9; (replace hn9 := allNeB_of hn9); (simp only [AllNeB, and_true] at hn9); (repeat ((have hNe9 := And.left hn9); (replace hn9 := And.right hn9))); (replace hn8 := allNeB_of hn8); (simp only [AllNeB, and_true] at hn8); (repeat ((have hNe9 := And.left hn8); (replace hn8 := And.right hn8))); (try dsimp only); (try k_fold)))
  (k_with "call ref" => (k_here; (with_reducible show wpAny _ _ (call (Value.ref 267) _) _ _ _); k_dflt (((with_reducible show wpAny _ _ (call (Value.ref 267) _) _ _ _); first | with_reducible refine drawW (by k_dflt (k_asm)) (by k_dflt (k_asm)) (by k_dflt (k_asm)) (by k_dflt (k_asm)) (by k_dflt (assumption)) (by k_dflt ((repeat' (first | (apply Pick.head; k_all) | (apply Pick.tail; focus k_ne))))) (by k_dflt ((repeat' (first | (apply Pick.head; k_all) | (apply Pick.tail; focus k_ne))))) (by k_dflt (k_asm)) (by k_dflt (first | exact rfl | assumption)) (by k_dflt (ktr_room)) (by k_dflt (ktr_units)) (by k_dflt (assumption)) (by k_dflt (first | assumption | omega)) (by k_dflt (decide)) (by k_dflt (decide)) ?_ | refine drawW (by k_asm) (by k_asm) (by k_asm) (by k_asm) (by assumption) (by (repeat' (first | (apply Pick.head; k_all) | (apply Pick.tail; focus k_ne)))) (by (repeat' (first | (apply Pick.head; k_all) | (apply Pick.tail; focus k_ne)))) (by k_asm) (by first | exact rfl | assumption) (by ktr_room) (by ktr_units) (by assumption) (by first | assumption | omega) (by decide) (by decide) ?_); k_whole); intro r9 t9 h9 tk9 oD9 vs9 nn9 hr0 hr1 hD9 F9 N9; (try dsimp only); (try k_fold)))
  (k_with "call type:range" => (k_here; k_dflt ((first | with_reducible refine range1_rows (by k_dflt (k_asm)) (by k_dflt (k_asm)) ?_ | refine range1_rows (by k_asm) (by k_asm) ?_)); intro h9 tk9 t9 u9 v9 hr9 F9 N9 _))
  (k_with "subscriptTail" => (k_here; (with_reducible show wpAny _ _ (subscriptTail _ _ (Value.ref _) (Value.int _ _)) _ _ _); k_dflt (first | ((first | with_reducible refine menu_K (by k_dflt (k_asm)) (by k_dflt (k_mem)) (by k_dflt (exact .cons _ _ (.cons _ _ (.cons _ _ (.cons _ _ (.cons _ _ (.cons _ _ .nil))))))) (by k_dflt (omega)) (by k_dflt ((simp only [List.length_cons, List.length_nil]; omega))) (by k_dflt (exact Nat.le_of_ble_eq_true rfl)) 0 9223372036854775808 (by k_dflt (decide +kernel)) ?_ | refine menu_K (by k_asm) (by k_mem) (by exact .cons _ _ (.cons _ _ (.cons _ _ (.cons _ _ (.cons _ _ (.cons _ _ .nil)))))) (by omega) (by (simp only [List.length_cons, List.length_nil]; omega)) (by exact Nat.le_of_ble_eq_true rfl) 0 9223372036854775808 (by decide +kernel) ?_)) | ((first | with_reducible refine menu_K (by k_dflt (k_asm)) (by k_dflt (k_mem)) (by k_dflt (exact .cons _ _ (.cons _ _ (.cons _ _ (.cons _ _ .nil))))) (by k_dflt (omega)) (by k_dflt ((simp only [List.length_cons, List.length_nil]; omega))) (by k_dflt (exact Nat.le_of_ble_eq_true rfl)) 0 7 (by k_dflt (decide +kernel)) ?_ | refine menu_K (by k_asm) (by k_mem) (by exact .cons _ _ (.cons _ _ (.cons _ _ (.cons _ _ .nil)))) (by omega) (by (simp only [List.length_cons, List.length_nil]; omega)) (by exact Nat.le_of_ble_eq_true rfl) 0 7 (by decide +kernel) ?_))); intro p9 t9 hp9; (try dsimp only)))
  (k_with "binaryOp Pow int int" => (k_here; (first | with_reducible refine pow31 ?_ | with_reducible refine pow63 ?_ | with_reducible refine pow40 ?_)))
  (k_with "call builtin:list.append" => (k_here; k_dflt ((first | with_reducible refine app_K (by k_dflt (k_asm)) (by k_dflt (k_asm)) (by k_dflt (k_updF)) (by k_dflt (omega)) ?_ | refine app_K (by k_asm) (by k_asm) (by k_updF) (by omega) ?_)); intro h' F' N'; (try dsimp only at N'); (try dsimp only)))
  (k_with "noteFrame ref" => (k_here; (rename RaisedS _ _ _ _ _ _ _ _ _ => rkX); (rename KtsDicts _ _ => dkX); k_dflt ((first | with_reducible refine caught_SO0 (KF := Mine.hd.heap_1 _) (C := 64) rkX (by k_dflt (assumption)) (by k_dflt (assumption)) (by k_dflt (assumption)) (by k_dflt (assumption)) (by k_dflt (assumption)) dkX KtsTurn.refl (by k_dflt (k_is)) (by k_dflt (decide +kernel)) ?_ (by k_dflt (exact rfl)) (by k_dflt (exact rfl)) (by k_dflt (decide)) (by k_dflt (passes_own)) | refine caught_SO0 (KF := Mine.hd.heap_1 _) (C := 64) rkX (by assumption) (by assumption) (by assumption) (by assumption) (by assumption) dkX KtsTurn.refl (by k_is) (by decide +kernel) ?_ (by exact rfl) (by exact rfl) (by decide) (by passes_own)); k_whole); intro h' g9 n9 T9 F' N' G9 N9 B' X' P' D'; (clear N9 G9 N'); (have N' := (News.nil : News g9 _ h' []))))
  trivial
section
variable {w : World} {p : Program} {loose : List Str} {mean : ExcName → Option Value} {mg mb : Str → Option Value}
  {dp un : Nat} {gd : Option (List Code)} {cn : Str} {cs : Scope} {a : Addr} {ccd : Value} {cl : List (Str × Addr)} {outer : List Env} {A₀ : Around} {base h₀ : Heap} {L : Addr} {m : Str → Option Value} {s : Shared} {Q E : Value → Shared → Prop}

theorem octW {full r1 r2 r3 r4 : List (Addr × Obj)} {lP hI hD kD : Addr} {h1 h2 bey : Int} {t1 t2 t3 tb : Tok} {oK : Obj} {vs : List Value} {ps : List Int} {nn : Nat} {turned : Bool}
    (B : Below A₀ base outer h₀) (F : Fr h₀ L s.heap m) (X : (hd.heap_1 w.params).In h₀) (T : Top p loose mean mg mb h₀) (hk : cs.kind = .function)
    (hd : dp + 10 < recursionLimit) (hu : un + 300 < cLine)
    (N : News h₀ L s.heap full) (P1 : Pick lP (listOf vs.toArray nn) full r1) (P2 : Pick hI (instObj 124 hD) r1 r2) (P3 : Pick hD (dictOf (hashEnts h1 h2 t1 t2 t3 kD) 2) r2 r3) (P4 : Pick kD oK r3 r4)
    (hlo : (kD == sysModules) = false) (hK : oK.IsDictOf (PySem.W.bytesKind PySem.Challenge.rw_nt0280_01.row.prog w) [])
    (hv : IntsAre vs ps) (hl1 : 1 ≤ ps.length) (hl3 : ps.length ≤ 3) (hmax : ∀ p ∈ ps, 0 ≤ p ∧ p ≤ 9223372036854775808) (hbey : 0 ≤ bey ∧ bey ≤ 7)
    (ret : ∀ (oct c : Array UInt8) (tO t0 : Tok) (oK' : Obj) (h' : Heap) (tk' : Nat), KBw.bInts c = octK turned ps bey → KBw.bInts oct = KBw.bInts c ++ [0, 0, 0, 1] → oK'.IsDictOf (PySem.W.bytesKind PySem.Challenge.rw_nt0280_01.row.prog w) [(c.toList, .int 1 t0)] → Fr h₀ L h' m → News h₀ L h' ((lP, listOf vs.toArray nn) :: (hI, instObj 124 hD) :: (hD, dictOf (hashEnts h1 h2 t1 t2 t3 kD) 2) :: (kD, oK') :: r4) → Q (.bytes oct tO) { s with heap := h', toks := tk' }) :
    wpAny (model PySem.Challenge.rw_nt0280_01.row.prog w) (ktrTop dp un gd cn cs L a ccd cl outer) (call (.ref 277) [.ref lP, .ref hI, .int bey tb, .bool turned]) Q E s := by
  have N1 := P1.news N
  have N2 := P2.news N1
  have N3 := P3.news N2
  refine oct_ (news := r4) B F X T hk hd hu (fun p hp => ?_) (P4.news N3) (Apart.cons (Apart.cons (Apart.cons (Apart.cons Apart.nil P4.ne) (fun p hp => P3.ne p (P4.sub p hp))) (fun p hp => P2.ne p (P3.sub p (P4.sub p hp)))) (fun p hp => P1.ne p (P2.sub p (P3.sub p (P4.sub p hp)))))
    ⟨fun e => P2.ne _ P3.mem e.symm, fun e => P2.ne _ (P3.sub _ P4.mem) e.symm, fun e => P3.ne _ P4.mem e.symm⟩ ⟨fun e => P1.ne _ P2.mem e.symm, fun e => P1.ne _ (P2.sub _ P3.mem) e.symm, fun e => P1.ne _ (P2.sub _ (P3.sub _ P4.mem)) e.symm⟩ hlo hK hv hl1 hl3 hmax hbey ret
  rcases List.mem_cons.mp hp with e | hp
  · rw [e]; exact N _ P1.mem
  rcases List.mem_cons.mp hp with e | hp
  · rw [e]; exact N1 _ P2.mem
  rcases List.mem_cons.mp hp with e | hp
  · rw [e]; exact N2 _ P3.mem
  · rw [List.mem_singleton.mp hp]; exact N3 _ P4.mem
end
section
variable {w : World} {p : Program} {loose : List Str} {mean : ExcName → Option Value} {mg mb : Str → Option Value}
  {dp un : Nat} {gd : Option (List Code)} {cn : Str} {cs : Scope} {a : Addr} {ccd : Value} {cl : List (Str × Addr)} {outer : List Env} {A₀ : Around} {base h₀ : Heap} {L : Addr} {m : Str → Option Value} {s : Shared} {Q E : Value → Shared → Prop}

theorem readW {full r1 r2 r3 : List (Addr × Obj)} {hI hD kD : Addr} {h1 h2 bey : Int} {t1 t2 t3 tO t0 : Tok} {oK : Obj} {oct c : Array UInt8} {ps : List Int} {turned : Bool}
    (B : Below A₀ h₀ [] h₀) (F : Fr h₀ L s.heap m) (X : (hd.heap_1 w.params).In h₀) (T : Top p loose mean mg mb h₀) (hk : cs.kind = .function)
    (hd : dp + 50 < recursionLimit) (hu : un + 1200 < cLine)
    (N : News h₀ L s.heap full) (P1 : Pick hI (instObj 124 hD) full r1) (P2 : Pick hD (dictOf (hashEnts h1 h2 t1 t2 t3 kD) 2) r1 r2) (P3 : Pick kD oK r2 r3)
    (hlo : (kD == sysModules) = false) (hK : oK.IsDictOf (PySem.W.bytesKind PySem.Challenge.rw_nt0280_01.row.prog w) [(c.toList, .int 1 t0)])
    (hc : KBw.bInts c = octK turned ps bey) (ho : KBw.bInts oct = KBw.bInts c ++ [0, 0, 0, 1]) (hl1 : 1 ≤ ps.length) (hl3 : ps.length ≤ 3) (hnd : ps.Nodup) (hmax : ∀ p ∈ ps, 0 ≤ p ∧ p ≤ 9223372036854775808) (hbey : 0 ≤ bey ∧ bey ≤ 7)
    (ret : ∀ (x dx lF lC lI lP : Addr) (vF vI vP : List Value) (nF nP : Nat) (vS : Value) (tO t2 tv tn k0 k1 k2 k3 k4 k5 k6 k7 k8 k9 : Tok) (h' : Heap) (tk' : Nat), ¬ Fails ps bey → Fr h₀ L h' m →
      News h₀ L h' ((x, instObj 251 dx) :: (dx, dictOf (idxEnts w oct ps.length hI lF lC lI lP vS tO t2 tv tn k0 k1 k2 k3 k4 k5 k6 k7 k8 k9) 10) :: (lF, listOf vF.toArray nF) :: (lI, LCg.lst vI) :: (lP, listOf vP.toArray nP) :: r3) →
      Apart [(x, instObj 251 dx), (dx, dictOf (idxEnts w oct ps.length hI lF lC lI lP vS tO t2 tv tn k0 k1 k2 k3 k4 k5 k6 k7 k8 k9) 10), (lF, listOf vF.toArray nF), (lI, LCg.lst vI), (lP, listOf vP.toArray nP)] r3 →
      IntsAre vF (fanL ps.length) → RelL (IdRel (ksOf turned ps bey) (8 + 4 * 256)) (rangeKs 0 ps.length) vI → IntsAre vP ps → Q (.ref x) { s with heap := h', toks := tk' })
    (retN : ∀ (h' : Heap) (tk' : Nat), Fails ps bey → Fr h₀ L h' m → News h₀ L h' r3 → Q .none { s with heap := h', toks := tk' }) :
    wpAny (model PySem.Challenge.rw_nt0280_01.row.prog w) (ktrTop dp un gd cn cs L a ccd cl []) (call (.ref 284) [.bytes oct tO, .ref hI]) Q E s := by
  have N1 := P1.news N
  have N2 := P2.news N1
  have hks : ksOf turned ps bey = KBw.bInts c ++ [0, 0, 0, 1] := by rw [hc]; rfl
  have hgl := gsOf_len turned ps
  have hlk := lK (turned := turned) (ps := ps) (bey := bey)
  refine read_ (h1 := h1) (h2 := h2) (t1 := t1) (t2 := t2) (t3 := t3) (news := r3) (n := (ps.length : Int)) (gm := ((gsOf turned ps).length : Int)) (ks := ksOf turned ps bey) B F X T hk hd hu (fun p hp => ?_) (P3.news N2) (Apart.cons (Apart.cons (Apart.cons Apart.nil P3.ne) (fun p hp => P2.ne p (P3.sub p hp))) (fun p hp => P1.ne p (P2.sub p (P3.sub p hp))))
    ⟨fun e => P1.ne _ P2.mem e.symm, fun e => P1.ne _ (P2.sub _ P3.mem) e.symm, fun e => P2.ne _ P3.mem e.symm⟩ hlo hK (ho.trans hks.symm) (by omega) hks (by omega) (by omega) (by omega) (by omega) (k_fan hl1 hl3) (by omega) (by omega) k_mark k_vers k_ids ?_ ?_
  · rcases List.mem_cons.mp hp with e | hp
    · rw [e]; exact N _ P1.mem
    rcases List.mem_cons.mp hp with e | hp
    · rw [e]; exact N1 _ P2.mem
    · rw [List.mem_singleton.mp hp]; exact N2 _ P3.mem
  · intro x dx lF lC lI lP vF vI vP nF nP xs vS tO t2 tv tn k0 k1 k2 k3 k4 k5 k6 k7 k8 k9 h' tk' F' N' hx hvF hR hvP hxs
    obtain ⟨hf, e⟩ := law_some hl3 hbey hmax hnd hxs
    subst e
    exact ret x dx lF lC lI lP vF vI vP nF nP vS tO t2 tv tn k0 k1 k2 k3 k4 k5 k6 k7 k8 k9 h' tk' hf F' N' hx hvF hR hvP
  · intro k h' tk' F' N' hk hno
    exact retN h' tk' (law_none hl3 hbey hmax hk hno) F' N'
end
inductive Sift (rel : List (Addr × Obj)) : List (Addr × Obj) → List (Addr × Obj) → Prop
  | nil : Sift rel [] []
  | drop {p : Addr × Obj} {l r : List (Addr × Obj)} : p ∈ rel → Sift rel l r → Sift rel (p :: l) r
  | keep {p : Addr × Obj} {l r : List (Addr × Obj)} : AllNeB p.1 rel → Sift rel l r → Sift rel (p :: l) (p :: r)
theorem Sift.sub {rel l r : List (Addr × Obj)} (h : Sift rel l r) : ∀ p ∈ r, p ∈ l := by
  induction h with
  | nil => exact fun _ h => h
  | drop _ _ ih => exact fun p hp => .tail _ (ih p hp)
  | keep _ _ ih =>
    intro p hp
    rcases List.mem_cons.mp hp with e | hp
    · rw [e]; exact .head _
    · exact .tail _ (ih p hp)
theorem allNeB_ne {d : Addr} : ∀ {l : List (Addr × Obj)}, AllNeB d l → d ∉ l.map (·.1)
  | [], _, h => nomatch h
  | _ :: _, ⟨h, hr⟩, hm => by
    rcases List.mem_cons.mp hm with e | hm
    · exact h e.symm
    · exact allNeB_ne hr hm
theorem Sift.apart {rel l r : List (Addr × Obj)} (h : Sift rel l r) : Apart rel r := by
  induction h with
  | nil => exact fun _ h => nomatch h
  | drop _ _ ih => exact ih
  | keep hn _ ih =>
    intro p hp
    rcases List.mem_cons.mp hp with e | hp
    · rw [e]; exact allNeB_ne hn
    · exact ih p hp
theorem Sift.news {h₀ h : Heap} {L : Addr} {rel l r : List (Addr × Obj)} (S : Sift rel l r) (N : News h₀ L h l) : News h₀ L h r := fun p hp => N p (S.sub p hp)
def NeA (a b : Nat) : Prop := a ≠ b
theorem NeA.out {a b : Nat} (h : NeA a b) : a ≠ b := h
theorem NeA.outs {a b : Nat} (h : NeA a b) : b ≠ a := Ne.symm h
/-- the facts of a list of pairs off three addresses, one by one -/
noncomputable def ArrOff (I C D : Addr) (P : Prop) : List (Addr × Obj) → Prop
  | [] => P
  | p :: r => NeA p.1 I → NeA p.1 C → NeA p.1 D → ArrOff I C D P r
theorem off_arr {I C D : Addr} {P : Prop} : ∀ {l : List (Addr × Obj)}, LCg.Off3 I C D l → ArrOff I C D P l → P
  | [], _, h => h
  | _ :: _, ⟨⟨a, b, c⟩, r⟩, h => off_arr r (h a b c)
noncomputable def ArrA (d : Addr) (P : Prop) : List (Addr × Obj) → Prop
  | [] => P
  | p :: r => NeA p.1 d → ArrA d P r
theorem arrA {d : Addr} {P : Prop} : ∀ {l : List (Addr × Obj)}, (∀ p ∈ l, p.1 ≠ d) → ArrA d P l → P
  | [], _, h => h
  | _ :: _, q, h => arrA (fun p hp => q p (.tail _ hp)) (h (q _ (.head _)))
noncomputable def ArrN (rel : List (Addr × Obj)) (P : Prop) : List (Addr × Obj) → Prop
  | [] => P
  | p :: r => ArrA p.1 (ArrN rel P r) rel
theorem apart_arr {rel : List (Addr × Obj)} {P : Prop} : ∀ {l : List (Addr × Obj)}, Apart rel l → ArrN rel P l → P
  | [], _, h => h
  | _ :: _, q, h => apart_arr (fun p hp => q p (.tail _ hp)) (arrA (fun p hp e => q _ (.head _) (by rw [← e]; exact List.mem_map_of_mem hp)) h)
theorem arr5 {d a b c e f : Addr} {P : Prop} (h : d ∉ [a, b, c, e, f]) (k : NeA a d → NeA b d → NeA c d → NeA e d → NeA f d → P) : P :=
  k (fun q => h (by rw [← q]; exact .head _)) (fun q => h (by rw [← q]; exact .tail _ (.head _))) (fun q => h (by rw [← q]; exact .tail _ (.tail _ (.head _)))) (fun q => h (by rw [← q]; exact .tail _ (.tail _ (.tail _ (.head _))))) (fun q => h (by rw [← q]; exact .tail _ (.tail _ (.tail _ (.tail _ (.head _))))))
theorem arr5_mk {d a b c e f : Addr} (h1 : a ≠ d) (h2 : b ≠ d) (h3 : c ≠ d) (h4 : e ≠ d) (h5 : f ≠ d) : d ∉ [a, b, c, e, f] := fun h => by
  rcases List.mem_cons.mp h with q | h
  · exact h1 q.symm
  rcases List.mem_cons.mp h with q | h
  · exact h2 q.symm
  rcases List.mem_cons.mp h with q | h
  · exact h3 q.symm
  rcases List.mem_cons.mp h with q | h
  · exact h4 q.symm
  · exact h5 (List.mem_singleton.mp h).symm
theorem arrB {d : Addr} {P : Prop} : ∀ {l : List (Addr × Obj)}, AllNeB d l → ArrA d P l → P
  | [], _, h => h
  | _ :: _, ⟨a, q⟩, h => arrB q (h a)
section
variable {w : World} {p : Program} {loose : List Str} {mean : ExcName → Option Value} {mg mb : Str → Option Value}
  {dp un : Nat} {gd : Option (List Code)} {cn : Str} {cs : Scope} {a : Addr} {ccd : Value} {cl : List (Str × Addr)} {outer : List Env} {A₀ : Around} {base h₀ : Heap} {L : Addr} {m : Str → Option Value} {s : Shared} {Q E : Value → Shared → Prop}

theorem offatW {full r5 : List (Addr × Obj)} {x dx hI lF lC lI lP : Addr} {oct : Array UInt8} {n k : Int} {vS : Value} {tO t2 tv tn k0 k1 k2 k3 k4 k5 k6 k7 k8 k9 ta : Tok} {vF vI vP : List Value} {nF nP : Nat} {xs : List Int}
    (B : Below A₀ base outer h₀) (F : Fr h₀ L s.heap m) (X : (hd.heap_1 w.params).In h₀) (T : Top p loose mean mg mb h₀) (hk : cs.kind = .function)
    (hd : dp + 8 < recursionLimit) (hu : un + 200 < cLine)
    (N : News h₀ L s.heap full) (hm1 : (x, instObj 251 dx) ∈ full) (hm2 : (dx, dictOf (idxEnts w oct n hI lF lC lI lP vS tO t2 tv tn k0 k1 k2 k3 k4 k5 k6 k7 k8 k9) 10) ∈ full) (hm3 : (lF, listOf vF.toArray nF) ∈ full) (hm4 : (lI, LCg.lst vI) ∈ full) (hm5 : (lP, listOf vP.toArray nP) ∈ full)
    (S : Sift [(x, instObj 251 dx), (dx, dictOf (idxEnts w oct n hI lF lC lI lP vS tO t2 tv tn k0 k1 k2 k3 k4 k5 k6 k7 k8 k9) 10), (lF, listOf vF.toArray nF), (lI, LCg.lst vI), (lP, listOf vP.toArray nP)] full r5)
    (hn : 1 ≤ n) (hn3 : n ≤ 3) (hp0 : 0 ≤ k) (hp1 : k < n) (hv : IntsAre vP xs) (hxl : xs.length = n.toNat)
    (ret : ∀ (t : Tok) (h' : Heap) (tk' : Nat), Fr h₀ L h' m → News h₀ L h' ((x, instObj 251 dx) :: (dx, dictOf (idxEnts w oct n hI lF lC lI lP vS tO t2 tv tn k0 k1 k2 k3 k4 k5 k6 k7 k8 k9) 10) :: (lF, listOf vF.toArray nF) :: (lI, LCg.lst vI) :: (lP, listOf vP.toArray nP) :: r5) → Q (.int (xs.getD k.toNat 0) t) { s with heap := h', toks := tk' }) :
    wpAny (model PySem.Challenge.rw_nt0280_01.row.prog w) (ktrTop dp un gd cn cs L a ccd cl outer) (call (.ref 227) [.ref x, .int k ta]) Q E s :=
  offat (ks := []) (news := r5) B F X T hk hd hu (fun p hp => N p (by
    simp only [List.mem_cons, List.not_mem_nil, or_false] at hp
    rcases hp with rfl | rfl | rfl | rfl | rfl <;> assumption)) (S.news N) S.apart hn hn3 hp0 hp1 hv hxl ret
theorem findW {full r5 : List (Addr × Obj)} {x dx hI lF lC lI lP : Addr} {oct : Array UInt8} {n k : Int} {vS : Value} {tO t2 tv tn k0 k1 k2 k3 k4 k5 k6 k7 k8 k9 : Tok} {vF vI vP : List Value} {nF nP : Nat} {xs ks : List Int} {b : Array UInt8} {tb : Tok}
    (B : Below A₀ base outer h₀) (F : Fr h₀ L s.heap m) (X : (hd.heap_1 w.params).In h₀) (T : Top p loose mean mg mb h₀) (hk : cs.kind = .function)
    (hd : dp + 8 < recursionLimit) (hu : un + 200 < cLine)
    (N : News h₀ L s.heap full) (hm1 : (x, instObj 251 dx) ∈ full) (hm2 : (dx, dictOf (idxEnts w oct n hI lF lC lI lP vS tO t2 tv tn k0 k1 k2 k3 k4 k5 k6 k7 k8 k9) 10) ∈ full) (hm3 : (lF, listOf vF.toArray nF) ∈ full) (hm4 : (lI, LCg.lst vI) ∈ full) (hm5 : (lP, listOf vP.toArray nP) ∈ full)
    (S : Sift [(x, instObj 251 dx), (dx, dictOf (idxEnts w oct n hI lF lC lI lP vS tO t2 tv tn k0 k1 k2 k3 k4 k5 k6 k7 k8 k9) 10), (lF, listOf vF.toArray nF), (lI, LCg.lst vI), (lP, listOf vP.toArray nP)] full r5)
    (hn : 1 ≤ n) (hn3 : n ≤ 3) (hp0 : 0 ≤ k) (hp1 : k < n) (hv : IntsAre vP xs) (hxl : xs.length = n.toNat) (hvF : IntsAre vF (fanL n)) (R : RelL (IdRel ks (8 + 4 * 256)) (rangeKs 0 n.toNat) vI) (hids : IdsAt ks (8 + 4 * 256) n) (hb : KBw.bInts b = [1, 0, 0, k])
    (ret : ∀ (t : Tok) (h' : Heap) (tk' : Nat), Fr h₀ L h' m → News h₀ L h' ((x, instObj 251 dx) :: (dx, dictOf (idxEnts w oct n hI lF lC lI lP vS tO t2 tv tn k0 k1 k2 k3 k4 k5 k6 k7 k8 k9) 10) :: (lF, listOf vF.toArray nF) :: (lI, LCg.lst vI) :: (lP, listOf vP.toArray nP) :: r5) → Q (.int (xs.getD k.toNat 0) t) { s with heap := h', toks := tk' }) :
    wpAny (model PySem.Challenge.rw_nt0280_01.row.prog w) (ktrTop dp un gd cn cs L a ccd cl outer) (call (.ref 213) [.ref x, .bytes b tb]) Q E s :=
  find_ (ta := tO) (news := r5) B F X T hk hd hu (fun p hp => N p (by
    simp only [List.mem_cons, List.not_mem_nil, or_false] at hp
    rcases hp with rfl | rfl | rfl | rfl | rfl <;> assumption)) (S.news N) S.apart hn hn3 hp0 hp1 hv hxl hvF R hids hb ret
end
theorem rangeKs_map (ps : List Int) : (rangeKs 0 ps.length).map (fun k => ps.getD k.toNat 0) = ps := by
  apply List.ext_getElem
  · simp [rangeKs]
  · intro j h1 h2
    simp [rangeKs, h2]
theorem neA_iff {a b : Nat} : (a ≠ b) = NeA a b := rfl
theorem rel_ps {ps : List Int} {ys : List Value} {n : Nat} (hn : n = ps.length) (h : RelL (fun k y => ∃ t, y = Value.int (ps.getD k.toNat 0) t) (rangeKs 0 n) ys) : IntsAre ys ps := by
  subst hn
  have := relInts h
  rw [rangeKs_map] at this
  exact this
theorem no_fails1 {ps : List Int} {b : Int} (hf : Fails ps b) (h1 : ¬ (9223372036854775808 : Int) ∈ ps) (h2 : decide (List.foldl gG [] ps = []) = true) : False := by
  rcases hf with h | ⟨_, h⟩
  · exact h1 h
  · have e : List.foldl gG [] ps = geL ps := gG_fold ps []
    rw [e] at h2
    exact h (of_decide_eq_true h2)
theorem no_fails2 {ps : List Int} {b : Int} (hf : Fails ps b) (h1 : ¬ (9223372036854775808 : Int) ∈ ps) (h2 : ¬ 0 < b) : False := by
  rcases hf with h | ⟨h, _⟩
  · exact h1 h
  · exact h2 h
theorem yes_fails {ps : List Int} {b : Int} (h : 0 < b) (h2 : decide (List.foldl gG [] ps = []) = false) : Fails ps b := by
  have e : List.foldl gG [] ps = geL ps := gG_fold ps []
  rw [e] at h2
  exact .inr ⟨h, of_decide_eq_false h2⟩

end
local macro_rules | `(tactic| k_ne) => `(tactic| (refine neN ?_; (try dsimp only); first | with_reducible assumption | (with_reducible exact NeA.out (by with_reducible assumption)) | (with_reducible exact NeA.outs (by with_reducible assumption))))
section
theorem wordsLawTb : True := by
  w_top off
  k_with_none
  (k_with "exec For Name Subscript cons nil" => (k_here; (rename Fr _ _ _ _ => lF'); (with_unfolding_all refine For_invVF lF' (by exact rfl) (by exact rfl) ?_; k_whole)))
  (k_with "call ref" => (k_here; k_dflt (first | (refine call_meth (by k_asm) (by k_mem) ?_; k_whole; (first | ((first | with_reducible refine code_defO (by k_dflt (exact rfl)) (by k_dflt (exact rfl)) (by k_dflt (first | exact rfl | assumption)) (by k_dflt (k_asm)) (by k_dflt (k_asm)) (by k_dflt (k_asm)) (by k_dflt (k_asm)) (by k_dflt (k_asm)) (by k_dflt (k_is)) (by k_dflt (k_is)) (by k_dflt (ktr_room)) (by k_dflt (first | exact BindsTo.of_eq rfl | exact binds_K (by k_in) rfl (by k_is) rfl rfl rfl)) (by k_dflt (decide)) (by k_dflt (exact locs rfl)) (by k_dflt (exact rfl)) (by k_dflt (exact rfl)) (by k_dflt (exact rfl)) ?_ | refine code_defO (by exact rfl) (by exact rfl) (by first | exact rfl | assumption) (by k_asm) (by k_asm) (by k_asm) (by k_asm) (by k_asm) (by k_is) (by k_is) (by ktr_room) (by first | exact BindsTo.of_eq rfl | exact binds_K (by k_in) rfl (by k_is) rfl rfl rfl) (by decide) (by exact locs rfl) (by exact rfl) (by exact rfl) (by exact rfl) ?_); k_whole; intro g' L' h' FG' F' N' B' X' T'; (try dsimp only); (try k_lift B'); (try k_fold)) | ((first | with_reducible refine code_defCO (by k_dflt (exact rfl)) (by k_dflt (exact rfl)) (by k_dflt (first | exact rfl | assumption)) (by k_dflt (k_asm)) (by k_dflt (k_asm)) (by k_dflt (k_asm)) (by k_dflt (k_asm)) (by k_dflt (k_asm)) (by k_dflt (k_is)) (by k_dflt (k_is)) (by k_dflt (ktr_room)) (by k_dflt (first | exact BindsTo.of_eq rfl | exact binds_K (by k_in) rfl (by k_is) rfl rfl rfl)) (by k_dflt (exact rfl)) (by k_dflt (decide +kernel)) (by k_dflt (exact rfl)) (by k_dflt (exact rfl)) (by k_dflt (exact rfl)) ?_ | refine code_defCO (by exact rfl) (by exact rfl) (by first | exact rfl | assumption) (by k_asm) (by k_asm) (by k_asm) (by k_asm) (by k_asm) (by k_is) (by k_is) (by ktr_room) (by first | exact BindsTo.of_eq rfl | exact binds_K (by k_in) rfl (by k_is) rfl rfl rfl) (by exact rfl) (by decide +kernel) (by exact rfl) (by exact rfl) (by exact rfl) ?_); k_whole; intro g' L' h' tk' cells' FG' F' N' Y' B' X' T' l1; (try k_lt l1); k_cells Y'; (try simp only [List.cons_append, List.nil_append] at N'); (try dsimp only); (try k_lift B'); (try k_fold)))) | ((first | with_reducible refine call_cls (by k_dflt (k_asm)) (by k_dflt (k_asm)) (by k_dflt (k_asm)) (by k_dflt (k_is)) (by k_dflt (k_is)) (by k_dflt (k_is)) ?_ | refine call_cls (by k_asm) (by k_asm) (by k_asm) (by k_is) (by k_is) (by k_is) ?_); k_whole; intro x' d' h' F' N' l1 l2; (try k_lt l1); (try k_lt2 l2); (try k_sweep); (first | ((first | with_reducible refine code_defO (by k_dflt (exact rfl)) (by k_dflt (exact rfl)) (by k_dflt (first | exact rfl | assumption)) (by k_dflt (k_asm)) (by k_dflt (k_asm)) (by k_dflt (k_asm)) (by k_dflt (k_asm)) (by k_dflt (k_asm)) (by k_dflt (k_is)) (by k_dflt (k_is)) (by k_dflt (ktr_room)) (by k_dflt (first | exact BindsTo.of_eq rfl | exact binds_K (by k_in) rfl (by k_is) rfl rfl rfl)) (by k_dflt (decide)) (by k_dflt (exact locs rfl)) (by k_dflt (exact rfl)) (by k_dflt (exact rfl)) (by k_dflt (exact rfl)) ?_ | refine code_defO (by exact rfl) (by exact rfl) (by first | exact rfl | assumption) (by k_asm) (by k_asm) (by k_asm) (by k_asm) (by k_asm) (by k_is) (by k_is) (by ktr_room) (by first | exact BindsTo.of_eq rfl | exact binds_K (by k_in) rfl (by k_is) rfl rfl rfl) (by decide) (by exact locs rfl) (by exact rfl) (by exact rfl) (by exact rfl) ?_); k_whole; intro g' L' h' FG' F' N' B' X' T'; (try dsimp only); (try k_lift B'); (try k_fold)) | ((first | with_reducible refine code_defCO (by k_dflt (exact rfl)) (by k_dflt (exact rfl)) (by k_dflt (first | exact rfl | assumption)) (by k_dflt (k_asm)) (by k_dflt (k_asm)) (by k_dflt (k_asm)) (by k_dflt (k_asm)) (by k_dflt (k_asm)) (by k_dflt (k_is)) (by k_dflt (k_is)) (by k_dflt (ktr_room)) (by k_dflt (first | exact BindsTo.of_eq rfl | exact binds_K (by k_in) rfl (by k_is) rfl rfl rfl)) (by k_dflt (exact rfl)) (by k_dflt (decide +kernel)) (by k_dflt (exact rfl)) (by k_dflt (exact rfl)) (by k_dflt (exact rfl)) ?_ | refine code_defCO (by exact rfl) (by exact rfl) (by first | exact rfl | assumption) (by k_asm) (by k_asm) (by k_asm) (by k_asm) (by k_asm) (by k_is) (by k_is) (by ktr_room) (by first | exact BindsTo.of_eq rfl | exact binds_K (by k_in) rfl (by k_is) rfl rfl rfl) (by exact rfl) (by decide +kernel) (by exact rfl) (by exact rfl) (by exact rfl) ?_); k_whole; intro g' L' h' tk' cells' FG' F' N' Y' B' X' T' l1; (try k_lt l1); k_cells Y'; (try simp only [List.cons_append, List.nil_append] at N'); (try dsimp only); (try k_lift B'); (try k_fold)))) | ((first | with_reducible refine wpAny_call ?_ | refine wpAny_call ?_); (first | ((first | with_reducible refine code_defO (by k_dflt (exact rfl)) (by k_dflt (exact rfl)) (by k_dflt (first | exact rfl | assumption)) (by k_dflt (k_asm)) (by k_dflt (k_asm)) (by k_dflt (k_asm)) (by k_dflt (k_asm)) (by k_dflt (k_asm)) (by k_dflt (k_is)) (by k_dflt (k_is)) (by k_dflt (ktr_room)) (by k_dflt (first | exact BindsTo.of_eq rfl | exact binds_K (by k_in) rfl (by k_is) rfl rfl rfl)) (by k_dflt (decide)) (by k_dflt (exact locs rfl)) (by k_dflt (exact rfl)) (by k_dflt (exact rfl)) (by k_dflt (exact rfl)) ?_ | refine code_defO (by exact rfl) (by exact rfl) (by first | exact rfl | assumption) (by k_asm) (by k_asm) (by k_asm) (by k_asm) (by k_asm) (by k_is) (by k_is) (by ktr_room) (by first | exact BindsTo.of_eq rfl | exact binds_K (by k_in) rfl (by k_is) rfl rfl rfl) (by decide) (by exact locs rfl) (by exact rfl) (by exact rfl) (by exact rfl) ?_); k_whole; intro g' L' h' FG' F' N' B' X' T'; (try dsimp only); (try k_lift B'); (try k_fold)) | ((first | with_reducible refine code_defCO (by k_dflt (exact rfl)) (by k_dflt (exact rfl)) (by k_dflt (first | exact rfl | assumption)) (by k_dflt (k_asm)) (by k_dflt (k_asm)) (by k_dflt (k_asm)) (by k_dflt (k_asm)) (by k_dflt (k_asm)) (by k_dflt (k_is)) (by k_dflt (k_is)) (by k_dflt (ktr_room)) (by k_dflt (first | exact BindsTo.of_eq rfl | exact binds_K (by k_in) rfl (by k_is) rfl rfl rfl)) (by k_dflt (exact rfl)) (by k_dflt (decide +kernel)) (by k_dflt (exact rfl)) (by k_dflt (exact rfl)) (by k_dflt (exact rfl)) ?_ | refine code_defCO (by exact rfl) (by exact rfl) (by first | exact rfl | assumption) (by k_asm) (by k_asm) (by k_asm) (by k_asm) (by k_asm) (by k_is) (by k_is) (by ktr_room) (by first | exact BindsTo.of_eq rfl | exact binds_K (by k_in) rfl (by k_is) rfl rfl rfl) (by exact rfl) (by decide +kernel) (by exact rfl) (by exact rfl) (by exact rfl) ?_); k_whole; intro g' L' h' tk' cells' FG' F' N' Y' B' X' T' l1; (try k_lt l1); k_cells Y'; (try simp only [List.cons_append, List.nil_append] at N'); (try dsimp only); (try k_lift B'); (try k_fold)))))))
  (k_with "execs cons" => (k_here; (with_reducible (refine gen_toks ?_)); intro tk))
  (k_with "execs nil" => (k_here; (with_reducible (refine gen_toks ?_)); intro tk))
  (k_with "call builtin:list.append" => (k_here; k_dflt ((first | with_reducible refine app_K (by k_dflt (k_asm)) (by k_dflt (k_asm)) (by k_dflt (k_updF)) (by k_dflt ((simp only [List.length_append, List.length_cons, List.length_nil]; omega))) ?_ | refine app_K (by k_asm) (by k_asm) (by k_updF) (by (simp only [List.length_append, List.length_cons, List.length_nil]; omega)) ?_)); intro h' F' N'; (try dsimp only at N'); (try dsimp only)))
  (k_with "call ref" => (k_here; k_dflt (((with_reducible show wpAny _ _ (call (Value.ref 85) _) _ _ _); first | with_reducible refine abe (by k_dflt (k_asm)) (by k_dflt (k_asm)) (by k_dflt (k_asm)) (by k_dflt (k_asm)) (by k_dflt (k_asm)) (by k_dflt (first | exact rfl | assumption)) (by k_dflt (ktr_room)) (by k_dflt (ktr_units)) (by k_dflt (assumption)) (by k_dflt (omega)) (by k_dflt (omega)) (by k_dflt (omega)) (by k_dflt (omega)) ?_ | refine abe (by k_asm) (by k_asm) (by k_asm) (by k_asm) (by k_asm) (by first | exact rfl | assumption) (by ktr_room) (by ktr_units) (by assumption) (by omega) (by omega) (by omega) (by omega) ?_); k_whole); intro t9 h9 tk9 F9 N9; (try dsimp only); (try k_fold)))
  (k_with "compareOp Lt bytes bytes" => refine lt_bytes ?_)
  (k_with "compareOp LtE bytes bytes" => refine le_bytes ?_)
  (k_with "subscriptTail" => (k_here; (with_reducible show wpAny _ _ (subscriptTail _ _ (Value.ref _) (Value.str _ _)) _ _ _); k_dflt ((first | with_reducible refine kda_item (knd := PySem.strKind _ _) (by k_dflt (k_asm)) (by k_dflt (k_mem)) (by k_dflt (k_asm)) (strKind_is _ _ _ _) (by k_dflt (rfl)) ?_ | refine kda_item (knd := PySem.strKind _ _) (by k_asm) (by k_mem) (by k_asm) (strKind_is _ _ _ _) (by rfl) ?_))))
  (k_with "subscriptTail" => (k_here; (with_reducible show wpAny _ _ (subscriptTail _ _ (Value.ref _) (Value.bytes _ _)) _ _ _); k_dflt ((first | with_reducible refine kda_item (knd := PySem.W.bytesKind _ _) (by k_dflt (k_asm)) (by k_dflt (k_mem)) (by k_dflt (k_asm)) (bytesKind_at _ _ _ _) (by k_dflt (first | exact value_one _ _ | rfl)) ?_ | refine kda_item (knd := PySem.W.bytesKind _ _) (by k_asm) (by k_mem) (by k_asm) (bytesKind_at _ _ _ _) (by first | exact value_one _ _ | rfl) ?_))))
  (k_with "setItem ref str" => (k_here; k_dflt ((first | with_reducible refine kda_set (knd := PySem.strKind _ _) (by k_dflt (k_asm)) (by k_dflt (k_asm)) (by k_dflt (k_updF)) (by k_dflt (k_asm)) (strKind_is _ _ _ _) (by k_dflt (rw [sizeLine_eq]; exact Nat.le_of_ble_eq_true (by with_unfolding_all rfl))) ?_ | refine kda_set (knd := PySem.strKind _ _) (by k_asm) (by k_asm) (by k_updF) (by k_asm) (strKind_is _ _ _ _) (by rw [sizeLine_eq]; exact Nat.le_of_ble_eq_true (by with_unfolding_all rfl)) ?_)); intro h' o' F' N' hd'; (try dsimp only at N'); (try rw [stored_mixed] at hd'); (try rw [stored_nil] at hd')))
  (k_with "compareOp NotIn bytes ref" => (k_here; k_dflt ((first | with_reducible refine notin_bytes (by k_dflt (k_asm)) (by k_dflt (k_mem)) (by k_dflt (k_asm)) (by k_dflt (k_asm)) (by k_dflt (first | rfl | exact value_is _ _)) ?_ | refine notin_bytes (by k_asm) (by k_mem) (by k_asm) (by k_asm) (by first | rfl | exact value_is _ _) ?_))))
  (k_with "setItem ref bytes" => (k_here; k_dflt ((first | with_reducible refine kda_set (knd := PySem.W.bytesKind _ _) (by k_dflt (k_asm)) (by k_dflt (k_asm)) (by k_dflt (k_updF)) (by k_dflt (k_asm)) (bytesKind_at _ _ _ _) (by k_dflt (rw [sizeLine_eq]; exact Nat.le_of_ble_eq_true (by with_unfolding_all rfl))) ?_ | refine kda_set (knd := PySem.W.bytesKind _ _) (by k_asm) (by k_asm) (by k_updF) (by k_asm) (bytesKind_at _ _ _ _) (by rw [sizeLine_eq]; exact Nat.le_of_ble_eq_true (by with_unfolding_all rfl)) ?_)); intro h' o' F' N' hd'; (try dsimp only at N'); (try rw [stored_mixed] at hd'); (try rw [stored_nil] at hd')))
  (k_with "call builtin:len" => (k_here; (with_reducible show wpAny _ _ (call (Value.builtin "len") [Value.ref _]) _ _ _); k_dflt ((first | with_reducible refine kda_len (knd := PySem.W.bytesKind _ _) (by k_dflt (k_asm)) (by k_dflt (k_mem)) (by k_dflt (k_asm)) (by k_dflt (k_asm)) (Nat.le_of_ble_eq_true (by with_unfolding_all rfl)) ?_ | refine kda_len (knd := PySem.W.bytesKind _ _) (by k_asm) (by k_mem) (by k_asm) (by k_asm) (Nat.le_of_ble_eq_true (by with_unfolding_all rfl)) ?_))))
  (k_with "call type:bytes" => (k_here; (with_reducible show wpAny _ _ (call (Value.type "bytes") [Value.bytes _ _]) _ _ _); (refine call_bytesB ?_)))
  (k_with "LeaveK" => ((try ((rename RestIn _ _ _ _ => rI); (rename Fr _ _ _ _ => lF'); (have rJ := RestIn.keeps rI lF'); (try ((rename News _ _ _ _ => lN'); (have rK := RestIn.apart rI lN'))))); (k_dflt ((first | with_reducible refine leaveK_ (by k_dflt (k_asm)) (by k_dflt (k_asm)) ?_ | refine leaveK_ (by k_asm) (by k_asm) ?_); k_whole); intro kF kN; ground_anew kF; (have kX := kFor kF (by k_asm)); (try dsimp only [InitBack, CmpBack, LenBack, StrBack, BoolBack]); (try refine ⟨rfl, ?_⟩); (try dsimp only [CmpBack, LenBack, StrBack, BoolBack]); (try (refine ⟨⟨by omega, by omega⟩, ?_⟩)); (try (refine handed_on rfl ?_; try dsimp only)))))
  (k_with "setAttr ref" => (k_here; k_dflt ((first | with_reducible refine exc_set (K := Mine.hd.heap_1 _) (by k_dflt (k_asm)) (by k_dflt (k_asm)) (by k_dflt (k_asm)) (by k_dflt ((intro p hp; first | exact nomatch hp))) (by k_dflt (k_is)) (by k_dflt (k_is)) (by k_dflt ((intro self; exact PySem.F.store_Exception.passes self))) (by k_dflt (decide)) (by k_dflt (decide)) (by k_dflt (exact rfl)) (by k_dflt (k_is)) ?_ | refine exc_set (K := Mine.hd.heap_1 _) (by k_asm) (by k_asm) (by k_asm) (by (intro p hp; first | exact nomatch hp)) (by k_is) (by k_is) (by (intro self; exact PySem.F.store_Exception.passes self)) (by decide) (by decide) (by exact rfl) (by k_is) ?_); intro h' D oD tk F' N' hpD hDe); (try dsimp only)))
  (k_with "call ref" => (k_here; k_dflt (((with_reducible show wpAny _ _ (call (Value.ref 64) _) _ _ _); first | with_reducible refine badpack (by k_dflt (k_asm)) (by k_dflt (k_asm)) (by k_dflt (k_asm)) (by k_dflt (k_asm)) (by k_dflt (first | exact rfl | assumption)) (by k_dflt (ktr_room)) (by k_dflt (ktr_units)) (by k_dflt (k_asm)) ?_ | refine badpack (by k_asm) (by k_asm) (by k_asm) (by k_asm) (by first | exact rfl | assumption) (by ktr_room) (by ktr_units) (by k_asm) ?_); k_whole); intro e9 t9 d9 o9 h9 tk9 F9 N9; (try dsimp only); (try k_fold)))
  (k_with "exec Raise some none" => (k_here; k_dflt ((first | with_reducible refine Raise_x (K := Mine.hd.heap_1 _) (C := 64) (by k_dflt (k_asm)) (by k_dflt (k_is)) (by k_dflt (decide)) (by k_dflt (first | exact rfl | assumption)) ?_ | refine Raise_x (K := Mine.hd.heap_1 _) (C := 64) (by k_asm) (by k_is) (by decide) (by first | exact rfl | assumption) ?_); k_whole)))
  (k_with "RaisableX" => (k_here; k_dflt ((first | with_reducible refine raisable_x (by k_dflt (k_asm)) (by k_dflt (k_asm)) ?_ | refine raisable_x (by k_asm) (by k_asm) ?_); k_whole)))
  (k_with "leaving ref" => (k_here; k_dflt ((first | with_reducible refine leave_X (by k_dflt (assumption)) (by k_dflt (k_asm)) (by k_dflt (k_asm)) ?_ (by k_dflt (exact rfl)) | refine leave_X (by assumption) (by k_asm) (by k_asm) ?_ (by exact rfl)); k_whole); intro h' R' U'; (try dsimp only at R' U' ⊢)))
  (k_with "binaryOp Mult ref int" => (k_here; (with_reducible show wpAny _ _ (binaryOp Operator.Mult (Value.ref _) (Value.int _ _)) _ _ _); k_dflt ((first | with_reducible refine zeros_K (by k_dflt (k_asm)) (by k_dflt (k_asm)) (by k_dflt (k_mem)) ?_ | refine zeros_K (by k_asm) (by k_asm) (by k_mem) ?_)); intro D' h' ws' F' N' l1 i1; (try k_lt l1)))
  (k_with "subscriptTail" => (k_here; (with_reducible show wpAny _ _ (subscriptTail _ _ (Value.bytes _ _) (Value.int 0 _)) _ _ _); k_dflt ((first | with_reducible refine oid0 ?_ | refine oid0 ?_)); intro _ _))
  (k_with "getItem ref int" => (k_here; k_dflt ((first | with_reducible refine cnt_item (by k_dflt (k_asm)) (by k_dflt (k_mem)) (by k_dflt (assumption)) ?_ | refine cnt_item (by k_asm) (by k_mem) (by assumption) ?_)); intro _))
  (k_with "setItem ref int" => (k_here; k_dflt ((first | with_reducible refine cnt_store (by k_dflt (k_asm)) (by k_dflt (k_asm)) (by k_dflt (k_updF)) (by k_dflt (assumption)) ?_ | refine cnt_store (by k_asm) (by k_asm) (by k_updF) (by assumption) ?_)); intro h' ws' F' N' hi'; (try dsimp only at N')))
  (k_with "subscriptTail Name Name ref int" => (k_here; k_dflt (first | ((first | with_reducible refine cnt_sub (by k_dflt (k_asm)) (by k_dflt (k_mem)) (by k_dflt (assumption)) (by k_dflt (omega)) (by k_dflt (omega)) ?_ | refine cnt_sub (by k_asm) (by k_mem) (by assumption) (by omega) (by omega) ?_); intro t9 x9 f9) | ((first | with_reducible refine fan_sub (by k_dflt (k_asm)) (by k_dflt (k_mem)) (by k_dflt (assumption)) (by k_dflt (omega)) (by k_dflt (omega)) ?_ | refine fan_sub (by k_asm) (by k_mem) (by assumption) (by omega) (by omega) ?_); intro t9 x9 f9))))
  (k_with "call ref" => (k_here; k_dflt (((with_reducible show wpAny _ _ (call (Value.ref 71) _) _ _ _); first | with_reducible refine be4 (by k_dflt (k_asm)) (by k_dflt (k_asm)) (by k_dflt (k_asm)) (by k_dflt (k_asm)) (by k_dflt (k_asm)) (by k_dflt (first | exact rfl | assumption)) (by k_dflt (ktr_room)) (by k_dflt (ktr_units)) (by k_dflt (first | exact .inl rfl | exact .inr rfl)) ?_ | refine be4 (by k_asm) (by k_asm) (by k_asm) (by k_asm) (by k_asm) (by first | exact rfl | assumption) (by ktr_room) (by ktr_units) (by first | exact .inl rfl | exact .inr rfl) ?_); k_whole); intro b9 t9 h9 tk9 hb9 F9 N9; (try dsimp only); (try k_fold)))
  (k_with "call ref" => (k_here; k_dflt (((with_reducible show wpAny _ _ (call (Value.ref 121) _) _ _ _); first | with_reducible refine dig2c (by k_dflt (k_asm)) (by k_dflt (k_asm)) (by k_dflt (k_asm)) (by k_dflt (k_asm)) (by k_dflt (k_asm)) (by k_dflt (first | exact rfl | assumption)) (by k_dflt (ktr_room)) (by k_dflt (ktr_units)) (by k_dflt (assumption)) (by k_dflt (assumption)) (by k_dflt (assumption)) ?_ | refine dig2c (by k_asm) (by k_asm) (by k_asm) (by k_asm) (by k_asm) (by first | exact rfl | assumption) (by ktr_room) (by ktr_units) (by assumption) (by assumption) (by assumption) ?_); k_whole); intro b9 t9 h9 tk9 hb9 F9 N9; (try dsimp only); (try k_fold)))
  (k_with "call ref" => (k_here; k_dflt (((with_reducible show wpAny _ _ (call (Value.ref 161) _) _ _ _); first | with_reducible refine plc (by k_dflt (k_asm)) (by k_dflt (k_asm)) (by k_dflt (k_asm)) (by k_dflt (k_asm)) (by k_dflt (first | exact rfl | assumption)) (by k_dflt (ktr_room)) (by k_dflt (ktr_units)) (by k_dflt (k_asm)) (by k_dflt (assumption)) (by k_dflt (omega)) (by k_dflt (omega)) (by k_dflt (omega)) (by k_dflt (omega)) (by k_dflt (omega)) (by k_dflt (omega)) (by k_dflt (omega)) (by k_dflt (omega)) ?_ ?_ | refine plc (by k_asm) (by k_asm) (by k_asm) (by k_asm) (by first | exact rfl | assumption) (by ktr_room) (by ktr_units) (by k_asm) (by assumption) (by omega) (by omega) (by omega) (by omega) (by omega) (by omega) (by omega) (by omega) ?_ ?_); k_whole); (all_goals (intros; (try dsimp only); (try k_fold)))))
  (k_with "call ref" => (k_here; k_dflt (((with_reducible show wpAny _ _ (call (Value.ref 154) _) _ _ _); first | with_reducible refine chkW (by k_dflt (k_asm)) (by k_dflt (k_asm)) (by k_dflt (k_asm)) (by k_dflt (k_asm)) (by k_dflt (first | exact rfl | assumption)) (by k_dflt (ktr_room)) (by k_dflt (ktr_units)) (by k_dflt (k_asm)) (by k_dflt (k_mem)) (by k_dflt (k_mem)) (by k_dflt (first | with_reducible assumption | (refine Ne.symm ?_; with_reducible assumption) | omega)) (by k_dflt (omega)) (by k_dflt (omega)) (by k_dflt (assumption)) (by k_dflt (assumption)) (by k_dflt (assumption)) ?_ | refine chkW (by k_asm) (by k_asm) (by k_asm) (by k_asm) (by first | exact rfl | assumption) (by ktr_room) (by ktr_units) (by k_asm) (by k_mem) (by k_mem) (by first | with_reducible assumption | (refine Ne.symm ?_; with_reducible assumption) | omega) (by omega) (by omega) (by assumption) (by assumption) (by assumption) ?_); k_whole); intro h9 tk9 F9 N9; (try dsimp only); (try k_fold)))
  (k_with "call ref" => (k_here; k_dflt (first | (((with_reducible show wpAny _ _ (call (Value.ref 272) _) _ _ _); first | with_reducible refine big4 (by k_dflt (k_asm)) (by k_dflt (k_asm)) (by k_dflt (k_asm)) (by k_dflt (k_asm)) (by k_dflt (k_asm)) (by k_dflt (first | exact rfl | assumption)) (by k_dflt (ktr_room)) (by k_dflt (ktr_units)) ?_ | refine big4 (by k_asm) (by k_asm) (by k_asm) (by k_asm) (by k_asm) (by first | exact rfl | assumption) (by ktr_room) (by ktr_units) ?_); k_whole) | (((with_reducible show wpAny _ _ (call (Value.ref 272) _) _ _ _); first | with_reducible refine big8 (by k_dflt (k_asm)) (by k_dflt (k_asm)) (by k_dflt (k_asm)) (by k_dflt (k_asm)) (by k_dflt (k_asm)) (by k_dflt (first | exact rfl | assumption)) (by k_dflt (ktr_room)) (by k_dflt (ktr_units)) ?_ | refine big8 (by k_asm) (by k_asm) (by k_asm) (by k_asm) (by k_asm) (by first | exact rfl | assumption) (by ktr_room) (by ktr_units) ?_); k_whole)); intro b9 t9 h9 tk9 hb9 F9 N9; (have hz9 := szb_of hb9); (try dsimp only); (try k_fold)))
  (k_with "binaryOp Add bytes bytes" => (k_here; k_dflt ((first | with_reducible refine add_S (by k_dflt (first | assumption | exact rfl)) (by k_dflt (first | assumption | exact rfl)) (by k_dflt (first | assumption | exact szb_lit)) (by k_dflt (assumption)) (by k_dflt (exact Nat.le_of_ble_eq_true rfl)) ?_ | refine add_S (by first | assumption | exact rfl) (by first | assumption | exact rfl) (by first | assumption | exact szb_lit) (by assumption) (by exact Nat.le_of_ble_eq_true rfl) ?_)); intro d9 t9 k9 hb9 hz9; (try dsimp only)))
  (k_with "binaryOp Mult bytes int" => (k_here; k_dflt ((first | with_reducible refine mul_S (by k_dflt (assumption)) (by k_dflt (exact beL_len _ _)) (by k_dflt (omega)) (by k_dflt (omega)) ?_ | refine mul_S (by assumption) (by exact beL_len _ _) (by omega) (by omega) ?_)); intro d9 t9 k9 hb9 hz9; (try dsimp only)))
  (k_with "call type:bytes" => (k_here; (with_reducible show wpAny _ _ (call (Value.type "bytes") [Value.ref _]) _ _ _); k_dflt ((first | with_reducible refine mk_B (by k_dflt (k_asm)) (by k_dflt (k_asm)) (by k_dflt (rfl)) (by k_dflt (k_mem)) (by k_dflt (exact .cons _ _ (.cons _ _ (.cons _ _ (.cons _ _ .nil))))) (by k_dflt ((intro n9 hn9; (simp only [List.mem_cons, List.not_mem_nil, or_false] at hn9); omega))) (by k_dflt (exact Nat.le_of_ble_eq_true rfl)) ?_ | refine mk_B (by k_asm) (by k_asm) (by rfl) (by k_mem) (by exact .cons _ _ (.cons _ _ (.cons _ _ (.cons _ _ .nil)))) (by (intro n9 hn9; (simp only [List.mem_cons, List.not_mem_nil, or_false] at hn9); omega)) (by exact Nat.le_of_ble_eq_true rfl) ?_)); intro h9 d9 t9 k9 F9 N9 hb9 hz9; (replace hz9 := szb_ints hb9); (try dsimp only)))
  (k_with "compareOp In int ref" => (k_here; k_dflt ((first | with_reducible refine in_B (by k_dflt (k_asm)) (by k_dflt (k_mem)) (by k_dflt (assumption)) ?_ ?_ | refine in_B (by k_asm) (by k_mem) (by assumption) ?_ ?_)); intro hb9; (try dsimp only)))
  (k_with "compareOp NotIn int ref" => (k_here; k_dflt ((first | with_reducible refine notin_B (by k_dflt (k_asm)) (by k_dflt (k_mem)) (by k_dflt (assumption)) ?_ ?_ | refine notin_B (by k_asm) (by k_mem) (by assumption) ?_ ?_)); intro hb9; (try dsimp only)))
  (k_with "call builtin:list.index" => (k_here; k_dflt ((first | with_reducible refine idx_B (by k_dflt (k_asm)) (by k_dflt (k_mem)) (by k_dflt (assumption)) (by k_dflt (assumption)) (by k_dflt (omega)) ?_ | refine idx_B (by k_asm) (by k_mem) (by assumption) (by assumption) (by omega) ?_)); (try dsimp only)))
  (k_with "eval ListComp" => (k_here; (with_reducible show wpAny _ _ (eval (PySem.Expr.ListComp _ [⟨PySem.Expr.Name _ _, _, [_], _⟩] _ _) _) _ _ _); k_dflt ((first | with_reducible refine LCt.ListComp_T (F₀ := by k_dflt (k_asm)) (by k_dflt (with_unfolding_all rfl)) (by k_dflt (decide)) (by k_dflt (rfl)) (by k_dflt (decide)) (by k_dflt (rfl)) ?_ | refine LCt.ListComp_T (F₀ := by k_asm) (by with_unfolding_all rfl) (by decide) (by rfl) (by decide) (by rfl) ?_))))
  (k_with "CompSrcT" => (k_here; k_dflt ((first | with_reducible refine LCt.CompSrcT.ledger (by k_dflt (rfl)) (by k_dflt (k_asm)) (by k_dflt (k_asm)) (by k_dflt (k_mem)) (by k_dflt (rw [List.size_toArray, PySem.sizeLine_eq]; omega)) ?_ | refine LCt.CompSrcT.ledger (by rfl) (by k_asm) (by k_asm) (by k_mem) (by rw [List.size_toArray, PySem.sizeLine_eq]; omega) ?_)); intro g'; (refine' kci_list gG (by assumption) ?_ ?_ ?_)))
  (k_with "eval ListComp" => (k_here; (with_reducible show wpAny _ _ (eval (PySem.Expr.ListComp _ [⟨PySem.Expr.Tuple _ _ _, _, _, _⟩] _ _) _) _ _ _); k_dflt ((first | with_reducible refine ListComp_E (_F₀ := by k_dflt (k_asm)) (by k_dflt (with_unfolding_all rfl)) (by k_dflt (decide)) (by k_dflt (rfl)) (by k_dflt (decide)) (by k_dflt (rfl)) (by k_dflt (rfl)) (by k_dflt (decide)) ?_ | refine ListComp_E (_F₀ := by k_asm) (by with_unfolding_all rfl) (by decide) (by rfl) (by decide) (by rfl) (by rfl) (by decide) ?_))))
  (k_with "call type:enumerate" => (k_here; k_dflt ((first | with_reducible refine en_callI n (by k_dflt (rfl)) (by k_dflt (k_asm)) (by k_dflt (k_asm)) (by k_dflt (k_mem)) (by k_dflt (assumption)) (by k_dflt (assumption)) (by k_dflt (omega)) ?_ ?_ | refine en_callI n (by rfl) (by k_asm) (by k_asm) (by k_mem) (by assumption) (by assumption) (by omega) ?_ ?_)); (all_goals (first | (intro g9 ys9 hys9; (show LCg.FinE _ _ _ _ _ _ _)) | (intro g9; unfold EnTurn; intro i9 x9 t9 e9 it9 C9 D9 oE9 oIt9 oC9 m9 ys9 h9 tk9 E9 hi9 hx9 hC9 ha9 hb9 F9 N9)))))
  (k_with "call ref" => (k_here; (with_reducible show wpAny _ _ (call (Value.ref 260) _) _ _ _); k_dflt (((with_reducible show wpAny _ _ (call (Value.ref 260) _) _ _ _); first | with_reducible refine deck (by k_dflt (k_asm)) (by k_dflt (k_asm)) (by k_dflt (k_asm)) (by k_dflt (k_asm)) (by k_dflt (k_asm)) (by k_dflt (first | exact rfl | assumption)) (by k_dflt (ktr_room)) (by k_dflt (ktr_units)) (by k_dflt (assumption)) (by k_dflt (assumption)) (by k_dflt (omega)) ?_ | refine deck (by k_asm) (by k_asm) (by k_asm) (by k_asm) (by k_asm) (by first | exact rfl | assumption) (by ktr_room) (by ktr_units) (by assumption) (by assumption) (by omega) ?_); k_whole); intro dD9 lL9 oD9 vs9 nn9 h9 tk9 hD9 hlo9 hl9 hn9 hn8 F9 N9; (replace hn9 := allNeB_of hn9); (simp only [AllNeB, and_true] at hn9); (repeat ((have hNe9 := And.left hn9); (replace hn9 := And.right hn9))); (replace hn8 := allNeB_of hn8); (simp only [AllNeB, and_true] at hn8); (repeat ((have hNe9 := And.left hn8); (replace hn8 := And.right hn8))); (try dsimp only); (try k_fold)))
  (k_with "call ref" => (k_here; (with_reducible show wpAny _ _ (call (Value.ref 267) _) _ _ _); k_dflt (((with_reducible show wpAny _ _ (call (Value.ref 267) _) _ _ _); first | with_reducible refine drawW (by k_dflt (k_asm)) (by k_dflt (k_asm)) (by k_dflt (k_asm)) (by k_dflt (k_asm)) (by k_dflt (assumption)) (by k_dflt ((repeat' (first | (apply Pick.head; k_all) | (apply Pick.tail; focus k_ne))))) (by k_dflt ((repeat' (first | (apply Pick.head; k_all) | (apply Pick.tail; focus k_ne))))) (by k_dflt (k_asm)) (by k_dflt (first | exact rfl | assumption)) (by k_dflt (ktr_room)) (by k_dflt (ktr_units)) (by k_dflt (assumption)) (by k_dflt (first | assumption | omega)) (by k_dflt (decide)) (by k_dflt (decide)) ?_ | refine drawW (by k_asm) (by k_asm) (by k_asm) (by k_asm) (by assumption) (by (repeat' (first | (apply Pick.head; k_all) | (apply Pick.tail; focus k_ne)))) (by (repeat' (first | (apply Pick.head; k_all) | (apply Pick.tail; focus k_ne)))) (by k_asm) (by first | exact rfl | assumption) (by ktr_room) (by ktr_units) (by assumption) (by first | assumption | omega) (by decide) (by decide) ?_); k_whole); intro r9 t9 h9 tk9 oD9 vs9 nn9 hr0 hr1 hD9 F9 N9; (try dsimp only); (try k_fold)))
  (k_with "call type:range" => (k_here; k_dflt ((first | with_reducible refine range1_rows (by k_dflt (k_asm)) (by k_dflt (k_asm)) ?_ | refine range1_rows (by k_asm) (by k_asm) ?_)); intro h9 tk9 t9 u9 v9 hr9 F9 N9 _))
  (k_with "subscriptTail" => (k_here; (with_reducible show wpAny _ _ (subscriptTail _ _ (Value.ref _) (Value.int _ _)) _ _ _); k_dflt (first | ((first | with_reducible refine menu_K (by k_dflt (k_asm)) (by k_dflt (k_mem)) (by k_dflt (exact .cons _ _ (.cons _ _ (.cons _ _ (.cons _ _ (.cons _ _ (.cons _ _ .nil))))))) (by k_dflt (omega)) (by k_dflt ((simp only [List.length_cons, List.length_nil]; omega))) (by k_dflt (exact Nat.le_of_ble_eq_true rfl)) 0 9223372036854775808 (by k_dflt (decide +kernel)) ?_ | refine menu_K (by k_asm) (by k_mem) (by exact .cons _ _ (.cons _ _ (.cons _ _ (.cons _ _ (.cons _ _ (.cons _ _ .nil)))))) (by omega) (by (simp only [List.length_cons, List.length_nil]; omega)) (by exact Nat.le_of_ble_eq_true rfl) 0 9223372036854775808 (by decide +kernel) ?_)) | ((first | with_reducible refine menu_K (by k_dflt (k_asm)) (by k_dflt (k_mem)) (by k_dflt (exact .cons _ _ (.cons _ _ (.cons _ _ (.cons _ _ .nil))))) (by k_dflt (omega)) (by k_dflt ((simp only [List.length_cons, List.length_nil]; omega))) (by k_dflt (exact Nat.le_of_ble_eq_true rfl)) 0 7 (by k_dflt (decide +kernel)) ?_ | refine menu_K (by k_asm) (by k_mem) (by exact .cons _ _ (.cons _ _ (.cons _ _ (.cons _ _ .nil)))) (by omega) (by (simp only [List.length_cons, List.length_nil]; omega)) (by exact Nat.le_of_ble_eq_true rfl) 0 7 (by decide +kernel) ?_))); intro p9 t9 hp9; (try dsimp only)))
  (k_with "binaryOp Pow int int" => (k_here; (first | with_reducible refine pow31 ?_ | with_reducible refine pow63 ?_ | with_reducible refine pow40 ?_)))
  (k_with "call builtin:list.append" => (k_here; k_dflt ((first | with_reducible refine app_K (by k_dflt (k_asm)) (by k_dflt (k_asm)) (by k_dflt (k_updF)) (by k_dflt (omega)) ?_ | refine app_K (by k_asm) (by k_asm) (by k_updF) (by omega) ?_)); intro h' F' N'; (try dsimp only at N'); (try dsimp only)))
  (k_with "noteFrame ref" => (k_here; (rename RaisedS _ _ _ _ _ _ _ _ _ => rkX); (rename KtsDicts _ _ => dkX); k_dflt ((first | with_reducible refine caught_SO0 (KF := Mine.hd.heap_1 _) (C := 64) rkX (by k_dflt (assumption)) (by k_dflt (assumption)) (by k_dflt (assumption)) (by k_dflt (assumption)) (by k_dflt (assumption)) dkX KtsTurn.refl (by k_dflt (k_is)) (by k_dflt (decide +kernel)) ?_ (by k_dflt (exact rfl)) (by k_dflt (exact rfl)) (by k_dflt (decide)) (by k_dflt (passes_own)) | refine caught_SO0 (KF := Mine.hd.heap_1 _) (C := 64) rkX (by assumption) (by assumption) (by assumption) (by assumption) (by assumption) dkX KtsTurn.refl (by k_is) (by decide +kernel) ?_ (by exact rfl) (by exact rfl) (by decide) (by passes_own)); k_whole); intro h' g9 n9 T9 F' N' G9 N9 B' X' P' D'; (clear N9 G9 N'); (have N' := (News.nil : News g9 _ h' []))))
  (k_with "call ref" => (k_here; (with_reducible show wpAny _ _ (call (Value.ref 251) _) _ _ _); k_dflt (((with_reducible show wpAny _ _ (call (Value.ref 251) _) _ _ _); first | with_reducible refine init_ (by k_dflt (k_asm)) (by k_dflt (k_asm)) (by k_dflt (k_asm)) (by k_dflt (k_asm)) (by k_dflt (first | exact rfl | assumption)) (by k_dflt (ktr_room)) (by k_dflt (ktr_units)) (by k_dflt (k_asm)) (by k_dflt (exact News.nil)) (by k_dflt (exact (fun _ h9 => nomatch h9))) (by k_dflt (assumption)) (by k_dflt (assumption)) (by k_dflt (assumption)) (by k_dflt (assumption)) (by k_dflt (assumption)) (by k_dflt (assumption)) (by k_dflt (assumption)) (by k_dflt (assumption)) (by k_dflt (assumption)) (by k_dflt (assumption)) (by k_dflt (assumption)) (by k_dflt (assumption)) (by k_dflt (assumption)) (by k_dflt (assumption)) (by k_dflt (assumption)) (by k_dflt (assumption)) ?_ ?_ | refine init_ (by k_asm) (by k_asm) (by k_asm) (by k_asm) (by first | exact rfl | assumption) (by ktr_room) (by ktr_units) (by k_asm) (by exact News.nil) (by exact (fun _ h9 => nomatch h9)) (by assumption) (by assumption) (by assumption) (by assumption) (by assumption) (by assumption) (by assumption) (by assumption) (by assumption) (by assumption) (by assumption) (by assumption) (by assumption) (by assumption) (by assumption) (by assumption) ?_ ?_); k_whole)))
  (k_with "call ref" => (k_here; (with_reducible show wpAny _ _ (call (Value.ref 277) _) _ _ _); k_dflt (((with_reducible show wpAny _ _ (call (Value.ref 277) _) _ _ _); first | with_reducible refine octW (by k_dflt (k_asm)) (by k_dflt (k_asm)) (by k_dflt (k_asm)) (by k_dflt (k_asm)) (by k_dflt (first | exact rfl | assumption)) (by k_dflt (ktr_room)) (by k_dflt (ktr_units)) (by k_dflt (k_asm)) (by k_dflt ((repeat' (first | (apply Pick.head; k_all) | (apply Pick.tail; focus k_ne))))) (by k_dflt ((repeat' (first | (apply Pick.head; k_all) | (apply Pick.tail; focus k_ne))))) (by k_dflt ((repeat' (first | (apply Pick.head; k_all) | (apply Pick.tail; focus k_ne))))) (by k_dflt ((repeat' (first | (apply Pick.head; k_all) | (apply Pick.tail; focus k_ne))))) (by k_dflt (assumption)) (by k_dflt (assumption)) (by k_dflt (assumption)) (by k_dflt (omega)) (by k_dflt (omega)) (by k_dflt (assumption)) (by k_dflt (assumption)) ?_ | refine octW (by k_asm) (by k_asm) (by k_asm) (by k_asm) (by first | exact rfl | assumption) (by ktr_room) (by ktr_units) (by k_asm) (by (repeat' (first | (apply Pick.head; k_all) | (apply Pick.tail; focus k_ne)))) (by (repeat' (first | (apply Pick.head; k_all) | (apply Pick.tail; focus k_ne)))) (by (repeat' (first | (apply Pick.head; k_all) | (apply Pick.tail; focus k_ne)))) (by (repeat' (first | (apply Pick.head; k_all) | (apply Pick.tail; focus k_ne)))) (by assumption) (by assumption) (by assumption) (by omega) (by omega) (by assumption) (by assumption) ?_); k_whole); intro oc9 cc9 t9 t8 oK9 h9 tk9 hc9 ho9 hK9 F9 N9; (try dsimp only); (try k_fold)))
  (k_with "call ref" => (k_here; (with_reducible show wpAny _ _ (call (Value.ref 284) _) _ _ _); k_dflt (((with_reducible show wpAny _ _ (call (Value.ref 284) _) _ _ _); first | with_reducible refine readW (by k_dflt (k_asm)) (by k_dflt (k_asm)) (by k_dflt (k_asm)) (by k_dflt (k_asm)) (by k_dflt (first | exact rfl | assumption)) (by k_dflt (ktr_room)) (by k_dflt (ktr_units)) (by k_dflt (k_asm)) (by k_dflt ((repeat' (first | (apply Pick.head; k_all) | (apply Pick.tail; focus k_ne))))) (by k_dflt ((repeat' (first | (apply Pick.head; k_all) | (apply Pick.tail; focus k_ne))))) (by k_dflt ((repeat' (first | (apply Pick.head; k_all) | (apply Pick.tail; focus k_ne))))) (by k_dflt (assumption)) (by k_dflt (assumption)) (by k_dflt (assumption)) (by k_dflt (assumption)) (by k_dflt (omega)) (by k_dflt (omega)) (by k_dflt (assumption)) (by k_dflt (assumption)) (by k_dflt (assumption)) ?_ ?_ | refine readW (by k_asm) (by k_asm) (by k_asm) (by k_asm) (by first | exact rfl | assumption) (by ktr_room) (by ktr_units) (by k_asm) (by (repeat' (first | (apply Pick.head; k_all) | (apply Pick.tail; focus k_ne)))) (by (repeat' (first | (apply Pick.head; k_all) | (apply Pick.tail; focus k_ne)))) (by (repeat' (first | (apply Pick.head; k_all) | (apply Pick.tail; focus k_ne)))) (by assumption) (by assumption) (by assumption) (by assumption) (by omega) (by omega) (by assumption) (by assumption) (by assumption) ?_ ?_); k_whole); (all_goals (first | (intro x9 dx9 lF9 lC9 lI9 lP9 vF9 vI9 vP9 nF9 nP9 vS9 tO9 t29 tv9 tn9 k09 k19 k29 k39 k49 k59 k69 k79 k89 k99 h9 tk9 hf9 F9 N9 hx9 hvF9 hR9 hvP9; (refine apart_arr hx9 ?_); (dsimp only [ArrN, ArrA]); intros; (try dsimp only); (try k_fold)) | (intro h9 tk9 hf9 F9 N9; (try dsimp only); (try k_fold))))))
  (k_with "call ref" => (k_here; (with_reducible show wpAny _ _ (call (Value.ref 227) _) _ _ _); k_dflt (((with_reducible show wpAny _ _ (call (Value.ref 227) _) _ _ _); first | with_reducible refine offatW (by k_dflt (k_asm)) (by k_dflt (k_asm)) (by k_dflt (k_asm)) (by k_dflt (k_asm)) (by k_dflt (first | exact rfl | assumption)) (by k_dflt (ktr_room)) (by k_dflt (ktr_units)) (by k_dflt (k_asm)) (by k_dflt (k_mem)) (by k_dflt (k_mem)) (by k_dflt (k_mem)) (by k_dflt (k_mem)) (by k_dflt (k_mem)) (by k_dflt ((repeat' (first | exact Sift.nil | (apply Sift.drop; focus k_mem) | (apply Sift.keep; focus ((simp only [AllNeB, and_true]); refine ⟨?_, ?_, ?_, ?_, ?_⟩ <;> k_ne)))))) (by k_dflt (omega)) (by k_dflt (omega)) (by k_dflt (omega)) (by k_dflt (omega)) (by k_dflt (assumption)) (by k_dflt (omega)) ?_ | refine offatW (by k_asm) (by k_asm) (by k_asm) (by k_asm) (by first | exact rfl | assumption) (by ktr_room) (by ktr_units) (by k_asm) (by k_mem) (by k_mem) (by k_mem) (by k_mem) (by k_mem) (by (repeat' (first | exact Sift.nil | (apply Sift.drop; focus k_mem) | (apply Sift.keep; focus ((simp only [AllNeB, and_true]); refine ⟨?_, ?_, ?_, ?_, ?_⟩ <;> k_ne))))) (by omega) (by omega) (by omega) (by omega) (by assumption) (by omega) ?_); k_whole); intro t9 h9 tk9 F9 N9; (try dsimp only); (try k_fold)))
  (k_with "call ref" => (k_here; (with_reducible show wpAny _ _ (call (Value.ref 213) _) _ _ _); k_dflt (((with_reducible show wpAny _ _ (call (Value.ref 213) _) _ _ _); first | with_reducible refine findW (by k_dflt (k_asm)) (by k_dflt (k_asm)) (by k_dflt (k_asm)) (by k_dflt (k_asm)) (by k_dflt (first | exact rfl | assumption)) (by k_dflt (ktr_room)) (by k_dflt (ktr_units)) (by k_dflt (k_asm)) (by k_dflt (k_mem)) (by k_dflt (k_mem)) (by k_dflt (k_mem)) (by k_dflt (k_mem)) (by k_dflt (k_mem)) (by k_dflt ((repeat' (first | exact Sift.nil | (apply Sift.drop; focus k_mem) | (apply Sift.keep; focus ((simp only [AllNeB, and_true]); refine ⟨?_, ?_, ?_, ?_, ?_⟩ <;> k_ne)))))) (by k_dflt (omega)) (by k_dflt (omega)) (by k_dflt (omega)) (by k_dflt (omega)) (by k_dflt (assumption)) (by k_dflt (omega)) (by k_dflt (assumption)) (by k_dflt (assumption)) (by k_dflt (exact k_ids)) (by k_dflt (assumption)) ?_ | refine findW (by k_asm) (by k_asm) (by k_asm) (by k_asm) (by first | exact rfl | assumption) (by ktr_room) (by ktr_units) (by k_asm) (by k_mem) (by k_mem) (by k_mem) (by k_mem) (by k_mem) (by (repeat' (first | exact Sift.nil | (apply Sift.drop; focus k_mem) | (apply Sift.keep; focus ((simp only [AllNeB, and_true]); refine ⟨?_, ?_, ?_, ?_, ?_⟩ <;> k_ne))))) (by omega) (by omega) (by omega) (by omega) (by assumption) (by omega) (by assumption) (by assumption) (by exact k_ids) (by assumption) ?_); k_whole); intro t9 h9 tk9 F9 N9; (try dsimp only); (try k_fold)))
  (k_with "eval ListComp" => (k_here; (with_reducible show wpAny _ _ (eval (PySem.Expr.ListComp _ [⟨PySem.Expr.Name _ _, _, [], _⟩] _ _) _) _ _ _); k_dflt ((first | with_reducible refine LCg.ListComp_U (F₀ := by k_dflt (k_asm)) (by k_dflt (with_unfolding_all rfl)) (by k_dflt (decide)) (by k_dflt (rfl)) (by k_dflt (decide)) (by k_dflt (rfl)) ?_ | refine LCg.ListComp_U (F₀ := by k_asm) (by with_unfolding_all rfl) (by decide) (by rfl) (by decide) (by rfl) ?_))))
  (k_with "CompSrc" => (k_here; k_dflt ((first | with_reducible refine LCg.CompSrc.range (by k_dflt (rfl)) (by k_dflt (k_asm)) (by k_dflt (k_asm)) (by k_dflt (assumption)) (by k_dflt (first | exact small_one (by omega) (by omega) (by omega) (by omega) | decide)) (by k_dflt (first | exact rangeSize_nat _ _ | rfl)) (by k_dflt (rw [PySem.sizeLine_eq]; omega)) ?_ | refine LCg.CompSrc.range (by rfl) (by k_asm) (by k_asm) (by assumption) (by first | exact small_one (by omega) (by omega) (by omega) (by omega) | decide) (by first | exact rangeSize_nat _ _ | rfl) (by rw [PySem.sizeLine_eq]; omega) ?_)); intro g'; refine hold ?_))
  (k_with "call builtin:len" => (k_here; (with_reducible show wpAny _ _ (call (Value.builtin "len") [Value.ref _]) _ _ _); k_dflt ((first | with_reducible refine len_B (by k_dflt (k_asm)) (by k_dflt (k_mem)) (by k_dflt (with_reducible assumption)) (by k_dflt (with_reducible assumption)) ?_ | refine len_B (by k_asm) (by k_mem) (by with_reducible assumption) (by with_reducible assumption) ?_)); (try dsimp only)))
  trivial
def fnBody : Stmt → List Stmt
  | .FunctionDef _ _ b _ _ _ _ _ _ _ => b
  | _ => []
def fnScope : Stmt → Scope
  | .FunctionDef _ _ _ _ _ _ c _ _ _ => c
  | _ => default
def lawTail (b : List Stmt) : List Stmt := match b.getLast? with
  | some d => (fnBody d).drop 5
  | none => []
def lawScope (b : List Stmt) : Scope := match b.getLast? with
  | some d => fnScope d
  | none => default
section
variable {M : Model} {A : Around} {E : Value → Shared → Prop} {Q : Flow → Shared → Prop} {s : Shared} {env : Env} {h₀ : Heap} {L : Addr}
def JoinB (h₀ : Heap) (L : Addr) (m : Str → Option Value) (news : List (Addr × Obj)) (s₁ : Shared) (v b : Bool) (s₂ : Shared) : Prop :=
  b = v ∧ ∃ h' tk, s₂ = { s₁ with heap := h', toks := tk } ∧ Fr h₀ L h' m ∧ News h₀ L h' news
theorem JoinB.intro {m : Str → Option Value} {news : List (Addr × Obj)} {s₁ : Shared} {v : Bool} {h' : Heap} {tk : Nat} (F : Fr h₀ L h' m) (N : News h₀ L h' news) : JoinB h₀ L m news s₁ v v { s₁ with heap := h', toks := tk } := ⟨rfl, h', tk, rfl, F, N⟩
theorem If_join {test : PySem.Expr} {body orelse : List Stmt} {pos : Pos} {m : Str → Option Value} (v : Bool) (news : List (Addr × Obj)) (_ : Fr h₀ L s.heap m)
    (h1 : wpAny M A (isTrue test env (eval test env)) (JoinB h₀ L m news s v) E s)
    (h2 : ∀ h' tk, Fr h₀ L h' m → News h₀ L h' news → wpAny M A (execs (cond v body orelse) env) Q E { s with heap := h', toks := tk }) : wpAny M A (exec (.If test body orelse pos) env) Q E s := by
  refine wpAny_If (wpAny_mono h1 (fun b s₂ q => ?_) fun _ _ e => e)
  obtain ⟨rfl, h', tk, rfl, F, N⟩ := q
  have := h2 h' tk F N
  cases b <;> exact this
def MidT (m₀ : Str → Option Value) (lP lG : Addr) (b : Int) (tb : Tok) : Str → Option Value := fun y => if y = Str.ofString "places" then some (.ref lP) else if y = Str.ofString "great" then some (.ref lG) else if y = Str.ofString "beyond" then some (.int b tb) else m₀ y
theorem midT_of {m : Str → Option Value} {lP lG : Addr} {b : Int} {tb : Tok} (h1 : m (Str.ofString "places") = some (.ref lP)) (h2 : m (Str.ofString "great") = some (.ref lG)) (h3 : m (Str.ofString "beyond") = some (.int b tb)) : m = MidT m lP lG b tb := by
  funext y
  unfold MidT
  by_cases q1 : y = Str.ofString "places"
  · rw [if_pos q1, q1, h1]
  · rw [if_neg q1]
    by_cases q2 : y = Str.ofString "great"
    · rw [if_pos q2, q2, h2]
    · rw [if_neg q2]
      by_cases q3 : y = Str.ofString "beyond"
      · rw [if_pos q3, q3, h3]
      · rw [if_neg q3]
end
theorem wordsLawTc : True := by
  (k_with "exec If" => (k_here; (with_reducible show wpAny _ _ (exec (Stmt.If (PySem.Expr.BoolOp PySem.BoolOp.Or (PySem.Expr.Compare (PySem.Expr.BinOp _ _ _ _) _ _ _ :: _) _) _ _ _) _) _ _ _); refine hold ?_))
  trivial

theorem wordsLawTd : True := by
  (k_with "CompEnd" => refine hold ?_)
  trivial

local macro_rules | `(tactic| k_qdec) => `(tactic| decide +kernel)
section
variable {w : World} {p : Program} {loose : List Str} {mean : ExcName → Option Value} {mg mb : Str → Option Value}
  {dp un : Nat} {gd : Option (List Code)} {cn : Str} {cs : Scope} {a : Addr} {ccd : Value} {cl : List (Str × Addr)} {outer : List Env} {A₀ : Around} {base h₀ : Heap} {L : Addr} {m : Str → Option Value} {s : Shared} {Q E : Value → Shared → Prop}

theorem tail_idx {lP lG x dx hI lF lC lI lQ : Addr} {oC : Obj} {oct : Array UInt8} {ps : List Int} {bey : Int} {tb : Tok} {turned : Bool} {vS : Value} {tO t2 tv tn k0 k1 k2 k3 k4 k5 k6 k7 k8 k9 : Tok} {vF vI vP vs ys : List Value} {nF nP nn : Nat} {rest : List Stmt} {Q : Flow → Shared → Prop}
    (hcs : cs = lawScope PySem.Challenge.pw_nt0280_01.main.body) (hr : rest = lawTail PySem.Challenge.pw_nt0280_01.main.body)
    (B : Below A₀ base outer h₀) (F : Fr h₀ L s.heap m) (X : (hd.heap_1 w.params).In h₀) (T : Top p loose mean mg mb h₀)
    (hd : dp + 20 < recursionLimit) (hu : un + 500 < cLine)
    (hm1 : m (Str.ofString "places") = some (.ref lP)) (hm2 : m (Str.ofString "great") = some (.ref lG)) (hm3 : m (Str.ofString "beyond") = some (.int bey tb))
    (N : News h₀ L s.heap [(x, instObj 251 dx), (dx, dictOf (idxEnts w oct ps.length hI lF lC lI lQ vS tO t2 tv tn k0 k1 k2 k3 k4 k5 k6 k7 k8 k9) 10), (lF, listOf vF.toArray nF), (lI, LCg.lst vI), (lQ, listOf vP.toArray nP), (lP, listOf vs.toArray nn), (L + 1, oC), (lG, LCg.lst ys)])
    (hx1 : lP ∉ [x, dx, lF, lI, lQ]) (hx2 : L + 1 ∉ [x, dx, lF, lI, lQ]) (hne : NeA lP (L + 1))
    (hcell : oC.data = .cell (some (.ref x))) (hvs : IntsAre vs ps) (hys : IntsAre ys (List.foldl gG [] ps)) (hfl : ¬ Fails ps bey) (hvP : IntsAre vP ps) (hvF : IntsAre vF (fanL ps.length)) (R : RelL (IdRel (ksOf turned ps bey) (8 + 4 * 256)) (rangeKs 0 ps.length) vI)
    (hl1 : 1 ≤ ps.length) (hl3 : ps.length ≤ 3)
    (ret : ∀ (h' : Heap) (tk' : Nat), Fr h₀ L h' m → Q (.ret (.bool true)) { s with heap := h', toks := tk' }) :
    wpAny (model PySem.Challenge.rw_nt0280_01.row.prog w) (ktrTop dp un gd cn cs L a ccd (cellsFrom (L + 1) cs.names []) outer) (execs rest (envX cn cs L a ccd (cellsFrom (L + 1) cs.names []))) Q E s := by
  conv at hcs => rhs; whnf
  conv at hr => rhs; whnf
  subst hcs
  subst hr
  revert X; k_fill; intro X
  have em := midT_of hm1 hm2 hm3
  rw [em] at F ret
  clear hm1 hm2 hm3 em
  (try dsimp only [MidT] at F)
  refine arr5 hx1 fun _ _ _ _ _ => ?_
  refine arr5 hx2 fun _ _ _ _ _ => ?_
  clear hx1 hx2
  have hvl := hvs.length
  w_strict (repeat' (first | (k_unfold; (try dsimp only)) | walk1 | (dsimp only; walk1) | (leave1; try dsimp only) | (dsimp only; k_unfold; (try dsimp only)) | fail "no step"))
  unfold Hold
  refine If_join false [(x, instObj 251 dx), (dx, dictOf (idxEnts w oct ps.length hI lF lC lI lQ vS tO t2 tv tn k0 k1 k2 k3 k4 k5 k6 k7 k8 k9) 10), (lF, listOf vF.toArray nF), (lI, LCg.lst vI), (lQ, listOf vP.toArray nP), (lP, listOf vs.toArray nn), (L + 1, oC)] (by k_asm) ?_ ?_
  · w_strict (repeat' (first | (k_unfold; (try dsimp only)) | walk1 | (dsimp only; walk1) | (leave1; try dsimp only) | (dsimp only; k_unfold; (try dsimp only)) | fail "no step"))
    · exact absurd (.inl (by assumption)) hfl
    · exact JoinB.intro (by k_asm) (cb_drop (by k_asm) (by kcf_all))
    · exact absurd (yes_fails (by assumption) (by assumption)) hfl
    · exact JoinB.intro (by k_asm) (cb_drop (by k_asm) (by kcf_all))
  · intro h' tk F1 N1
    clear N F
    (try dsimp only [cond])
    w_strict (repeat' (first | (k_unfold; (try dsimp only)) | walk1 | (dsimp only; walk1) | (leave1; try dsimp only) | (dsimp only; k_unfold; (try dsimp only)) | fail "no step"))
    unfold Hold
    refine comp_relR (fun k y => ∃ t, y = Value.int (ps.getD k.toNat 0) t) ?_ ?_
    · intro k t I oI C oC D m₂ ys h tk E' hk0 hk1 hC hx F N off ne mk
      refine off_arr off ?_
      dsimp only [ArrOff]
      intros
      w_strict (repeat' (first | (k_unfold; (try dsimp only)) | walk1 | (dsimp only; walk1) | (leave1; try dsimp only) | (dsimp only; k_unfold; (try dsimp only)) | fail "no step"))
      unfold Hold
      refine' LCg.CompEnd.intro (by assumption) (by assumption) _ ?suba ?offa trivial ⟨rfl, _, rfl⟩
      case offa => exact off
      case suba => kcf_all
    · unfold KPfDone
      intro ys hys
      have hI5 := rel_ps (by omega) hys
      w_strict (repeat' (first | (k_unfold; (try dsimp only)) | walk1 | (dsimp only; walk1) | (leave1; try dsimp only) | (dsimp only; k_unfold; (try dsimp only)) | fail "no step"))
      unfold Hold
      (rename @Ne Nat _ _ ∧ _ => hO)
      simp only [neA_iff] at hO
      (repeat ((have hNeA := And.left hO); (replace hO := And.right hO)))
      refine comp_relR (fun k y => ∃ t, y = Value.int (ps.getD k.toNat 0) t) ?_ ?_
      · intro k t I oI C oC D m₂ ys h tk E' hk0 hk1 hC hx F N off ne mk
        refine off_arr off ?_
        dsimp only [ArrOff]
        intros
        w_strict (repeat' (first | (k_unfold; (try dsimp only)) | walk1 | (dsimp only; walk1) | (leave1; try dsimp only) | (dsimp only; k_unfold; (try dsimp only)) | fail "no step"))
        unfold Hold
        refine' LCg.CompEnd.intro (by assumption) (by assumption) _ ?subb ?offb trivial ⟨rfl, _, rfl⟩
        case offb => exact off
        case subb => kcf_all
      · unfold KPfDone
        intro ys2 hys2
        have hI6 := rel_ps (by omega) hys2
        w_strict (repeat' (first | (k_unfold; (try dsimp only)) | walk1 | (dsimp only; walk1) | (leave1; try dsimp only) | (dsimp only; k_unfold; (try dsimp only)) | fail "no step"))
        exact ret _ _ (by k_asm)
theorem tail_none {lP lG : Addr} {oC : Obj} {ps : List Int} {bey : Int} {tb : Tok} {vs ys : List Value} {nn : Nat} {rest : List Stmt} {Q : Flow → Shared → Prop}
    (hcs : cs = lawScope PySem.Challenge.pw_nt0280_01.main.body) (hr : rest = lawTail PySem.Challenge.pw_nt0280_01.main.body)
    (B : Below A₀ base outer h₀) (F : Fr h₀ L s.heap m) (X : (hd.heap_1 w.params).In h₀) (T : Top p loose mean mg mb h₀)
    (hd : dp + 20 < recursionLimit) (hu : un + 500 < cLine)
    (hm1 : m (Str.ofString "places") = some (.ref lP)) (hm2 : m (Str.ofString "great") = some (.ref lG)) (hm3 : m (Str.ofString "beyond") = some (.int bey tb))
    (N : News h₀ L s.heap [(lP, listOf vs.toArray nn), (L + 1, oC), (lG, LCg.lst ys)])
    (hcell : oC.data = .cell (some .none)) (hvs : IntsAre vs ps) (hys : IntsAre ys (List.foldl gG [] ps)) (hfl : Fails ps bey)
    (ret : ∀ (h' : Heap) (tk' : Nat), Fr h₀ L h' m → Q (.ret (.bool true)) { s with heap := h', toks := tk' }) :
    wpAny (model PySem.Challenge.rw_nt0280_01.row.prog w) (ktrTop dp un gd cn cs L a ccd (cellsFrom (L + 1) cs.names []) outer) (execs rest (envX cn cs L a ccd (cellsFrom (L + 1) cs.names []))) Q E s := by
  conv at hcs => rhs; whnf
  conv at hr => rhs; whnf
  subst hcs
  subst hr
  revert X; k_fill; intro X
  have em := midT_of hm1 hm2 hm3
  rw [em] at F ret
  clear hm1 hm2 hm3 em
  (try dsimp only [MidT] at F)
  w_strict (repeat' (first | (k_unfold; (try dsimp only)) | walk1 | (dsimp only; walk1) | (leave1; try dsimp only) | (dsimp only; k_unfold; (try dsimp only)) | fail "no step"))
  unfold Hold
  refine If_join true [(L + 1, oC)] (by k_asm) ?_ ?_
  · w_strict (repeat' (first | (k_unfold; (try dsimp only)) | walk1 | (dsimp only; walk1) | (leave1; try dsimp only) | (dsimp only; k_unfold; (try dsimp only)) | fail "no step"))
    · exact JoinB.intro (by k_asm) (cb_drop (by k_asm) (by kcf_all))
    · exact (no_fails1 hfl (by assumption) (by assumption)).elim
    · exact JoinB.intro (by k_asm) (cb_drop (by k_asm) (by kcf_all))
    · exact (no_fails2 hfl (by assumption) (by assumption)).elim
  · intro h' tk F1 N1
    clear N F
    (try dsimp only [cond])
    w_strict (repeat' (first | (k_unfold; (try dsimp only)) | walk1 | (dsimp only; walk1) | (leave1; try dsimp only) | (dsimp only; k_unfold; (try dsimp only)) | fail "no step"))
    exact ret _ _ (by k_asm)
end

end

section
theorem wordsSLwb : True := by
  w_top off
  k_with_none
  (k_with "exec For Name Subscript cons nil" => (k_here; (rename Fr _ _ _ _ => lF'); (with_unfolding_all refine For_invVF lF' (by exact rfl) (by exact rfl) ?_; k_whole)))
  (k_with "call ref" => (k_here; k_dflt (first | (refine call_meth (by k_asm) (by k_mem) ?_; k_whole; (first | ((first | with_reducible refine code_defO (by k_dflt (exact rfl)) (by k_dflt (exact rfl)) (by k_dflt (first | exact rfl | assumption)) (by k_dflt (k_asm)) (by k_dflt (k_asm)) (by k_dflt (k_asm)) (by k_dflt (k_asm)) (by k_dflt (k_asm)) (by k_dflt (k_is)) (by k_dflt (k_is)) (by k_dflt (ktr_room)) (by k_dflt (first | exact BindsTo.of_eq rfl | exact binds_K (by k_in) rfl (by k_is) rfl rfl rfl)) (by k_dflt (decide)) (by k_dflt (exact locs rfl)) (by k_dflt (exact rfl)) (by k_dflt (exact rfl)) (by k_dflt (exact rfl)) ?_ | refine code_defO (by exact rfl) (by exact rfl) (by first | exact rfl | assumption) (by k_asm) (by k_asm) (by k_asm) (by k_asm) (by k_asm) (by k_is) (by k_is) (by ktr_room) (by first | exact BindsTo.of_eq rfl | exact binds_K (by k_in) rfl (by k_is) rfl rfl rfl) (by decide) (by exact locs rfl) (by exact rfl) (by exact rfl) (by exact rfl) ?_); k_whole; intro g' L' h' FG' F' N' B' X' T'; (try dsimp only); (try k_lift B'); (try k_fold)) | ((first | with_reducible refine code_defCO (by k_dflt (exact rfl)) (by k_dflt (exact rfl)) (by k_dflt (first | exact rfl | assumption)) (by k_dflt (k_asm)) (by k_dflt (k_asm)) (by k_dflt (k_asm)) (by k_dflt (k_asm)) (by k_dflt (k_asm)) (by k_dflt (k_is)) (by k_dflt (k_is)) (by k_dflt (ktr_room)) (by k_dflt (first | exact BindsTo.of_eq rfl | exact binds_K (by k_in) rfl (by k_is) rfl rfl rfl)) (by k_dflt (exact rfl)) (by k_dflt (decide +kernel)) (by k_dflt (exact rfl)) (by k_dflt (exact rfl)) (by k_dflt (exact rfl)) ?_ | refine code_defCO (by exact rfl) (by exact rfl) (by first | exact rfl | assumption) (by k_asm) (by k_asm) (by k_asm) (by k_asm) (by k_asm) (by k_is) (by k_is) (by ktr_room) (by first | exact BindsTo.of_eq rfl | exact binds_K (by k_in) rfl (by k_is) rfl rfl rfl) (by exact rfl) (by decide +kernel) (by exact rfl) (by exact rfl) (by exact rfl) ?_); k_whole; intro g' L' h' tk' cells' FG' F' N' Y' B' X' T' l1; (try k_lt l1); k_cells Y'; (try simp only [List.cons_append, List.nil_append] at N'); (try dsimp only); (try k_lift B'); (try k_fold)))) | ((first | with_reducible refine call_cls (by k_dflt (k_asm)) (by k_dflt (k_asm)) (by k_dflt (k_asm)) (by k_dflt (k_is)) (by k_dflt (k_is)) (by k_dflt (k_is)) ?_ | refine call_cls (by k_asm) (by k_asm) (by k_asm) (by k_is) (by k_is) (by k_is) ?_); k_whole; intro x' d' h' F' N' l1 l2; (try k_lt l1); (try k_lt2 l2); (try k_sweep); (first | ((first | with_reducible refine code_defO (by k_dflt (exact rfl)) (by k_dflt (exact rfl)) (by k_dflt (first | exact rfl | assumption)) (by k_dflt (k_asm)) (by k_dflt (k_asm)) (by k_dflt (k_asm)) (by k_dflt (k_asm)) (by k_dflt (k_asm)) (by k_dflt (k_is)) (by k_dflt (k_is)) (by k_dflt (ktr_room)) (by k_dflt (first | exact BindsTo.of_eq rfl | exact binds_K (by k_in) rfl (by k_is) rfl rfl rfl)) (by k_dflt (decide)) (by k_dflt (exact locs rfl)) (by k_dflt (exact rfl)) (by k_dflt (exact rfl)) (by k_dflt (exact rfl)) ?_ | refine code_defO (by exact rfl) (by exact rfl) (by first | exact rfl | assumption) (by k_asm) (by k_asm) (by k_asm) (by k_asm) (by k_asm) (by k_is) (by k_is) (by ktr_room) (by first | exact BindsTo.of_eq rfl | exact binds_K (by k_in) rfl (by k_is) rfl rfl rfl) (by decide) (by exact locs rfl) (by exact rfl) (by exact rfl) (by exact rfl) ?_); k_whole; intro g' L' h' FG' F' N' B' X' T'; (try dsimp only); (try k_lift B'); (try k_fold)) | ((first | with_reducible refine code_defCO (by k_dflt (exact rfl)) (by k_dflt (exact rfl)) (by k_dflt (first | exact rfl | assumption)) (by k_dflt (k_asm)) (by k_dflt (k_asm)) (by k_dflt (k_asm)) (by k_dflt (k_asm)) (by k_dflt (k_asm)) (by k_dflt (k_is)) (by k_dflt (k_is)) (by k_dflt (ktr_room)) (by k_dflt (first | exact BindsTo.of_eq rfl | exact binds_K (by k_in) rfl (by k_is) rfl rfl rfl)) (by k_dflt (exact rfl)) (by k_dflt (decide +kernel)) (by k_dflt (exact rfl)) (by k_dflt (exact rfl)) (by k_dflt (exact rfl)) ?_ | refine code_defCO (by exact rfl) (by exact rfl) (by first | exact rfl | assumption) (by k_asm) (by k_asm) (by k_asm) (by k_asm) (by k_asm) (by k_is) (by k_is) (by ktr_room) (by first | exact BindsTo.of_eq rfl | exact binds_K (by k_in) rfl (by k_is) rfl rfl rfl) (by exact rfl) (by decide +kernel) (by exact rfl) (by exact rfl) (by exact rfl) ?_); k_whole; intro g' L' h' tk' cells' FG' F' N' Y' B' X' T' l1; (try k_lt l1); k_cells Y'; (try simp only [List.cons_append, List.nil_append] at N'); (try dsimp only); (try k_lift B'); (try k_fold)))) | ((first | with_reducible refine wpAny_call ?_ | refine wpAny_call ?_); (first | ((first | with_reducible refine code_defO (by k_dflt (exact rfl)) (by k_dflt (exact rfl)) (by k_dflt (first | exact rfl | assumption)) (by k_dflt (k_asm)) (by k_dflt (k_asm)) (by k_dflt (k_asm)) (by k_dflt (k_asm)) (by k_dflt (k_asm)) (by k_dflt (k_is)) (by k_dflt (k_is)) (by k_dflt (ktr_room)) (by k_dflt (first | exact BindsTo.of_eq rfl | exact binds_K (by k_in) rfl (by k_is) rfl rfl rfl)) (by k_dflt (decide)) (by k_dflt (exact locs rfl)) (by k_dflt (exact rfl)) (by k_dflt (exact rfl)) (by k_dflt (exact rfl)) ?_ | refine code_defO (by exact rfl) (by exact rfl) (by first | exact rfl | assumption) (by k_asm) (by k_asm) (by k_asm) (by k_asm) (by k_asm) (by k_is) (by k_is) (by ktr_room) (by first | exact BindsTo.of_eq rfl | exact binds_K (by k_in) rfl (by k_is) rfl rfl rfl) (by decide) (by exact locs rfl) (by exact rfl) (by exact rfl) (by exact rfl) ?_); k_whole; intro g' L' h' FG' F' N' B' X' T'; (try dsimp only); (try k_lift B'); (try k_fold)) | ((first | with_reducible refine code_defCO (by k_dflt (exact rfl)) (by k_dflt (exact rfl)) (by k_dflt (first | exact rfl | assumption)) (by k_dflt (k_asm)) (by k_dflt (k_asm)) (by k_dflt (k_asm)) (by k_dflt (k_asm)) (by k_dflt (k_asm)) (by k_dflt (k_is)) (by k_dflt (k_is)) (by k_dflt (ktr_room)) (by k_dflt (first | exact BindsTo.of_eq rfl | exact binds_K (by k_in) rfl (by k_is) rfl rfl rfl)) (by k_dflt (exact rfl)) (by k_dflt (decide +kernel)) (by k_dflt (exact rfl)) (by k_dflt (exact rfl)) (by k_dflt (exact rfl)) ?_ | refine code_defCO (by exact rfl) (by exact rfl) (by first | exact rfl | assumption) (by k_asm) (by k_asm) (by k_asm) (by k_asm) (by k_asm) (by k_is) (by k_is) (by ktr_room) (by first | exact BindsTo.of_eq rfl | exact binds_K (by k_in) rfl (by k_is) rfl rfl rfl) (by exact rfl) (by decide +kernel) (by exact rfl) (by exact rfl) (by exact rfl) ?_); k_whole; intro g' L' h' tk' cells' FG' F' N' Y' B' X' T' l1; (try k_lt l1); k_cells Y'; (try simp only [List.cons_append, List.nil_append] at N'); (try dsimp only); (try k_lift B'); (try k_fold)))))))
  (k_with "execs cons" => (k_here; (with_reducible (refine gen_toks ?_)); intro tk))
  (k_with "execs nil" => (k_here; (with_reducible (refine gen_toks ?_)); intro tk))
  (k_with "call builtin:list.append" => (k_here; k_dflt ((first | with_reducible refine app_K (by k_dflt (k_asm)) (by k_dflt (k_asm)) (by k_dflt (k_updF)) (by k_dflt ((simp only [List.length_append, List.length_cons, List.length_nil]; omega))) ?_ | refine app_K (by k_asm) (by k_asm) (by k_updF) (by (simp only [List.length_append, List.length_cons, List.length_nil]; omega)) ?_)); intro h' F' N'; (try dsimp only at N'); (try dsimp only)))
  (k_with "call ref" => (k_here; k_dflt (((with_reducible show wpAny _ _ (call (Value.ref 85) _) _ _ _); first | with_reducible refine abe (by k_dflt (k_asm)) (by k_dflt (k_asm)) (by k_dflt (k_asm)) (by k_dflt (k_asm)) (by k_dflt (k_asm)) (by k_dflt (first | exact rfl | assumption)) (by k_dflt (ktr_room)) (by k_dflt (ktr_units)) (by k_dflt (assumption)) (by k_dflt (omega)) (by k_dflt (omega)) (by k_dflt (omega)) (by k_dflt (omega)) ?_ | refine abe (by k_asm) (by k_asm) (by k_asm) (by k_asm) (by k_asm) (by first | exact rfl | assumption) (by ktr_room) (by ktr_units) (by assumption) (by omega) (by omega) (by omega) (by omega) ?_); k_whole); intro t9 h9 tk9 F9 N9; (try dsimp only); (try k_fold)))
  (k_with "compareOp Lt bytes bytes" => refine lt_bytes ?_)
  (k_with "compareOp LtE bytes bytes" => refine le_bytes ?_)
  (k_with "subscriptTail" => (k_here; (with_reducible show wpAny _ _ (subscriptTail _ _ (Value.ref _) (Value.str _ _)) _ _ _); k_dflt ((first | with_reducible refine kda_item (knd := PySem.strKind _ _) (by k_dflt (k_asm)) (by k_dflt (k_mem)) (by k_dflt (k_asm)) (strKind_is _ _ _ _) (by k_dflt (rfl)) ?_ | refine kda_item (knd := PySem.strKind _ _) (by k_asm) (by k_mem) (by k_asm) (strKind_is _ _ _ _) (by rfl) ?_))))
  (k_with "subscriptTail" => (k_here; (with_reducible show wpAny _ _ (subscriptTail _ _ (Value.ref _) (Value.bytes _ _)) _ _ _); k_dflt ((first | with_reducible refine kda_item (knd := PySem.W.bytesKind _ _) (by k_dflt (k_asm)) (by k_dflt (k_mem)) (by k_dflt (k_asm)) (bytesKind_at _ _ _ _) (by k_dflt (first | exact value_one _ _ | rfl)) ?_ | refine kda_item (knd := PySem.W.bytesKind _ _) (by k_asm) (by k_mem) (by k_asm) (bytesKind_at _ _ _ _) (by first | exact value_one _ _ | rfl) ?_))))
  (k_with "setItem ref str" => (k_here; k_dflt ((first | with_reducible refine kda_set (knd := PySem.strKind _ _) (by k_dflt (k_asm)) (by k_dflt (k_asm)) (by k_dflt (k_updF)) (by k_dflt (k_asm)) (strKind_is _ _ _ _) (by k_dflt (rw [sizeLine_eq]; exact Nat.le_of_ble_eq_true (by with_unfolding_all rfl))) ?_ | refine kda_set (knd := PySem.strKind _ _) (by k_asm) (by k_asm) (by k_updF) (by k_asm) (strKind_is _ _ _ _) (by rw [sizeLine_eq]; exact Nat.le_of_ble_eq_true (by with_unfolding_all rfl)) ?_)); intro h' o' F' N' hd'; (try dsimp only at N'); (try rw [stored_mixed] at hd'); (try rw [stored_nil] at hd')))
  (k_with "compareOp NotIn bytes ref" => (k_here; k_dflt ((first | with_reducible refine notin_bytes (by k_dflt (k_asm)) (by k_dflt (k_mem)) (by k_dflt (k_asm)) (by k_dflt (k_asm)) (by k_dflt (first | rfl | exact value_is _ _)) ?_ | refine notin_bytes (by k_asm) (by k_mem) (by k_asm) (by k_asm) (by first | rfl | exact value_is _ _) ?_))))
  (k_with "setItem ref bytes" => (k_here; k_dflt ((first | with_reducible refine kda_set (knd := PySem.W.bytesKind _ _) (by k_dflt (k_asm)) (by k_dflt (k_asm)) (by k_dflt (k_updF)) (by k_dflt (k_asm)) (bytesKind_at _ _ _ _) (by k_dflt (rw [sizeLine_eq]; exact Nat.le_of_ble_eq_true (by with_unfolding_all rfl))) ?_ | refine kda_set (knd := PySem.W.bytesKind _ _) (by k_asm) (by k_asm) (by k_updF) (by k_asm) (bytesKind_at _ _ _ _) (by rw [sizeLine_eq]; exact Nat.le_of_ble_eq_true (by with_unfolding_all rfl)) ?_)); intro h' o' F' N' hd'; (try dsimp only at N'); (try rw [stored_mixed] at hd'); (try rw [stored_nil] at hd')))
  (k_with "call builtin:len" => (k_here; (with_reducible show wpAny _ _ (call (Value.builtin "len") [Value.ref _]) _ _ _); k_dflt ((first | with_reducible refine kda_len (knd := PySem.W.bytesKind _ _) (by k_dflt (k_asm)) (by k_dflt (k_mem)) (by k_dflt (k_asm)) (by k_dflt (k_asm)) (Nat.le_of_ble_eq_true (by with_unfolding_all rfl)) ?_ | refine kda_len (knd := PySem.W.bytesKind _ _) (by k_asm) (by k_mem) (by k_asm) (by k_asm) (Nat.le_of_ble_eq_true (by with_unfolding_all rfl)) ?_))))
  (k_with "call type:bytes" => (k_here; (with_reducible show wpAny _ _ (call (Value.type "bytes") [Value.bytes _ _]) _ _ _); (refine call_bytesB ?_)))
  (k_with "LeaveK" => ((try ((rename RestIn _ _ _ _ => rI); (rename Fr _ _ _ _ => lF'); (have rJ := RestIn.keeps rI lF'); (try ((rename News _ _ _ _ => lN'); (have rK := RestIn.apart rI lN'))))); (k_dflt ((first | with_reducible refine leaveK_ (by k_dflt (k_asm)) (by k_dflt (k_asm)) ?_ | refine leaveK_ (by k_asm) (by k_asm) ?_); k_whole); intro kF kN; ground_anew kF; (have kX := kFor kF (by k_asm)); (try dsimp only [InitBack, CmpBack, LenBack, StrBack, BoolBack]); (try refine ⟨rfl, ?_⟩); (try dsimp only [CmpBack, LenBack, StrBack, BoolBack]); (try (refine ⟨⟨by omega, by omega⟩, ?_⟩)); (try (refine handed_on rfl ?_; try dsimp only)))))
  (k_with "setAttr ref" => (k_here; k_dflt ((first | with_reducible refine exc_set (K := Mine.hd.heap_1 _) (by k_dflt (k_asm)) (by k_dflt (k_asm)) (by k_dflt (k_asm)) (by k_dflt ((intro p hp; first | exact nomatch hp))) (by k_dflt (k_is)) (by k_dflt (k_is)) (by k_dflt ((intro self; exact PySem.F.store_Exception.passes self))) (by k_dflt (decide)) (by k_dflt (decide)) (by k_dflt (exact rfl)) (by k_dflt (k_is)) ?_ | refine exc_set (K := Mine.hd.heap_1 _) (by k_asm) (by k_asm) (by k_asm) (by (intro p hp; first | exact nomatch hp)) (by k_is) (by k_is) (by (intro self; exact PySem.F.store_Exception.passes self)) (by decide) (by decide) (by exact rfl) (by k_is) ?_); intro h' D oD tk F' N' hpD hDe); (try dsimp only)))
  (k_with "call ref" => (k_here; k_dflt (((with_reducible show wpAny _ _ (call (Value.ref 64) _) _ _ _); first | with_reducible refine badpack (by k_dflt (k_asm)) (by k_dflt (k_asm)) (by k_dflt (k_asm)) (by k_dflt (k_asm)) (by k_dflt (first | exact rfl | assumption)) (by k_dflt (ktr_room)) (by k_dflt (ktr_units)) (by k_dflt (k_asm)) ?_ | refine badpack (by k_asm) (by k_asm) (by k_asm) (by k_asm) (by first | exact rfl | assumption) (by ktr_room) (by ktr_units) (by k_asm) ?_); k_whole); intro e9 t9 d9 o9 h9 tk9 F9 N9; (try dsimp only); (try k_fold)))
  (k_with "exec Raise some none" => (k_here; k_dflt ((first | with_reducible refine Raise_x (K := Mine.hd.heap_1 _) (C := 64) (by k_dflt (k_asm)) (by k_dflt (k_is)) (by k_dflt (decide)) (by k_dflt (first | exact rfl | assumption)) ?_ | refine Raise_x (K := Mine.hd.heap_1 _) (C := 64) (by k_asm) (by k_is) (by decide) (by first | exact rfl | assumption) ?_); k_whole)))
  (k_with "RaisableX" => (k_here; k_dflt ((first | with_reducible refine raisable_x (by k_dflt (k_asm)) (by k_dflt (k_asm)) ?_ | refine raisable_x (by k_asm) (by k_asm) ?_); k_whole)))
  (k_with "leaving ref" => (k_here; k_dflt ((first | with_reducible refine leave_X (by k_dflt (assumption)) (by k_dflt (k_asm)) (by k_dflt (k_asm)) ?_ (by k_dflt (exact rfl)) | refine leave_X (by assumption) (by k_asm) (by k_asm) ?_ (by exact rfl)); k_whole); intro h' R' U'; (try dsimp only at R' U' ⊢)))
  (k_with "binaryOp Mult ref int" => (k_here; (with_reducible show wpAny _ _ (binaryOp Operator.Mult (Value.ref _) (Value.int _ _)) _ _ _); k_dflt ((first | with_reducible refine zeros_K (by k_dflt (k_asm)) (by k_dflt (k_asm)) (by k_dflt (k_mem)) ?_ | refine zeros_K (by k_asm) (by k_asm) (by k_mem) ?_)); intro D' h' ws' F' N' l1 i1; (try k_lt l1)))
  (k_with "subscriptTail" => (k_here; (with_reducible show wpAny _ _ (subscriptTail _ _ (Value.bytes _ _) (Value.int 0 _)) _ _ _); k_dflt ((first | with_reducible refine oid0 ?_ | refine oid0 ?_)); intro _ _))
  (k_with "getItem ref int" => (k_here; k_dflt ((first | with_reducible refine cnt_item (by k_dflt (k_asm)) (by k_dflt (k_mem)) (by k_dflt (assumption)) ?_ | refine cnt_item (by k_asm) (by k_mem) (by assumption) ?_)); intro _))
  (k_with "setItem ref int" => (k_here; k_dflt ((first | with_reducible refine cnt_store (by k_dflt (k_asm)) (by k_dflt (k_asm)) (by k_dflt (k_updF)) (by k_dflt (assumption)) ?_ | refine cnt_store (by k_asm) (by k_asm) (by k_updF) (by assumption) ?_)); intro h' ws' F' N' hi'; (try dsimp only at N')))
  (k_with "subscriptTail Name Name ref int" => (k_here; k_dflt (first | ((first | with_reducible refine cnt_sub (by k_dflt (k_asm)) (by k_dflt (k_mem)) (by k_dflt (assumption)) (by k_dflt (omega)) (by k_dflt (omega)) ?_ | refine cnt_sub (by k_asm) (by k_mem) (by assumption) (by omega) (by omega) ?_); intro t9 x9 f9) | ((first | with_reducible refine fan_sub (by k_dflt (k_asm)) (by k_dflt (k_mem)) (by k_dflt (assumption)) (by k_dflt (omega)) (by k_dflt (omega)) ?_ | refine fan_sub (by k_asm) (by k_mem) (by assumption) (by omega) (by omega) ?_); intro t9 x9 f9))))
  (k_with "call ref" => (k_here; k_dflt (((with_reducible show wpAny _ _ (call (Value.ref 71) _) _ _ _); first | with_reducible refine be4 (by k_dflt (k_asm)) (by k_dflt (k_asm)) (by k_dflt (k_asm)) (by k_dflt (k_asm)) (by k_dflt (k_asm)) (by k_dflt (first | exact rfl | assumption)) (by k_dflt (ktr_room)) (by k_dflt (ktr_units)) (by k_dflt (first | exact .inl rfl | exact .inr rfl)) ?_ | refine be4 (by k_asm) (by k_asm) (by k_asm) (by k_asm) (by k_asm) (by first | exact rfl | assumption) (by ktr_room) (by ktr_units) (by first | exact .inl rfl | exact .inr rfl) ?_); k_whole); intro b9 t9 h9 tk9 hb9 F9 N9; (try dsimp only); (try k_fold)))
  (k_with "call ref" => (k_here; k_dflt (((with_reducible show wpAny _ _ (call (Value.ref 121) _) _ _ _); first | with_reducible refine dig2c (by k_dflt (k_asm)) (by k_dflt (k_asm)) (by k_dflt (k_asm)) (by k_dflt (k_asm)) (by k_dflt (k_asm)) (by k_dflt (first | exact rfl | assumption)) (by k_dflt (ktr_room)) (by k_dflt (ktr_units)) (by k_dflt (assumption)) (by k_dflt (assumption)) (by k_dflt (assumption)) ?_ | refine dig2c (by k_asm) (by k_asm) (by k_asm) (by k_asm) (by k_asm) (by first | exact rfl | assumption) (by ktr_room) (by ktr_units) (by assumption) (by assumption) (by assumption) ?_); k_whole); intro b9 t9 h9 tk9 hb9 F9 N9; (try dsimp only); (try k_fold)))
  (k_with "call ref" => (k_here; k_dflt (((with_reducible show wpAny _ _ (call (Value.ref 161) _) _ _ _); first | with_reducible refine plc (by k_dflt (k_asm)) (by k_dflt (k_asm)) (by k_dflt (k_asm)) (by k_dflt (k_asm)) (by k_dflt (first | exact rfl | assumption)) (by k_dflt (ktr_room)) (by k_dflt (ktr_units)) (by k_dflt (k_asm)) (by k_dflt (assumption)) (by k_dflt (omega)) (by k_dflt (omega)) (by k_dflt (omega)) (by k_dflt (omega)) (by k_dflt (omega)) (by k_dflt (omega)) (by k_dflt (omega)) (by k_dflt (omega)) ?_ ?_ | refine plc (by k_asm) (by k_asm) (by k_asm) (by k_asm) (by first | exact rfl | assumption) (by ktr_room) (by ktr_units) (by k_asm) (by assumption) (by omega) (by omega) (by omega) (by omega) (by omega) (by omega) (by omega) (by omega) ?_ ?_); k_whole); (all_goals (intros; (try dsimp only); (try k_fold)))))
  (k_with "call ref" => (k_here; k_dflt (((with_reducible show wpAny _ _ (call (Value.ref 154) _) _ _ _); first | with_reducible refine chkW (by k_dflt (k_asm)) (by k_dflt (k_asm)) (by k_dflt (k_asm)) (by k_dflt (k_asm)) (by k_dflt (first | exact rfl | assumption)) (by k_dflt (ktr_room)) (by k_dflt (ktr_units)) (by k_dflt (k_asm)) (by k_dflt (k_mem)) (by k_dflt (k_mem)) (by k_dflt (first | with_reducible assumption | (refine Ne.symm ?_; with_reducible assumption) | omega)) (by k_dflt (omega)) (by k_dflt (omega)) (by k_dflt (assumption)) (by k_dflt (assumption)) (by k_dflt (assumption)) ?_ | refine chkW (by k_asm) (by k_asm) (by k_asm) (by k_asm) (by first | exact rfl | assumption) (by ktr_room) (by ktr_units) (by k_asm) (by k_mem) (by k_mem) (by first | with_reducible assumption | (refine Ne.symm ?_; with_reducible assumption) | omega) (by omega) (by omega) (by assumption) (by assumption) (by assumption) ?_); k_whole); intro h9 tk9 F9 N9; (try dsimp only); (try k_fold)))
  (k_with "call ref" => (k_here; k_dflt (first | (((with_reducible show wpAny _ _ (call (Value.ref 272) _) _ _ _); first | with_reducible refine big4 (by k_dflt (k_asm)) (by k_dflt (k_asm)) (by k_dflt (k_asm)) (by k_dflt (k_asm)) (by k_dflt (k_asm)) (by k_dflt (first | exact rfl | assumption)) (by k_dflt (ktr_room)) (by k_dflt (ktr_units)) ?_ | refine big4 (by k_asm) (by k_asm) (by k_asm) (by k_asm) (by k_asm) (by first | exact rfl | assumption) (by ktr_room) (by ktr_units) ?_); k_whole) | (((with_reducible show wpAny _ _ (call (Value.ref 272) _) _ _ _); first | with_reducible refine big8 (by k_dflt (k_asm)) (by k_dflt (k_asm)) (by k_dflt (k_asm)) (by k_dflt (k_asm)) (by k_dflt (k_asm)) (by k_dflt (first | exact rfl | assumption)) (by k_dflt (ktr_room)) (by k_dflt (ktr_units)) ?_ | refine big8 (by k_asm) (by k_asm) (by k_asm) (by k_asm) (by k_asm) (by first | exact rfl | assumption) (by ktr_room) (by ktr_units) ?_); k_whole)); intro b9 t9 h9 tk9 hb9 F9 N9; (have hz9 := szb_of hb9); (try dsimp only); (try k_fold)))
  (k_with "binaryOp Add bytes bytes" => (k_here; k_dflt ((first | with_reducible refine add_S (by k_dflt (first | assumption | exact rfl)) (by k_dflt (first | assumption | exact rfl)) (by k_dflt (first | assumption | exact szb_lit)) (by k_dflt (assumption)) (by k_dflt (exact Nat.le_of_ble_eq_true rfl)) ?_ | refine add_S (by first | assumption | exact rfl) (by first | assumption | exact rfl) (by first | assumption | exact szb_lit) (by assumption) (by exact Nat.le_of_ble_eq_true rfl) ?_)); intro d9 t9 k9 hb9 hz9; (try dsimp only)))
  (k_with "binaryOp Mult bytes int" => (k_here; k_dflt ((first | with_reducible refine mul_S (by k_dflt (assumption)) (by k_dflt (exact beL_len _ _)) (by k_dflt (omega)) (by k_dflt (omega)) ?_ | refine mul_S (by assumption) (by exact beL_len _ _) (by omega) (by omega) ?_)); intro d9 t9 k9 hb9 hz9; (try dsimp only)))
  (k_with "call type:bytes" => (k_here; (with_reducible show wpAny _ _ (call (Value.type "bytes") [Value.ref _]) _ _ _); k_dflt ((first | with_reducible refine mk_B (by k_dflt (k_asm)) (by k_dflt (k_asm)) (by k_dflt (rfl)) (by k_dflt (k_mem)) (by k_dflt (exact .cons _ _ (.cons _ _ (.cons _ _ (.cons _ _ .nil))))) (by k_dflt ((intro n9 hn9; (simp only [List.mem_cons, List.not_mem_nil, or_false] at hn9); omega))) (by k_dflt (exact Nat.le_of_ble_eq_true rfl)) ?_ | refine mk_B (by k_asm) (by k_asm) (by rfl) (by k_mem) (by exact .cons _ _ (.cons _ _ (.cons _ _ (.cons _ _ .nil)))) (by (intro n9 hn9; (simp only [List.mem_cons, List.not_mem_nil, or_false] at hn9); omega)) (by exact Nat.le_of_ble_eq_true rfl) ?_)); intro h9 d9 t9 k9 F9 N9 hb9 hz9; (replace hz9 := szb_ints hb9); (try dsimp only)))
  (k_with "compareOp In int ref" => (k_here; k_dflt ((first | with_reducible refine in_B (by k_dflt (k_asm)) (by k_dflt (k_mem)) (by k_dflt (assumption)) ?_ ?_ | refine in_B (by k_asm) (by k_mem) (by assumption) ?_ ?_)); intro hb9; (try dsimp only)))
  (k_with "compareOp NotIn int ref" => (k_here; k_dflt ((first | with_reducible refine notin_B (by k_dflt (k_asm)) (by k_dflt (k_mem)) (by k_dflt (assumption)) ?_ ?_ | refine notin_B (by k_asm) (by k_mem) (by assumption) ?_ ?_)); intro hb9; (try dsimp only)))
  (k_with "call builtin:list.index" => (k_here; k_dflt ((first | with_reducible refine idx_B (by k_dflt (k_asm)) (by k_dflt (k_mem)) (by k_dflt (assumption)) (by k_dflt (assumption)) (by k_dflt (omega)) ?_ | refine idx_B (by k_asm) (by k_mem) (by assumption) (by assumption) (by omega) ?_)); (try dsimp only)))
  (k_with "eval ListComp" => (k_here; (with_reducible show wpAny _ _ (eval (PySem.Expr.ListComp _ [⟨PySem.Expr.Name _ _, _, [_], _⟩] _ _) _) _ _ _); k_dflt ((first | with_reducible refine LCt.ListComp_T (F₀ := by k_dflt (k_asm)) (by k_dflt (with_unfolding_all rfl)) (by k_dflt (decide)) (by k_dflt (rfl)) (by k_dflt (decide)) (by k_dflt (rfl)) ?_ | refine LCt.ListComp_T (F₀ := by k_asm) (by with_unfolding_all rfl) (by decide) (by rfl) (by decide) (by rfl) ?_))))
  (k_with "CompSrcT" => (k_here; k_dflt ((first | with_reducible refine LCt.CompSrcT.ledger (by k_dflt (rfl)) (by k_dflt (k_asm)) (by k_dflt (k_asm)) (by k_dflt (k_mem)) (by k_dflt (rw [List.size_toArray, PySem.sizeLine_eq]; omega)) ?_ | refine LCt.CompSrcT.ledger (by rfl) (by k_asm) (by k_asm) (by k_mem) (by rw [List.size_toArray, PySem.sizeLine_eq]; omega) ?_)); intro g'; (refine' kci_list gG (by assumption) ?_ ?_ ?_)))
  (k_with "eval ListComp" => (k_here; (with_reducible show wpAny _ _ (eval (PySem.Expr.ListComp _ [⟨PySem.Expr.Tuple _ _ _, _, _, _⟩] _ _) _) _ _ _); k_dflt ((first | with_reducible refine ListComp_E (_F₀ := by k_dflt (k_asm)) (by k_dflt (with_unfolding_all rfl)) (by k_dflt (decide)) (by k_dflt (rfl)) (by k_dflt (decide)) (by k_dflt (rfl)) (by k_dflt (rfl)) (by k_dflt (decide)) ?_ | refine ListComp_E (_F₀ := by k_asm) (by with_unfolding_all rfl) (by decide) (by rfl) (by decide) (by rfl) (by rfl) (by decide) ?_))))
  (k_with "call type:enumerate" => (k_here; k_dflt ((first | with_reducible refine en_callI n (by k_dflt (rfl)) (by k_dflt (k_asm)) (by k_dflt (k_asm)) (by k_dflt (k_mem)) (by k_dflt (assumption)) (by k_dflt (assumption)) (by k_dflt (omega)) ?_ ?_ | refine en_callI n (by rfl) (by k_asm) (by k_asm) (by k_mem) (by assumption) (by assumption) (by omega) ?_ ?_)); (all_goals (first | (intro g9 ys9 hys9; (show LCg.FinE _ _ _ _ _ _ _)) | (intro g9; unfold EnTurn; intro i9 x9 t9 e9 it9 C9 D9 oE9 oIt9 oC9 m9 ys9 h9 tk9 E9 hi9 hx9 hC9 ha9 hb9 F9 N9)))))
  (k_with "call ref" => (k_here; (with_reducible show wpAny _ _ (call (Value.ref 260) _) _ _ _); k_dflt (((with_reducible show wpAny _ _ (call (Value.ref 260) _) _ _ _); first | with_reducible refine deck (by k_dflt (k_asm)) (by k_dflt (k_asm)) (by k_dflt (k_asm)) (by k_dflt (k_asm)) (by k_dflt (k_asm)) (by k_dflt (first | exact rfl | assumption)) (by k_dflt (ktr_room)) (by k_dflt (ktr_units)) (by k_dflt (assumption)) (by k_dflt (assumption)) (by k_dflt (omega)) ?_ | refine deck (by k_asm) (by k_asm) (by k_asm) (by k_asm) (by k_asm) (by first | exact rfl | assumption) (by ktr_room) (by ktr_units) (by assumption) (by assumption) (by omega) ?_); k_whole); intro dD9 lL9 oD9 vs9 nn9 h9 tk9 hD9 hlo9 hl9 hn9 hn8 F9 N9; (replace hn9 := allNeB_of hn9); (simp only [AllNeB, and_true] at hn9); (repeat ((have hNe9 := And.left hn9); (replace hn9 := And.right hn9))); (replace hn8 := allNeB_of hn8); (simp only [AllNeB, and_true] at hn8); (repeat ((have hNe9 := And.left hn8); (replace hn8 := And.right hn8))); (try dsimp only); (try k_fold)))
  (k_with "call ref" => (k_here; (with_reducible show wpAny _ _ (call (Value.ref 267) _) _ _ _); k_dflt (((with_reducible show wpAny _ _ (call (Value.ref 267) _) _ _ _); first | with_reducible refine drawW (by k_dflt (k_asm)) (by k_dflt (k_asm)) (by k_dflt (k_asm)) (by k_dflt (k_asm)) (by k_dflt (assumption)) (by k_dflt ((repeat' (first | (apply Pick.head; k_all) | (apply Pick.tail; focus k_ne))))) (by k_dflt ((repeat' (first | (apply Pick.head; k_all) | (apply Pick.tail; focus k_ne))))) (by k_dflt (k_asm)) (by k_dflt (first | exact rfl | assumption)) (by k_dflt (ktr_room)) (by k_dflt (ktr_units)) (by k_dflt (assumption)) (by k_dflt (first | assumption | omega)) (by k_dflt (decide)) (by k_dflt (decide)) ?_ | refine drawW (by k_asm) (by k_asm) (by k_asm) (by k_asm) (by assumption) (by (repeat' (first | (apply Pick.head; k_all) | (apply Pick.tail; focus k_ne)))) (by (repeat' (first | (apply Pick.head; k_all) | (apply Pick.tail; focus k_ne)))) (by k_asm) (by first | exact rfl | assumption) (by ktr_room) (by ktr_units) (by assumption) (by first | assumption | omega) (by decide) (by decide) ?_); k_whole); intro r9 t9 h9 tk9 oD9 vs9 nn9 hr0 hr1 hD9 F9 N9; (try dsimp only); (try k_fold)))
  (k_with "call type:range" => (k_here; k_dflt ((first | with_reducible refine range1_rows (by k_dflt (k_asm)) (by k_dflt (k_asm)) ?_ | refine range1_rows (by k_asm) (by k_asm) ?_)); intro h9 tk9 t9 u9 v9 hr9 F9 N9 _))
  (k_with "subscriptTail" => (k_here; (with_reducible show wpAny _ _ (subscriptTail _ _ (Value.ref _) (Value.int _ _)) _ _ _); k_dflt (first | ((first | with_reducible refine menu_K (by k_dflt (k_asm)) (by k_dflt (k_mem)) (by k_dflt (exact .cons _ _ (.cons _ _ (.cons _ _ (.cons _ _ (.cons _ _ (.cons _ _ .nil))))))) (by k_dflt (omega)) (by k_dflt ((simp only [List.length_cons, List.length_nil]; omega))) (by k_dflt (exact Nat.le_of_ble_eq_true rfl)) 0 9223372036854775808 (by k_dflt (decide +kernel)) ?_ | refine menu_K (by k_asm) (by k_mem) (by exact .cons _ _ (.cons _ _ (.cons _ _ (.cons _ _ (.cons _ _ (.cons _ _ .nil)))))) (by omega) (by (simp only [List.length_cons, List.length_nil]; omega)) (by exact Nat.le_of_ble_eq_true rfl) 0 9223372036854775808 (by decide +kernel) ?_)) | ((first | with_reducible refine menu_K (by k_dflt (k_asm)) (by k_dflt (k_mem)) (by k_dflt (exact .cons _ _ (.cons _ _ (.cons _ _ (.cons _ _ .nil))))) (by k_dflt (omega)) (by k_dflt ((simp only [List.length_cons, List.length_nil]; omega))) (by k_dflt (exact Nat.le_of_ble_eq_true rfl)) 0 7 (by k_dflt (decide +kernel)) ?_ | refine menu_K (by k_asm) (by k_mem) (by exact .cons _ _ (.cons _ _ (.cons _ _ (.cons _ _ .nil)))) (by omega) (by (simp only [List.length_cons, List.length_nil]; omega)) (by exact Nat.le_of_ble_eq_true rfl) 0 7 (by decide +kernel) ?_))); intro p9 t9 hp9; (try dsimp only)))
  (k_with "binaryOp Pow int int" => (k_here; (first | with_reducible refine pow31 ?_ | with_reducible refine pow63 ?_ | with_reducible refine pow40 ?_)))
  (k_with "call builtin:list.append" => (k_here; k_dflt ((first | with_reducible refine app_K (by k_dflt (k_asm)) (by k_dflt (k_asm)) (by k_dflt (k_updF)) (by k_dflt (omega)) ?_ | refine app_K (by k_asm) (by k_asm) (by k_updF) (by omega) ?_)); intro h' F' N'; (try dsimp only at N'); (try dsimp only)))
  (k_with "noteFrame ref" => (k_here; (rename RaisedS _ _ _ _ _ _ _ _ _ => rkX); (rename KtsDicts _ _ => dkX); k_dflt ((first | with_reducible refine caught_SO0 (KF := Mine.hd.heap_1 _) (C := 64) rkX (by k_dflt (assumption)) (by k_dflt (assumption)) (by k_dflt (assumption)) (by k_dflt (assumption)) (by k_dflt (assumption)) dkX KtsTurn.refl (by k_dflt (k_is)) (by k_dflt (decide +kernel)) ?_ (by k_dflt (exact rfl)) (by k_dflt (exact rfl)) (by k_dflt (decide)) (by k_dflt (passes_own)) | refine caught_SO0 (KF := Mine.hd.heap_1 _) (C := 64) rkX (by assumption) (by assumption) (by assumption) (by assumption) (by assumption) dkX KtsTurn.refl (by k_is) (by decide +kernel) ?_ (by exact rfl) (by exact rfl) (by decide) (by passes_own)); k_whole); intro h' g9 n9 T9 F' N' G9 N9 B' X' P' D'; (clear N9 G9 N'); (have N' := (News.nil : News g9 _ h' []))))
  (k_with "call ref" => (k_here; (with_reducible show wpAny _ _ (call (Value.ref 251) _) _ _ _); k_dflt (((with_reducible show wpAny _ _ (call (Value.ref 251) _) _ _ _); first | with_reducible refine init_ (by k_dflt (k_asm)) (by k_dflt (k_asm)) (by k_dflt (k_asm)) (by k_dflt (k_asm)) (by k_dflt (first | exact rfl | assumption)) (by k_dflt (ktr_room)) (by k_dflt (ktr_units)) (by k_dflt (k_asm)) (by k_dflt (exact News.nil)) (by k_dflt (exact (fun _ h9 => nomatch h9))) (by k_dflt (assumption)) (by k_dflt (assumption)) (by k_dflt (assumption)) (by k_dflt (assumption)) (by k_dflt (assumption)) (by k_dflt (assumption)) (by k_dflt (assumption)) (by k_dflt (assumption)) (by k_dflt (assumption)) (by k_dflt (assumption)) (by k_dflt (assumption)) (by k_dflt (assumption)) (by k_dflt (assumption)) (by k_dflt (assumption)) (by k_dflt (assumption)) (by k_dflt (assumption)) ?_ ?_ | refine init_ (by k_asm) (by k_asm) (by k_asm) (by k_asm) (by first | exact rfl | assumption) (by ktr_room) (by ktr_units) (by k_asm) (by exact News.nil) (by exact (fun _ h9 => nomatch h9)) (by assumption) (by assumption) (by assumption) (by assumption) (by assumption) (by assumption) (by assumption) (by assumption) (by assumption) (by assumption) (by assumption) (by assumption) (by assumption) (by assumption) (by assumption) (by assumption) ?_ ?_); k_whole)))
  (k_with "call ref" => (k_here; (with_reducible show wpAny _ _ (call (Value.ref 277) _) _ _ _); k_dflt (((with_reducible show wpAny _ _ (call (Value.ref 277) _) _ _ _); first | with_reducible refine octW (by k_dflt (k_asm)) (by k_dflt (k_asm)) (by k_dflt (k_asm)) (by k_dflt (k_asm)) (by k_dflt (first | exact rfl | assumption)) (by k_dflt (ktr_room)) (by k_dflt (ktr_units)) (by k_dflt (k_asm)) (by k_dflt ((repeat' (first | (apply Pick.head; k_all) | (apply Pick.tail; focus k_ne))))) (by k_dflt ((repeat' (first | (apply Pick.head; k_all) | (apply Pick.tail; focus k_ne))))) (by k_dflt ((repeat' (first | (apply Pick.head; k_all) | (apply Pick.tail; focus k_ne))))) (by k_dflt ((repeat' (first | (apply Pick.head; k_all) | (apply Pick.tail; focus k_ne))))) (by k_dflt (assumption)) (by k_dflt (assumption)) (by k_dflt (assumption)) (by k_dflt (omega)) (by k_dflt (omega)) (by k_dflt (assumption)) (by k_dflt (assumption)) ?_ | refine octW (by k_asm) (by k_asm) (by k_asm) (by k_asm) (by first | exact rfl | assumption) (by ktr_room) (by ktr_units) (by k_asm) (by (repeat' (first | (apply Pick.head; k_all) | (apply Pick.tail; focus k_ne)))) (by (repeat' (first | (apply Pick.head; k_all) | (apply Pick.tail; focus k_ne)))) (by (repeat' (first | (apply Pick.head; k_all) | (apply Pick.tail; focus k_ne)))) (by (repeat' (first | (apply Pick.head; k_all) | (apply Pick.tail; focus k_ne)))) (by assumption) (by assumption) (by assumption) (by omega) (by omega) (by assumption) (by assumption) ?_); k_whole); intro oc9 cc9 t9 t8 oK9 h9 tk9 hc9 ho9 hK9 F9 N9; (try dsimp only); (try k_fold)))
  (k_with "call ref" => (k_here; (with_reducible show wpAny _ _ (call (Value.ref 284) _) _ _ _); k_dflt (((with_reducible show wpAny _ _ (call (Value.ref 284) _) _ _ _); first | with_reducible refine readW (by k_dflt (k_asm)) (by k_dflt (k_asm)) (by k_dflt (k_asm)) (by k_dflt (k_asm)) (by k_dflt (first | exact rfl | assumption)) (by k_dflt (ktr_room)) (by k_dflt (ktr_units)) (by k_dflt (k_asm)) (by k_dflt ((repeat' (first | (apply Pick.head; k_all) | (apply Pick.tail; focus k_ne))))) (by k_dflt ((repeat' (first | (apply Pick.head; k_all) | (apply Pick.tail; focus k_ne))))) (by k_dflt ((repeat' (first | (apply Pick.head; k_all) | (apply Pick.tail; focus k_ne))))) (by k_dflt (assumption)) (by k_dflt (assumption)) (by k_dflt (assumption)) (by k_dflt (assumption)) (by k_dflt (omega)) (by k_dflt (omega)) (by k_dflt (assumption)) (by k_dflt (assumption)) (by k_dflt (assumption)) ?_ ?_ | refine readW (by k_asm) (by k_asm) (by k_asm) (by k_asm) (by first | exact rfl | assumption) (by ktr_room) (by ktr_units) (by k_asm) (by (repeat' (first | (apply Pick.head; k_all) | (apply Pick.tail; focus k_ne)))) (by (repeat' (first | (apply Pick.head; k_all) | (apply Pick.tail; focus k_ne)))) (by (repeat' (first | (apply Pick.head; k_all) | (apply Pick.tail; focus k_ne)))) (by assumption) (by assumption) (by assumption) (by assumption) (by omega) (by omega) (by assumption) (by assumption) (by assumption) ?_ ?_); k_whole); (all_goals (first | (intro x9 dx9 lF9 lC9 lI9 lP9 vF9 vI9 vP9 nF9 nP9 vS9 tO9 t29 tv9 tn9 k09 k19 k29 k39 k49 k59 k69 k79 k89 k99 h9 tk9 hf9 F9 N9 hx9 hvF9 hR9 hvP9; (refine apart_arr hx9 ?_); (dsimp only [ArrN, ArrA]); intros; (try dsimp only); (try k_fold)) | (intro h9 tk9 hf9 F9 N9; (try dsimp only); (try k_fold))))))
  (k_with "call ref" => (k_here; (with_reducible show wpAny _ _ (call (Value.ref 227) _) _ _ _); k_dflt (((with_reducible show wpAny _ _ (call (Value.ref 227) _) _ _ _); first | with_reducible refine offatW (by k_dflt (k_asm)) (by k_dflt (k_asm)) (by k_dflt (k_asm)) (by k_dflt (k_asm)) (by k_dflt (first | exact rfl | assumption)) (by k_dflt (ktr_room)) (by k_dflt (ktr_units)) (by k_dflt (k_asm)) (by k_dflt (k_mem)) (by k_dflt (k_mem)) (by k_dflt (k_mem)) (by k_dflt (k_mem)) (by k_dflt (k_mem)) (by k_dflt ((repeat' (first | exact Sift.nil | (apply Sift.drop; focus k_mem) | (apply Sift.keep; focus ((simp only [AllNeB, and_true]); refine ⟨?_, ?_, ?_, ?_, ?_⟩ <;> k_ne)))))) (by k_dflt (omega)) (by k_dflt (omega)) (by k_dflt (omega)) (by k_dflt (omega)) (by k_dflt (assumption)) (by k_dflt (omega)) ?_ | refine offatW (by k_asm) (by k_asm) (by k_asm) (by k_asm) (by first | exact rfl | assumption) (by ktr_room) (by ktr_units) (by k_asm) (by k_mem) (by k_mem) (by k_mem) (by k_mem) (by k_mem) (by (repeat' (first | exact Sift.nil | (apply Sift.drop; focus k_mem) | (apply Sift.keep; focus ((simp only [AllNeB, and_true]); refine ⟨?_, ?_, ?_, ?_, ?_⟩ <;> k_ne))))) (by omega) (by omega) (by omega) (by omega) (by assumption) (by omega) ?_); k_whole); intro t9 h9 tk9 F9 N9; (try dsimp only); (try k_fold)))
  (k_with "call ref" => (k_here; (with_reducible show wpAny _ _ (call (Value.ref 213) _) _ _ _); k_dflt (((with_reducible show wpAny _ _ (call (Value.ref 213) _) _ _ _); first | with_reducible refine findW (by k_dflt (k_asm)) (by k_dflt (k_asm)) (by k_dflt (k_asm)) (by k_dflt (k_asm)) (by k_dflt (first | exact rfl | assumption)) (by k_dflt (ktr_room)) (by k_dflt (ktr_units)) (by k_dflt (k_asm)) (by k_dflt (k_mem)) (by k_dflt (k_mem)) (by k_dflt (k_mem)) (by k_dflt (k_mem)) (by k_dflt (k_mem)) (by k_dflt ((repeat' (first | exact Sift.nil | (apply Sift.drop; focus k_mem) | (apply Sift.keep; focus ((simp only [AllNeB, and_true]); refine ⟨?_, ?_, ?_, ?_, ?_⟩ <;> k_ne)))))) (by k_dflt (omega)) (by k_dflt (omega)) (by k_dflt (omega)) (by k_dflt (omega)) (by k_dflt (assumption)) (by k_dflt (omega)) (by k_dflt (assumption)) (by k_dflt (assumption)) (by k_dflt (exact k_ids)) (by k_dflt (assumption)) ?_ | refine findW (by k_asm) (by k_asm) (by k_asm) (by k_asm) (by first | exact rfl | assumption) (by ktr_room) (by ktr_units) (by k_asm) (by k_mem) (by k_mem) (by k_mem) (by k_mem) (by k_mem) (by (repeat' (first | exact Sift.nil | (apply Sift.drop; focus k_mem) | (apply Sift.keep; focus ((simp only [AllNeB, and_true]); refine ⟨?_, ?_, ?_, ?_, ?_⟩ <;> k_ne))))) (by omega) (by omega) (by omega) (by omega) (by assumption) (by omega) (by assumption) (by assumption) (by exact k_ids) (by assumption) ?_); k_whole); intro t9 h9 tk9 F9 N9; (try dsimp only); (try k_fold)))
  (k_with "eval ListComp" => (k_here; (with_reducible show wpAny _ _ (eval (PySem.Expr.ListComp _ [⟨PySem.Expr.Name _ _, _, [], _⟩] _ _) _) _ _ _); k_dflt ((first | with_reducible refine LCg.ListComp_U (F₀ := by k_dflt (k_asm)) (by k_dflt (with_unfolding_all rfl)) (by k_dflt (decide)) (by k_dflt (rfl)) (by k_dflt (decide)) (by k_dflt (rfl)) ?_ | refine LCg.ListComp_U (F₀ := by k_asm) (by with_unfolding_all rfl) (by decide) (by rfl) (by decide) (by rfl) ?_))))
  (k_with "CompSrc" => (k_here; k_dflt ((first | with_reducible refine LCg.CompSrc.range (by k_dflt (rfl)) (by k_dflt (k_asm)) (by k_dflt (k_asm)) (by k_dflt (assumption)) (by k_dflt (first | exact small_one (by omega) (by omega) (by omega) (by omega) | decide)) (by k_dflt (first | exact rangeSize_nat _ _ | rfl)) (by k_dflt (rw [PySem.sizeLine_eq]; omega)) ?_ | refine LCg.CompSrc.range (by rfl) (by k_asm) (by k_asm) (by assumption) (by first | exact small_one (by omega) (by omega) (by omega) (by omega) | decide) (by first | exact rangeSize_nat _ _ | rfl) (by rw [PySem.sizeLine_eq]; omega) ?_)); intro g'; refine hold ?_))
  (k_with "call builtin:len" => (k_here; (with_reducible show wpAny _ _ (call (Value.builtin "len") [Value.ref _]) _ _ _); k_dflt ((first | with_reducible refine len_B (by k_dflt (k_asm)) (by k_dflt (k_mem)) (by k_dflt (with_reducible assumption)) (by k_dflt (with_reducible assumption)) ?_ | refine len_B (by k_asm) (by k_mem) (by with_reducible assumption) (by with_reducible assumption) ?_)); (try dsimp only)))
  trivial
theorem wordsSLwc : True := by
  (k_with "exec For Name Call cons nil" => (k_here; (with_reducible show wpAny _ _ (exec (Stmt.For _ _ _ _ _) _) _ _ _); k_dflt ((first | with_reducible refine For_invTF (by k_dflt (k_asm)) ?_ (fun _ => rfl) | refine For_invTF (by k_asm) ?_ (fun _ => rfl)))))
  trivial

theorem wordsSLwd : True := by
  (k_with "pyIter ref" => ((with_reducible show wpAny _ _ (pyIter _) _ _ _); refine hold ?_))
  trivial

theorem wordsSLwe : True := by
  (k_with "CompEnd" => refine hold ?_)
  trivial

theorem wordsSLwf : True := by
  (k_with "execs cons" => (k_here; (with_reducible show wpAny _ _ (execs (Stmt.If (PySem.Expr.BoolOp PySem.BoolOp.Or (PySem.Expr.Compare (PySem.Expr.BinOp _ _ _ _) _ _ _ :: _) _) _ _ _ :: _) _) _ _ _); refine hold ?_))
  trivial

local macro_rules | `(tactic| k_qdec) => `(tactic| decide +kernel)
theorem nil_of {h₀ h : Heap} {L : Addr} {m : Str → Option Value} (_ : Fr h₀ L h m) : News h₀ L h [] := News.nil
theorem post_true (args : List WData) : (PySem.Challenge.rw_nt0280_01.row.toRowW.claim).post args (.bool true) args = true :=
  postW_of (r := PySem.Challenge.rw_nt0280_01.row.toRowW) rfl (w_eq_bool (w_res rfl) w_lit) rfl
theorem raises_none (args : List WData) (cls : ExcName) : (PySem.Challenge.rw_nt0280_01.row.toRowW.claim).raises args cls = false := rfl
theorem law_holds : PySem.Challenge.rw_nt0280_01.Holds := by
  refine hd (by
    k_go0
    w_strict (repeat' (first | (k_unfold; (try dsimp only)) | walk1 | (dsimp only; walk1) | (leave1; try dsimp only) | (dsimp only; k_unfold; (try dsimp only)) | ((with_reducible show InitBack _ _ _ _); dsimp only [InitBack]; refine ⟨rfl, ?_⟩; (try dsimp only)) | fail "no step"))
    unfold Hold
    refine iter_places (Str.ofString "go") (Str.ofString "place") rfl (by assumption) (Int.toNat_of_nonneg (by omega)).symm (by omega) (by k_asm) (by k_asm) (by assumption) rfl ?_ ?_
    · intro i t u1 u2 I oI oD dv dn vs nn ps s₁ hi hD' hi' hp' hoff F1 N1
      have hl1 := hi'.length
      have hl2 := hp'.2.2.1
      refine arrB hoff ?_
      dsimp only [ArrA]
      intros
      (try dsimp only [Mid2] at F1)
      w_strict (repeat' (first | (k_unfold; (try dsimp only)) | walk1 | (dsimp only; walk1) | (leave1; try dsimp only) | (dsimp only; k_unfold; (try dsimp only)) | ((with_reducible show InitBack _ _ _ _); dsimp only [InitBack]; refine ⟨rfl, ?_⟩; (try dsimp only)) | fail "no step"))
      · refine' TurnP.snoc ?aH ?aD ?aF ?aN ?aI ?aP ?a0 ?aM
        case aH => assumption
        case aD => assumption
        case aI => exact hi'
        case aP => exact hp'
        case a0 => assumption
        case aF => k_asm
        case aN => exact cb_drop (by k_asm) (by kcf_all)
        case aM => intro y h1 h2; simp only [Mid2, if_neg h1, if_neg h2]
      · refine' TurnP.intro ?bF ?bN ?bD ?bI ?bP ?bM
        case bD => assumption
        case bI => exact hi'
        case bP => exact hp'.same (by assumption)
        case bF => k_asm
        case bN => exact cb_drop (by k_asm) (by kcf_all)
        case bM => intro y h1 h2; simp only [Mid2, if_neg h1, if_neg h2]
    · intro h' tk u1 u2 oD dv dn vs nn ps hD' hi' hp' F1 N1
      have hl1 := hi'.length
      have hl2 := hp'.2.2.1
      (try dsimp only [Mid2] at F1)
      have hb5 := bytes_of_str (by assumption)
      have hnd5 := hp'.1
      have hmx5 := hp'.2.1
      have hlt5 : ps.length < 2 ^ 62 := by omega
      have hle5 : ps.length ≤ 3 := by omega
      have hge5 : 1 ≤ ps.length := List.length_pos_iff.mpr (hp'.2.2.2 (by omega))
      w_strict (repeat' (first | (k_unfold; (try dsimp only)) | walk1 | (dsimp only; walk1) | (leave1; try dsimp only) | (dsimp only; k_unfold; (try dsimp only)) | ((with_reducible show InitBack _ _ _ _); dsimp only [InitBack]; refine ⟨rfl, ?_⟩; (try dsimp only)) | fail "no step"))
      all_goals (try dsimp only)
      · unfold Hold
        refine' LCg.CompEnd.intro (by assumption) (by assumption) _ ?sub1 ?off1 (.inr ⟨_, by k_mem, rfl, _, rfl⟩) (kci_el (if_pos (by assumption)) rfl rfl)
        case off1 => assumption
        case sub1 => kcf_all
      · unfold Hold
        refine' LCg.CompEnd.intro (by assumption) (by assumption) _ ?sub2 ?off2 (.inr ⟨_, by k_mem, rfl, _, rfl⟩) (kci_no (if_neg (by omega)) rfl)
        case off2 => assumption
        case sub2 => kcf_all
      · unfold Hold
        k_dflt (refine' tail_idx ?c1 ?c2 ?c3 ?c4 ?c5 ?c6 ?c7 ?c8 ?c9 ?d1 ?d2 ?d3 ?d4 ?d5 ?d6 ?d7 ?d8 ?d9 ?e1 ?e2 ?e3 ?e4 ?e5 ?e6 ?_)
        case c1 => rfl
        case c2 => rfl
        case c3 => k_asm
        case c4 => k_asm
        case c5 => k_asm
        case c6 => k_asm
        case c7 => ktr_room
        case c8 => ktr_units
        case c9 => rfl
        case d1 => rfl
        case d2 => rfl
        case d3 => exact cb_drop (by k_asm) (by kcf_all)
        case d4 => exact arr5_mk (by k_ne) (by k_ne) (by k_ne) (by k_ne) (by k_ne)
        case d5 => exact arr5_mk (by k_ne) (by k_ne) (by k_ne) (by k_ne) (by k_ne)
        case d6 => exact (Nat.ne_of_gt (by assumption))
        case d7 => assumption
        case d8 => assumption
        case d9 => assumption
        case e1 => assumption
        case e2 => assumption
        case e3 => assumption
        case e4 => assumption
        case e5 => assumption
        case e6 => assumption
        intro h8 tk8 F8
        have N8 := nil_of F8
        w_strict (repeat' (first | (k_unfold; (try dsimp only)) | walk1 | (dsimp only; walk1) | (leave1; try dsimp only) | (dsimp only; k_unfold; (try dsimp only)) | ((with_reducible show InitBack _ _ _ _); dsimp only [InitBack]; refine ⟨rfl, ?_⟩; (try dsimp only)) | fail "no step"))
        exact goodW_bool (by k_asm) (by assumption) (raises_none _) (post_true _)
      · unfold Hold
        k_dflt (refine' tail_none ?c1 ?c2 ?c3 ?c4 ?c5 ?c6 ?c7 ?c8 ?c9 ?d1 ?d2 ?d3 ?d7 ?d8 ?d9 ?e1 ?_)
        case c1 => rfl
        case c2 => rfl
        case c3 => k_asm
        case c4 => k_asm
        case c5 => k_asm
        case c6 => k_asm
        case c7 => ktr_room
        case c8 => ktr_units
        case c9 => rfl
        case d1 => rfl
        case d2 => rfl
        case d3 => exact cb_drop (by k_asm) (by kcf_all)
        case d7 => assumption
        case d8 => assumption
        case d9 => assumption
        case e1 => assumption
        intro h8 tk8 F8
        have N8 := nil_of F8
        w_strict (repeat' (first | (k_unfold; (try dsimp only)) | walk1 | (dsimp only; walk1) | (leave1; try dsimp only) | (dsimp only; k_unfold; (try dsimp only)) | ((with_reducible show InitBack _ _ _ _); dsimp only [InitBack]; refine ⟨rfl, ?_⟩; (try dsimp only)) | fail "no step"))
        exact goodW_bool (by k_asm) (by assumption) (raises_none _) (post_true _)
      · exact gG_grows)

end

end Mine
theorem PySem.Challenge.cw_nt0280_01_holds : PySem.Challenge.rw_nt0280_01.Holds := by
  exact Mine.law_holds
