import PyProof.Rows.All
import Wide.All
import OpenK.AllK
import Wide.FinOn
import Lean
import PySem.Challenge.RW_on0362_01
open PySem PySem.W PyProof.Rows
set_option Elab.async false
set_option maxRecDepth 100000
set_option maxHeartbeats 0
set_option linter.unusedVariables false
set_option compiler.extract_closed false
namespace Mine
noncomputable def pick (i : Nat) : Stmt := (PySem.Challenge.pw_on0362_01.main.body.drop i).headD (.Pass default)
noncomputable def view : Program := { PySem.Challenge.pw_on0362_01 with main := { PySem.Challenge.pw_on0362_01.main with body :=
  [pick 1, pick 2, pick 3, pick 4, pick 5, pick 6, pick 7, pick 9, pick 10, pick 11, pick 12, pick 13, pick 14, pick 15, pick 16, pick 18, pick 19, pick 20, pick 21,
   pick 23, pick 24, pick 25, pick 26, pick 27, pick 28, pick 29] } }
local macro_rules | `(tactic| o_head $H) => do
  let hw := Lean.mkIdent `hw
  let hc := Lean.mkIdent `hc
  `(tactic| (
    refine holds_open (q := view) (loose := [Str.ofString "UniError"])
      (Xt := fun s => xlAt view [] s && recOk (RowW.records (OpenRow.toRowW (OpenLaw.row PySem.Challenge.rw_on0362_01))) s) (XP := XL view [])
      (Yf := Hook.obs $H) (Ya := Hook.val $H) (YP := Hook.says $H) (N := 3372) ?hl (Hook.of $H) (Hook.keeps $H)
      (fun s e => xl_of s (Bool.and_eq_true_iff.mp e).1) XL.keeps (by rfl) (by rfl) (by rfl)
      (fun s e => recFacts_of (Bool.and_eq_true_iff.mp e).2) (by rfl) (by assumption) (by decide +kernel)
      ⟨rfl, rfl, rfl, rfl, rfl, by decide +kernel⟩ ?$hw ?$hc
    case hl => (intro w; kernel_rfl)))
open_top hd for PySem.Challenge.rw_on0362_01

end Mine
theorem Mine.topOff : True := by
  w_top off
  trivial
namespace Mine
section
theorem flushD1 {M : Model} {A : Around} {env : Env} {Q : Flow → Shared → Prop} {E : Value → Shared → Prop} {s : Shared} (h : wpAny M A (execs [] env) Q E s) : wpAny M A (execs [] env) Q E s := by
  first | (walk1; fail "flush") | exact h
theorem fill (P : Params) : PySem.Challenge.rw_on0362_01.prog = PySem.Challenge.rw_on0362_01.prog ∧ hd.heap_39 P = hd.heap_39 P := by
  k_fill
  exact ⟨rfl, rfl⟩

local macro_rules | `(tactic| k_room) => `(tactic| (simp only [Around.deeper, Around.in1, Around.mark] <;> omega))
local macro_rules | `(tactic| k_units) => `(tactic| (simp only [Around.deeper, Around.in1, Around.mark, cLine] <;> omega))

local macro_rules | `(tactic| k_all) => `(tactic| assumption)
theorem draw1 {w : World} {A₀ : Around} {d u : Nat} {gs : List Code} {base h₀ : Heap} {outer : List Env} {env : Env} {mg mb : Str → Option Value} {mean : ExcName → Option Value}
    {L : Addr} {m : Str → Option Value} {news : List (Addr × Obj)} {s : Shared} {wl cl : Addr} {vs : List Value} {kk : Nat} {ns : List Int} {sp st : Int} {t1 t2 tb : Tok} {below : Int} {Q : Value → Shared → Prop} {E : Value → Shared → Prop}
    (B : Below A₀ base outer h₀) (F : Fr h₀ L s.heap m)
    (N : News h₀ L s.heap ((wl, listOf #[.ref cl, .int sp t1, .int st t2] 0) :: (cl, listOf vs.toArray kk) :: news))
    (X : (hd.heap_39 w.params).In h₀) (T : Top view (looseW view [Str.ofString "UniError"]) mean mg mb h₀)
    (hf : env.frame = some L) (hk : env.scope.kind = .function) (hroom : d < 900) (hu : u < 9000)
    (hi : IntsAre vs ns) (hlen : ns.length ≤ 63) (hns : ∀ n ∈ ns, 0 ≤ n ∧ n < 2147483647)
    (hsp : 0 ≤ sp ∧ sp < 1000) (hst : 0 ≤ st ∧ st < 2147483647) (hb : 0 < below ∧ below < 1000)
    (hne : @Ne Nat wl cl) (hwn : ∀ p ∈ news, p.1 ≠ wl)
    (h : ∀ h' tk v sp' st' t t1' t2', 0 ≤ v → v < below → sp' = sp + 1 → 0 ≤ st' → st' < 2147483647 → Fr h₀ L h' m → News h₀ L h' ((wl, listOf #[.ref cl, .int sp' t1', .int st' t2'] 0) :: (cl, listOf vs.toArray kk) :: news) → Q (.int v t) { s with heap := h', toks := tk }) :
    wpAny (model PySem.Challenge.rw_on0362_01.row.prog w) ⟨none, d, some (env :: outer), some gs, u⟩ (call (.ref 202) [.ref wl, .int below tb]) Q E s := by
  refine wpAny_call ?_
  refine' code_def B F X N T rfl hf hk ?k6 ?k7 ?k8 ?k9 ?kB ?_ ?c2 ?c3 ?c4 ?c5
  case k6 => k_is
  case k7 => k_is
  case k8 => simp only [recursionLimit]; omega
  case k9 => exact BindsTo.of_eq rfl
  case kB => exact locs rfl
  case c2 => rfl
  case c3 => rfl
  case c4 => rfl
  case c5 => decide
  clear B F X N T
  intro g' L' h' FG' F' N' B' X' T'
  dsimp only
  k_steps
  all_goals (
    dsimp only
    rename Fr _ _ _ _ => F'
    rename News _ _ _ _ => N'
    refine leaveK_ F' N' ?_
    intro kF kN
    refine h _ _ _ _ _ _ _ _ ?_ ?_ rfl ?_ ?_ kF (fun p hp => kN p (.tail _ hp))
    · rw [Int.fmod_eq_emod_of_nonneg _ (by omega)]; exact Int.emod_nonneg _ (by omega)
    · rw [Int.fmod_eq_emod_of_nonneg _ (by omega)]; exact Int.emod_lt_of_pos _ (by omega)
    · rw [Int.fmod_eq_emod_of_nonneg _ (by omega)]; exact Int.emod_nonneg _ (by omega)
    · rw [Int.fmod_eq_emod_of_nonneg _ (by omega)]; exact Int.emod_lt_of_pos _ (by omega))

end
section
theorem flushD2 {M : Model} {A : Around} {env : Env} {Q : Flow → Shared → Prop} {E : Value → Shared → Prop} {s : Shared} (h : wpAny M A (execs [] env) Q E s) : wpAny M A (execs [] env) Q E s := by
  first | (walk1; fail "flush") | exact h
theorem fill2 (P : Params) : PySem.Challenge.rw_on0362_01.prog = PySem.Challenge.rw_on0362_01.prog ∧ hd.heap_39 P = hd.heap_39 P := by
  k_fill
  exact ⟨rfl, rfl⟩

local macro_rules | `(tactic| k_room) => `(tactic| (simp only [Around.deeper, Around.in1, Around.mark] <;> omega))
local macro_rules | `(tactic| k_units) => `(tactic| (simp only [Around.deeper, Around.in1, Around.mark, cLine] <;> omega))
local macro_rules | `(tactic| k_all) => `(tactic| assumption)

noncomputable abbrev wellO (cl : Addr) (sp st : Int) (t1 t2 : Tok) : Obj := listOf #[.ref cl, .int sp t1, .int st t2] 0

theorem draw2 {w : World} {A A₀ : Around} {d u : Nat} {gs : List Code} {base h₀ : Heap} {outer : List Env} {env : Env} {mg mb : Str → Option Value} {mean : ExcName → Option Value}
    {L : Addr} {m : Str → Option Value} {news : List (Addr × Obj)} {g : Obj → List (Addr × Obj)} {s : Shared} {wl cl : Addr} {vs : List Value} {kk : Nat} {ns : List Int} {sp st : Int} {t1 t2 tb : Tok} {below : Int} {Q : Value → Shared → Prop} {E : Value → Shared → Prop}
    (B : Below A₀ base outer h₀) (F : Fr h₀ L s.heap m)
    (N : News h₀ L s.heap news) (U : UpdF wl (wellO cl sp st t1 t2) news g) (hc : (cl, listOf vs.toArray kk) ∈ news)
    (X : (hd.heap_39 w.params).In h₀) (T : Top view (looseW view [Str.ofString "UniError"]) mean mg mb h₀)
    (hA : A = ⟨none, d, some (env :: outer), some gs, u⟩)
    (hf : env.frame = some L) (hk : env.scope.kind = .function) (hroom : d < 900) (hu : u < 9000)
    (hi : IntsAre vs ns) (hlen : ns.length ≤ 63) (hns : ∀ n ∈ ns, 0 ≤ n ∧ n < 2147483647)
    (hsp : 0 ≤ sp ∧ sp < 1000) (hst : 0 ≤ st ∧ st < 2147483647) (hb : 0 < below ∧ below < 1000)
    (hne : @Ne Nat wl cl)
    (h : ∀ h' tk v st' t t1' t2', 0 ≤ v → v < below → 0 ≤ st' → st' < 2147483647 → Fr h₀ L h' m → News h₀ L h' (g (wellO cl (sp + 1) st' t1' t2')) → Q (.int v t) { s with heap := h', toks := tk }) :
    wpAny (model PySem.Challenge.rw_on0362_01.row.prog w) A (call (.ref 202) [.ref wl, .int below tb]) Q E s := by
  subst hA
  obtain ⟨pre, post, rfl, hg, a, b⟩ := U.split
  refine draw1 (news := pre ++ post) (vs := vs) (kk := kk) (t1 := t1) (t2 := t2) B F ?_ X T hf hk hroom hu hi hlen hns hsp hst hb hne ?_ ?_
  · intro p hp
    rcases List.mem_cons.mp hp with rfl | hp
    · exact N _ (List.mem_append_right _ (.head _))
    · rcases List.mem_cons.mp hp with rfl | hp
      · exact N _ hc
      · rcases List.mem_append.mp hp with q | q
        · exact N _ (List.mem_append_left _ q)
        · exact N _ (List.mem_append_right _ (.tail _ q))
  · intro p hp
    rcases List.mem_append.mp hp with q | q
    · exact a p q
    · exact b p q
  · intro h' tk v sp' st' t t1' t2' h1 h2 h3 h4 h5 F' N'
    subst h3
    refine h h' tk v st' t t1' t2' h1 h2 h4 h5 F' ?_
    rw [hg]
    intro p hp
    rcases List.mem_append.mp hp with q | q
    · exact N' p (.tail _ (.tail _ (List.mem_append_left _ q)))
    · rcases List.mem_cons.mp q with rfl | q
      · exact N' _ (.head _)
      · exact N' p (.tail _ (.tail _ (List.mem_append_right _ q)))

local macro_rules | `(tactic| walk_at "call ref") => `(tactic| (
  k_here
  refine' draw2 ?k1 ?k2 ?k3 ?k4 ?k5 ?k6 ?k7 rfl ?k8 ?k9 ?k10 ?k11 ?k12 ?k13 ?k14 ?k15 ?k16 ?k17 ?k18 ?_
  case k1 | k2 | k3 => k_asm
  case k4 => k_updF
  case k5 => k_mem
  case k6 | k7 => k_asm
  case k8 | k9 => rfl
  case k10 | k11 => simp only [Around.deeper, Around.in1, Around.mark] <;> omega
  case k12 | k13 | k14 => assumption
  case k15 | k16 => omega
  case k17 => (first | omega | (simp only [List.size_toArray]; omega))
  case k18 => assumption
  k_whole
  intro h' tk' v' st' t' t1' t2' hv0' hv1' hst0' hst1' F' N'
  try dsimp only at N'))

local macro_rules | `(tactic| walk_at "call builtin:len") => `(tactic| (k_here; refine' len_tuple ?k1 ?k2 ?_; (case k1 => exact IsTup.keeps (by assumption) (Fr.keep (by assumption))); (case k2 => (simp only [List.size_toArray]; omega)); k_whole))

theorem pick_K {w : World} {A₀ : Around} {d u : Nat} {gs : List Code} {base h₀ : Heap} {outer : List Env} {env : Env} {mg mb : Str → Option Value} {mean : ExcName → Option Value}
    {L : Addr} {m : Str → Option Value} {news : List (Addr × Obj)} {s : Shared} {wl cl ta : Addr} {vs xs : List Value} {kk : Nat} {ns : List Int} {sp st : Int} {t1 t2 : Tok} {Q : Value → Shared → Prop} {E : Value → Shared → Prop}
    (B : Below A₀ base outer h₀) (F : Fr h₀ L s.heap m)
    (N : News h₀ L s.heap ((wl, wellO cl sp st t1 t2) :: (cl, listOf vs.toArray kk) :: news)) (hwn : ∀ p ∈ news, p.1 ≠ wl)
    (X : (hd.heap_39 w.params).In h₀) (T : Top view (looseW view [Str.ofString "UniError"]) mean mg mb h₀)
    (hf : env.frame = some L) (hk : env.scope.kind = .function) (hroom : d < 890) (hu : u < 8900)
    (hi : IntsAre vs ns) (hlen : ns.length ≤ 63) (hns : ∀ n ∈ ns, 0 ≤ n ∧ n < 2147483647)
    (hsp : 0 ≤ sp ∧ sp < 1000) (hst : 0 ≤ st ∧ st < 2147483647)
    (hne : @Ne Nat wl cl) (hT : IsTup h₀ ta xs.toArray) (hx : 0 < xs.length ∧ xs.length < 1000)
    (h : ∀ h' tk v st' t1' t2', v ∈ xs → 0 ≤ st' → st' < 2147483647 → Fr h₀ L h' m → News h₀ L h' ((wl, wellO cl (sp + 1) st' t1' t2') :: (cl, listOf vs.toArray kk) :: news) → Q v { s with heap := h', toks := tk }) :
    wpAny (model PySem.Challenge.rw_on0362_01.row.prog w) ⟨none, d, some (env :: outer), some gs, u⟩ (call (.ref 209) [.ref wl, .ref ta]) Q E s := by
  refine wpAny_call ?_
  refine' code_def B F X N T rfl hf hk ?k6 ?k7 ?k8 ?k9 ?kB ?_ ?c2 ?c3 ?c4 ?c5
  case k6 => k_is
  case k7 => k_is
  case k8 => simp only [recursionLimit]; omega
  case k9 => exact BindsTo.of_eq rfl
  case kB => exact locs rfl
  case c2 => rfl
  case c3 => rfl
  case c4 => rfl
  case c5 => decide
  clear X N T
  intro g' L' h' FG' F' N' B' X' T'
  have hT' : IsTup g' ta xs.toArray := hT.keeps FG'.keep
  clear B F hT
  dsimp only
  k_steps
  rename Fr _ _ _ _ => F'
  rename News _ _ _ _ => N'
  rename_i v' st' t' _ _ hv0 hv1 hs0 hs1
  have hlt : v'.toNat < xs.length := by simp only [List.size_toArray] at hv1; omega
  refine item_tupleT (l := xs) (j := v'.toNat) (x := xs[v'.toNat]) (hT'.keeps F'.keep) (by omega) (by simp only [List.size_toArray] at hv1; omega) (seqIndex_at hv0 (by omega)) (by simp [hlt]) ?_
  refine leaveK_ F' N' ?_
  intro kF kN
  exact h _ _ _ _ _ _ (List.getElem_mem hlt) hs0 hs1 kF kN
local macro_rules | `(tactic| walk_at "call builtin:len") => `(tactic| (k_here; refine' len_tuple ?k1 ?k2 ?_; (case k1 => exact News.isTup (by assumption) (.tail _ (.tail _ (by assumption)))); (case k2 => (simp only [List.size_toArray]; omega)); k_whole))
theorem pick_N {w : World} {A₀ : Around} {d u : Nat} {gs : List Code} {base h₀ : Heap} {outer : List Env} {env : Env} {mg mb : Str → Option Value} {mean : ExcName → Option Value}
    {L : Addr} {m : Str → Option Value} {news : List (Addr × Obj)} {s : Shared} {wl cl ta : Addr} {vs xs : List Value} {kk : Nat} {ns : List Int} {sp st : Int} {t1 t2 : Tok} {Q : Value → Shared → Prop} {E : Value → Shared → Prop}
    (B : Below A₀ base outer h₀) (F : Fr h₀ L s.heap m)
    (N : News h₀ L s.heap ((wl, wellO cl sp st t1 t2) :: (cl, listOf vs.toArray kk) :: news)) (hwn : ∀ p ∈ news, p.1 ≠ wl)
    (X : (hd.heap_39 w.params).In h₀) (T : Top view (looseW view [Str.ofString "UniError"]) mean mg mb h₀)
    (hf : env.frame = some L) (hk : env.scope.kind = .function) (hroom : d < 890) (hu : u < 8900)
    (hi : IntsAre vs ns) (hlen : ns.length ≤ 63) (hns : ∀ n ∈ ns, 0 ≤ n ∧ n < 2147483647)
    (hsp : 0 ≤ sp ∧ sp < 1000) (hst : 0 ≤ st ∧ st < 2147483647)
    (hne : @Ne Nat wl cl) (hm : (ta, ({ cls := .type "tuple", data := .seq xs.toArray } : Obj)) ∈ news) (hx : 0 < xs.length ∧ xs.length < 1000)
    (h : ∀ h' tk v st' t1' t2', v ∈ xs → 0 ≤ st' → st' < 2147483647 → Fr h₀ L h' m → News h₀ L h' ((wl, wellO cl (sp + 1) st' t1' t2') :: (cl, listOf vs.toArray kk) :: news) → Q v { s with heap := h', toks := tk }) :
    wpAny (model PySem.Challenge.rw_on0362_01.row.prog w) ⟨none, d, some (env :: outer), some gs, u⟩ (call (.ref 209) [.ref wl, .ref ta]) Q E s := by
  refine wpAny_call ?_
  refine' code_def B F X N T rfl hf hk ?k6 ?k7 ?k8 ?k9 ?kB ?_ ?c2 ?c3 ?c4 ?c5
  case k6 => k_is
  case k7 => k_is
  case k8 => simp only [recursionLimit]; omega
  case k9 => exact BindsTo.of_eq rfl
  case kB => exact locs rfl
  case c2 => rfl
  case c3 => rfl
  case c4 => rfl
  case c5 => decide
  clear X N T
  intro g' L' h' FG' F' N' B' X' T'
  clear B F
  have hm' := hm
  dsimp only
  k_steps
  rename Fr _ _ _ _ => F'
  rename News _ _ _ _ => N'
  rename_i v' st' t' _ _ hv0 hv1 hs0 hs1
  have hlt : v'.toNat < xs.length := by simp only [List.size_toArray] at hv1; omega
  refine item_tupleT (l := xs) (j := v'.toNat) (x := xs[v'.toNat]) (News.isTup N' (.tail _ (.tail _ hm))) (by omega) (by simp only [List.size_toArray] at hv1; omega) (seqIndex_at hv0 (by omega)) (by simp [hlt]) ?_
  refine leaveK_ F' N' ?_
  intro kF kN
  exact h _ _ _ _ _ _ (List.getElem_mem hlt) hs0 hs1 kF kN

section
variable {w : World} {A A₀ : Around} {d u : Nat} {gs : List Code} {base h₀ : Heap} {outer : List Env} {env : Env} {mg mb : Str → Option Value} {mean : ExcName → Option Value}
    {L : Addr} {m : Str → Option Value} {news : List (Addr × Obj)} {g : Obj → List (Addr × Obj)} {s : Shared} {wl cl ta : Addr} {vs xs : List Value} {kk : Nat} {ns : List Int} {sp st : Int} {t1 t2 tb : Tok} {Q : Value → Shared → Prop} {E : Value → Shared → Prop}

theorem ledger_in {pre post : List (Addr × Obj)} {h : Heap} {o oc : Obj} (N : News h₀ L h (pre ++ (wl, o) :: post)) (hc : (cl, oc) ∈ pre ++ (wl, o) :: post) : News h₀ L h ((wl, o) :: (cl, oc) :: (pre ++ post)) := by
  intro p hp
  rcases List.mem_cons.mp hp with rfl | hp
  · exact N _ (List.mem_append_right _ (.head _))
  · rcases List.mem_cons.mp hp with rfl | hp
    · exact N _ hc
    · rcases List.mem_append.mp hp with q | q
      · exact N _ (List.mem_append_left _ q)
      · exact N _ (List.mem_append_right _ (.tail _ q))
theorem ledger_out {pre post : List (Addr × Obj)} {h : Heap} {o oc : Obj} (N : News h₀ L h ((wl, o) :: (cl, oc) :: (pre ++ post))) : News h₀ L h (pre ++ (wl, o) :: post) := by
  intro p hp
  rcases List.mem_append.mp hp with q | q
  · exact N p (.tail _ (.tail _ (List.mem_append_left _ q)))
  · rcases List.mem_cons.mp q with rfl | q
    · exact N _ (.head _)
    · exact N p (.tail _ (.tail _ (List.mem_append_right _ q)))

theorem pick_K2 (B : Below A₀ base outer h₀) (F : Fr h₀ L s.heap m)
    (N : News h₀ L s.heap news) (U : UpdF wl (wellO cl sp st t1 t2) news g) (hc : (cl, listOf vs.toArray kk) ∈ news)
    (X : (hd.heap_39 w.params).In h₀) (T : Top view (looseW view [Str.ofString "UniError"]) mean mg mb h₀)
    (hA : A = ⟨none, d, some (env :: outer), some gs, u⟩)
    (hf : env.frame = some L) (hk : env.scope.kind = .function) (hroom : d < 890) (hu : u < 8900)
    (hi : IntsAre vs ns) (hlen : ns.length ≤ 63) (hns : ∀ n ∈ ns, 0 ≤ n ∧ n < 2147483647)
    (hsp : 0 ≤ sp ∧ sp < 1000) (hst : 0 ≤ st ∧ st < 2147483647)
    (hne : @Ne Nat wl cl) (hT : IsTup h₀ ta xs.toArray) (hx : 0 < xs.length ∧ xs.length < 1000)
    (h : ∀ h' tk v st' t1' t2', v ∈ xs → 0 ≤ st' → st' < 2147483647 → Fr h₀ L h' m → News h₀ L h' (g (wellO cl (sp + 1) st' t1' t2')) → Q v { s with heap := h', toks := tk }) :
    wpAny (model PySem.Challenge.rw_on0362_01.row.prog w) A (call (.ref 209) [.ref wl, .ref ta]) Q E s := by
  subst hA
  obtain ⟨pre, post, rfl, hg, a, b⟩ := U.split
  refine pick_K (news := pre ++ post) (vs := vs) (kk := kk) (t1 := t1) (t2 := t2) B F (ledger_in N hc) (fun p hp => (List.mem_append.mp hp).elim (a p) (b p)) X T hf hk hroom hu hi hlen hns hsp hst hne hT hx ?_
  intro h' tk v st' t1' t2' h1 h4 h5 F' N'
  exact h h' tk v st' t1' t2' h1 h4 h5 F' (hg _ ▸ ledger_out N')

theorem pick_N2 (B : Below A₀ base outer h₀) (F : Fr h₀ L s.heap m)
    (N : News h₀ L s.heap news) (U : UpdF wl (wellO cl sp st t1 t2) news g) (hc : (cl, listOf vs.toArray kk) ∈ news)
    (X : (hd.heap_39 w.params).In h₀) (T : Top view (looseW view [Str.ofString "UniError"]) mean mg mb h₀)
    (hA : A = ⟨none, d, some (env :: outer), some gs, u⟩)
    (hf : env.frame = some L) (hk : env.scope.kind = .function) (hroom : d < 890) (hu : u < 8900)
    (hi : IntsAre vs ns) (hlen : ns.length ≤ 63) (hns : ∀ n ∈ ns, 0 ≤ n ∧ n < 2147483647)
    (hsp : 0 ≤ sp ∧ sp < 1000) (hst : 0 ≤ st ∧ st < 2147483647)
    (hne : @Ne Nat wl cl) (hm : (ta, ({ cls := .type "tuple", data := .seq xs.toArray } : Obj)) ∈ news) (hx : 0 < xs.length ∧ xs.length < 1000)
    (h : ∀ h' tk v st' t1' t2', v ∈ xs → 0 ≤ st' → st' < 2147483647 → Fr h₀ L h' m → News h₀ L h' (g (wellO cl (sp + 1) st' t1' t2')) → Q v { s with heap := h', toks := tk }) :
    wpAny (model PySem.Challenge.rw_on0362_01.row.prog w) A (call (.ref 209) [.ref wl, .ref ta]) Q E s := by
  subst hA
  obtain ⟨pre, post, rfl, hg, a, b⟩ := U.split
  have hm' : (ta, ({ cls := .type "tuple", data := .seq xs.toArray } : Obj)) ∈ pre ++ post := by
    rcases List.mem_append.mp hm with q | q
    · exact List.mem_append_left _ q
    · rcases List.mem_cons.mp q with q | q
      · injection q with _ q2; injection q2 with q3; injection q3 with q4; exact absurd q4 (by decide)
      · exact List.mem_append_right _ q
  refine pick_N (news := pre ++ post) (vs := vs) (kk := kk) (t1 := t1) (t2 := t2) B F (ledger_in N hc) (fun p hp => (List.mem_append.mp hp).elim (a p) (b p)) X T hf hk hroom hu hi hlen hns hsp hst hne hm' hx ?_
  intro h' tk v st' t1' t2' h1 h4 h5 F' N'
  exact h h' tk v st' t1' t2' h1 h4 h5 F' (hg _ ▸ ledger_out N')
end

end
local macro_rules | `(tactic| k_room) => `(tactic| (simp only [Around.deeper, Around.in1, Around.mark, depth_under_make, recursionLimit] <;> omega))
local macro_rules | `(tactic| k_units) => `(tactic| (simp only [Around.deeper, Around.in1, Around.mark, cLine] <;> omega))
local macro_rules | `(tactic| k_all) => `(tactic| assumption)
section
theorem flushD3 {M : Model} {A : Around} {env : Env} {Q : Flow → Shared → Prop} {E : Value → Shared → Prop} {s : Shared} (h : wpAny M A (execs [] env) Q E s) : wpAny M A (execs [] env) Q E s := by
  first | (walk1; fail "flush") | exact h
theorem fill3 (P : Params) : PySem.Challenge.rw_on0362_01.prog = PySem.Challenge.rw_on0362_01.prog ∧ hd.heap_39 P = hd.heap_39 P := by
  k_fill
  exact ⟨rfl, rfl⟩
theorem ne_of_allLt {news : List (Addr × Obj)} {d : Addr} (h : ∀ p ∈ news, p.1 < d) : ∀ p ∈ news, p.1 ≠ d := fun p hp => Nat.ne_of_lt (h p hp)
local macro_rules | `(tactic| k_all) => `(tactic| exact ne_of_allLt (by assumption))
noncomputable abbrev signEs (w : World) (k v : Nat → Tok) (code : Int) (nm gc bc sc : Str) (tag : Value) (pa : Addr) : List DictEntry :=
  [⟨PyData.keyHash w.params (Str.ofString "code"), .str (Str.ofString "code") (k 0), .int code (v 0)⟩,
   ⟨PyData.keyHash w.params (Str.ofString "name"), .str (Str.ofString "name") (k 1), .str nm (v 1)⟩,
   ⟨PyData.keyHash w.params (Str.ofString "gc"), .str (Str.ofString "gc") (k 2), .str gc (v 2)⟩,
   ⟨PyData.keyHash w.params (Str.ofString "ccc"), .str (Str.ofString "ccc") (k 3), .int 0 (v 3)⟩,
   ⟨PyData.keyHash w.params (Str.ofString "bc"), .str (Str.ofString "bc") (k 4), .str bc (v 4)⟩,
   ⟨PyData.keyHash w.params (Str.ofString "script"), .str (Str.ofString "script") (k 5), .str sc (v 5)⟩,
   ⟨PyData.keyHash w.params (Str.ofString "tag"), .str (Str.ofString "tag") (k 6), tag⟩,
   ⟨PyData.keyHash w.params (Str.ofString "parts"), .str (Str.ofString "parts") (k 7), .ref pa⟩,
   ⟨PyData.keyHash w.params (Str.ofString "upper"), .str (Str.ofString "upper") (k 8), .none⟩,
   ⟨PyData.keyHash w.params (Str.ofString "lower"), .str (Str.ofString "lower") (k 9), .none⟩,
   ⟨PyData.keyHash w.params (Str.ofString "title"), .str (Str.ofString "title") (k 10), .none⟩,
   ⟨PyData.keyHash w.params (Str.ofString "number"), .str (Str.ofString "number") (k 11), .str (Str.ofString "") (v 11)⟩]
section
variable {w : World} {A A₀ : Around} {d u : Nat} {gs : List Code} {base h₀ : Heap} {outer : List Env} {env : Env} {mg mb : Str → Option Value} {mean : ExcName → Option Value}
    {L : Addr} {m : Str → Option Value} {news : List (Addr × Obj)} {s : Shared} {Q : Value → Shared → Prop} {E : Value → Shared → Prop}

theorem ctor1 {code : Int} {gc sc nm bc : Str} {a1 a2 a3 a4 a5 a6 : Tok} {tag : Value} {pa : Addr} (B : Below A₀ base outer h₀) (F : Fr h₀ L s.heap m)
    (N : News h₀ L s.heap news)
    (X : (hd.heap_39 w.params).In h₀) (T : Top view (looseW view [Str.ofString "UniError"]) mean mg mb h₀)
    (hf : env.frame = some L) (hk : env.scope.kind = .function) (hA : A = ⟨none, d, some (env :: outer), some gs, u⟩) (hroom : d < 890) (hu : u < 8900)
    (h : ∀ x dx h' tk k v, (∀ p ∈ news, p.1 < dx) → dx < x → Fr h₀ L h' m → News h₀ L h' ((x, instObj 139 dx) :: (dx, dictOf (signEs w k v code nm gc bc sc tag pa) 12) :: news) → Q (.ref x) { s with heap := h', toks := tk }) :
    wpAny (model PySem.Challenge.rw_on0362_01.row.prog w) A (call (.ref 139) [.int code a1, .str nm a2, .str gc a3, .int 0 a4, .str bc a5, .str sc a6, tag, .ref pa]) Q E s := by
  subst hA
  refine' call_cls F X N ?k4 ?k5 ?k6 ?_
  case k4 => k_is
  case k5 => k_is
  case k6 => k_is
  clear F N
  intro x' d' h' F' N' l1 l2
  replace l2 := ltN l2
  refine' code_def B F' X N' T ?kA hf hk ?k6 ?k7 ?k8 ?k9 ?kB ?_ ?c2 ?c3 ?c4 ?c5
  case kA => exact rfl
  case k6 => k_is
  case k7 => k_is
  case k8 => k_room
  case k9 => exact BindsTo.of_eq rfl
  case kB => exact locs rfl
  case c2 => rfl
  case c3 => rfl
  case c4 => rfl
  case c5 => decide
  clear B F' X N' T
  intro g' L' h' FG' F' N' B' X' T'
  dsimp only
  k_steps
  rename Fr _ _ _ _ => F'
  rename News _ _ _ _ => N'
  refine leaveK_ F' N' ?_
  intro kF kN
  dsimp only [InitBack]
  refine ⟨rfl, ?_⟩
  exact h _ _ _ _ (fun i => [_, _, _, _, _, _, _, _, _, _, _, _].getD i 0) (fun i => [a1, a2, a3, a4, a5, a6, 0, 0, 0, 0, 0, _].getD i 0) l1 l2 kF kN
end

end
section
theorem flushD4 {M : Model} {A : Around} {env : Env} {Q : Flow → Shared → Prop} {E : Value → Shared → Prop} {s : Shared} (h : wpAny M A (execs [] env) Q E s) : wpAny M A (execs [] env) Q E s := by
  first | (walk1; fail "flush") | exact h
theorem fill4 (P : Params) : PySem.Challenge.rw_on0362_01.prog = PySem.Challenge.rw_on0362_01.prog ∧ hd.heap_39 P = hd.heap_39 P := by
  k_fill
  exact ⟨rfl, rfl⟩
local macro_rules | `(tactic| k_all) => `(tactic| exact ne_of_allLt (by assumption))
theorem isSome_of_eq {α : Type} {o : Option α} {v : α} (h : o = some v) : o.isSome = true := by rw [h]; rfl
theorem isNone_of_eq {α : Type} {o : Option α} (h : o = none) : o.isSome = false := by rw [h]; rfl
noncomputable abbrev S (x : String) : Str := Str.ofString x

theorem bT {α : Type} {c : Bool} {x y : α} (h : c = true) : (bif c then x else y) = x := by rw [h]; rfl
theorem bF {α : Type} {c : Bool} {x y : α} (h : c = false) : (bif c then x else y) = y := by rw [h]; rfl

noncomputable def lineR2 (gc sc : Str) : Str := bif gc == S "Lo" then (bif sc == S "Hebr" then S "HL" else S "AL") else S "AL"
noncomputable def lineR (gc sc : Str) : Str :=
  bif [S "Thai", S "Hang"].any fun x => x == sc then (bif sc == S "Thai" then S "SA" else S "Other")
  else bif [S "Mn", S "Mc", S "Me", S "Cc"].any fun x => x == gc then S "CM"
  else bif gc == S "Nd" then S "NU"
  else bif gc == S "Lo" then (bif [S "Hira", S "Kana", S "Hani"].any fun x => x == sc then S "ID" else lineR2 gc sc) else lineR2 gc sc
noncomputable def clusterR (gc : Str) : Str :=
  bif [S "Mn", S "Me"].any fun x => x == gc then S "Extend"
  else bif [S "Cc", S "Cf", S "Zl", S "Zp"].any fun x => x == gc then S "Control"
  else bif gc == S "Mc" then S "SpacingMark" else S "Other"
section
variable {w : World} {A A₀ : Around} {d u : Nat} {gs : List Code} {base h₀ : Heap} {outer : List Env} {env : Env} {mg mb : Str → Option Value} {mean : ExcName → Option Value}
    {L : Addr} {m : Str → Option Value} {news : List (Addr × Obj)} {s : Shared} {Q : Value → Shared → Prop} {E : Value → Shared → Prop}

local macro_rules | `(tactic| walk_at "compareOp In int ref") => `(tactic| (k_here; first
  | (refine' kda_in (knd := PySem.intKind _ _) ?k1 ?k2 ?k3 ?k4 ?k5 true ?k6 ?_; (case k1 => k_asm); (case k2 => k_mem); (case k3 => k_asm); (case k4 => k_asm); (case k5 => exact intKind_is _ _ _ _); (case k6 => exact isSome_of_eq (by assumption)); k_whole)
  | (refine' kda_in (knd := PySem.intKind _ _) ?k1 ?k2 ?k3 ?k4 ?k5 false ?k6 ?_; (case k1 => k_asm); (case k2 => k_mem); (case k3 => k_asm); (case k4 => k_asm); (case k5 => exact intKind_is _ _ _ _); (case k6 => exact isNone_of_eq (by assumption)); k_whole)))
local macro_rules | `(tactic| walk_at "subscriptTail") => `(tactic| (k_here; (with_reducible show wpAny _ _ (subscriptTail _ _ (Value.ref _) (Value.int _ _)) _ _ _); refine' kda_item (knd := PySem.intKind _ _) ?k1 ?k2 ?k3 ?k4 ?k5 ?_; (case k1 => k_asm); (case k2 => k_mem); (case k3 => k_asm); (case k4 => exact intKind_is _ _ _ _); (case k5 => assumption); k_whole))



theorem line1 {code : Int} {gc sc nm bc : Str} {k v : Nat → Tok} {tag : Value} {pa x dx la : Addr} {lo : Obj} {kvs : List (Int × Value)} (B : Below A₀ base outer h₀) (F : Fr h₀ L s.heap m)
    (N : News h₀ L s.heap ((x, instObj 139 dx) :: (dx, dictOf (signEs w k v code nm gc bc sc tag pa) 12) :: (la, lo) :: news))
    (hlo : lo.IsDictOf (PySem.intKind PySem.Challenge.rw_on0362_01.row.prog w) kvs) (hla : (la == sysModules) = false)
    (X : (hd.heap_39 w.params).In h₀) (T : Top view (looseW view [Str.ofString "UniError"]) mean mg mb h₀)
    (hf : env.frame = some L) (hk : env.scope.kind = .function)
    (hA : A = ⟨none, d, some (env :: outer), some gs, u⟩) (hroom : d < 890) (hu : u < 8900) 
    (h1 : ∀ val h' tk, valueAt kvs code = some val → Fr h₀ L h' m → News h₀ L h' ((x, instObj 139 dx) :: (dx, dictOf (signEs w k v code nm gc bc sc tag pa) 12) :: (la, lo) :: news) → Q val { s with heap := h', toks := tk })
    (h2 : ∀ r t h' tk, valueAt kvs code = none → r = lineR gc sc → Fr h₀ L h' m → News h₀ L h' ((x, instObj 139 dx) :: (dx, dictOf (signEs w k v code nm gc bc sc tag pa) 12) :: (la, lo) :: news) → Q (.str r t) { s with heap := h', toks := tk }) :
    wpAny (model PySem.Challenge.rw_on0362_01.row.prog w) A (call (.ref 28) [.ref x, .ref la]) Q E s := by
  subst hA
  refine wpAny_call ?_
  refine' code_def B F X N T ?kA hf hk ?k6 ?k7 ?k8 ?k9 ?kB ?_ ?c2 ?c3 ?c4 ?c5
  case kA => exact rfl
  case k6 => k_is
  case k7 => k_is
  case k8 => k_room
  case k9 => exact BindsTo.of_eq rfl
  case kB => exact locs rfl
  case c2 => rfl
  case c3 => rfl
  case c4 => rfl
  case c5 => decide
  clear B F X N T
  intro g' L' h' FG' F' N' B' X' T'
  dsimp only
  cases hv : valueAt kvs code with
  | some val =>
    k_steps
    all_goals (
      dsimp only
      rename Fr _ _ _ _ => F'
      rename News _ _ _ _ => N'
      refine leaveK_ F' N' ?_
      intro kF kN
      exact h1 _ _ _ hv kF (fun p hp => kN p (by first | exact hp | exact .tail _ hp | exact .tail _ (.tail _ hp) | exact .tail _ (.tail _ (.tail _ hp)))))
  | none =>
    k_steps
    all_goals (
      dsimp only
      rename Fr _ _ _ _ => F'
      rename News _ _ _ _ => N'
      refine leaveK_ F' N' ?_
      intro kF kN
      refine h2 _ _ _ _ hv ?_ kF (fun p hp => kN p (by first | exact hp | exact .tail _ hp | exact .tail _ (.tail _ hp) | exact .tail _ (.tail _ (.tail _ hp)) | exact .tail _ (.tail _ (.tail _ (.tail _ hp))) | exact .tail _ (.tail _ (.tail _ (.tail _ (.tail _ hp))))))
      refine Eq.symm ?_
      unfold lineR
      repeat (first | refine (bT (by assumption)).trans ?_ | refine (bF (by assumption)).trans ?_ | unfold lineR2)
      exact rfl)

theorem cluster1 {code : Int} {gc sc nm bc : Str} {k v : Nat → Tok} {tag : Value} {pa x dx la : Addr} {lo : Obj} {kvs : List (Int × Value)} (B : Below A₀ base outer h₀) (F : Fr h₀ L s.heap m)
    (N : News h₀ L s.heap ((x, instObj 139 dx) :: (dx, dictOf (signEs w k v code nm gc bc sc tag pa) 12) :: (la, lo) :: news))
    (hlo : lo.IsDictOf (PySem.intKind PySem.Challenge.rw_on0362_01.row.prog w) kvs) (hla : (la == sysModules) = false)
    (X : (hd.heap_39 w.params).In h₀) (T : Top view (looseW view [Str.ofString "UniError"]) mean mg mb h₀)
    (hf : env.frame = some L) (hk : env.scope.kind = .function)
    (hA : A = ⟨none, d, some (env :: outer), some gs, u⟩) (hroom : d < 890) (hu : u < 8900) 
    (h1 : ∀ val h' tk, valueAt kvs code = some val → Fr h₀ L h' m → News h₀ L h' ((x, instObj 139 dx) :: (dx, dictOf (signEs w k v code nm gc bc sc tag pa) 12) :: (la, lo) :: news) → Q val { s with heap := h', toks := tk })
    (h2 : ∀ r t h' tk, valueAt kvs code = none → r = clusterR gc → Fr h₀ L h' m → News h₀ L h' ((x, instObj 139 dx) :: (dx, dictOf (signEs w k v code nm gc bc sc tag pa) 12) :: (la, lo) :: news) → Q (.str r t) { s with heap := h', toks := tk }) :
    wpAny (model PySem.Challenge.rw_on0362_01.row.prog w) A (call (.ref 35) [.ref x, .ref la]) Q E s := by
  subst hA
  refine wpAny_call ?_
  refine' code_def B F X N T ?kA hf hk ?k6 ?k7 ?k8 ?k9 ?kB ?_ ?c2 ?c3 ?c4 ?c5
  case kA => exact rfl
  case k6 => k_is
  case k7 => k_is
  case k8 => k_room
  case k9 => exact BindsTo.of_eq rfl
  case kB => exact locs rfl
  case c2 => rfl
  case c3 => rfl
  case c4 => rfl
  case c5 => decide
  clear B F X N T
  intro g' L' h' FG' F' N' B' X' T'
  dsimp only
  cases hv : valueAt kvs code with
  | some val =>
    k_steps
    all_goals (
      dsimp only
      rename Fr _ _ _ _ => F'
      rename News _ _ _ _ => N'
      refine leaveK_ F' N' ?_
      intro kF kN
      exact h1 _ _ _ hv kF (fun p hp => kN p (by first | exact hp | exact .tail _ hp | exact .tail _ (.tail _ hp) | exact .tail _ (.tail _ (.tail _ hp)))))
  | none =>
    k_steps
    all_goals (
      dsimp only
      rename Fr _ _ _ _ => F'
      rename News _ _ _ _ => N'
      refine leaveK_ F' N' ?_
      intro kF kN
      refine h2 _ _ _ _ hv ?_ kF (fun p hp => kN p (by first | exact hp | exact .tail _ hp | exact .tail _ (.tail _ hp) | exact .tail _ (.tail _ (.tail _ hp)) | exact .tail _ (.tail _ (.tail _ (.tail _ hp))) | exact .tail _ (.tail _ (.tail _ (.tail _ (.tail _ hp))))))
      refine Eq.symm ?_
      unfold clusterR
      repeat (first | refine (bT (by assumption)).trans ?_ | refine (bF (by assumption)).trans ?_ | unfold lineR2)
      exact rfl)
end

end
section
local macro_rules | `(tactic| k_all) => `(tactic| exact ne_of_allLt (by assumption))
local macro_rules | `(tactic| walk_at "compareOp In int ref") => `(tactic| (k_here; first
  | (refine' kda_in (knd := PySem.intKind _ _) ?k1 ?k2 ?k3 ?k4 ?k5 true ?k6 ?_; (case k1 => k_asm); (case k2 => k_mem); (case k3 => k_asm); (case k4 => k_asm); (case k5 => exact intKind_is _ _ _ _); (case k6 => exact isSome_of_eq (by assumption)); k_whole)
  | (refine' kda_in (knd := PySem.intKind _ _) ?k1 ?k2 ?k3 ?k4 ?k5 false ?k6 ?_; (case k1 => k_asm); (case k2 => k_mem); (case k3 => k_asm); (case k4 => k_asm); (case k5 => exact intKind_is _ _ _ _); (case k6 => exact isNone_of_eq (by assumption)); k_whole)))
local macro_rules | `(tactic| walk_at "subscriptTail") => `(tactic| (k_here; (with_reducible show wpAny _ _ (subscriptTail _ _ (Value.ref _) (Value.int _ _)) _ _ _); refine' kda_item (knd := PySem.intKind _ _) ?k1 ?k2 ?k3 ?k4 ?k5 ?_; (case k1 => k_asm); (case k2 => k_mem); (case k3 => k_asm); (case k4 => exact intKind_is _ _ _ _); (case k5 => assumption); k_whole))
section
theorem flushD5 {M : Model} {A : Around} {env : Env} {Q : Flow → Shared → Prop} {E : Value → Shared → Prop} {s : Shared} (h : wpAny M A (execs [] env) Q E s) : wpAny M A (execs [] env) Q E s := by
  first | (walk1; fail "flush") | exact h
theorem fill5 (P : Params) : PySem.Challenge.rw_on0362_01.prog = PySem.Challenge.rw_on0362_01.prog ∧ hd.heap_39 P = hd.heap_39 P := by
  k_fill
  exact ⟨rfl, rfl⟩

noncomputable def wordR2 (sc : Str) : Str := bif sc == S "Kana" then S "Katakana" else bif sc == S "Hebr" then S "Hebrew_Letter" else S "ALetter"
noncomputable def wordR1 (sc : Str) : Str := bif [S "Hira", S "Hani", S "Thai"].any fun x => x == sc then S "Other" else wordR2 sc
noncomputable def wordR (gc sc : Str) : Str :=
  bif [S "Mn", S "Mc", S "Me"].any fun x => x == gc then S "Extend"
  else bif gc == S "Cf" then S "Format"
  else bif gc == S "Nd" then S "Numeric"
  else bif Txt.item gc 0 != S "L" then (bif gc != S "Nl" then S "Other" else wordR1 sc) else wordR1 sc
section
variable {w : World} {A A₀ : Around} {d u : Nat} {gs : List Code} {base h₀ : Heap} {outer : List Env} {env : Env} {mg mb : Str → Option Value} {mean : ExcName → Option Value}
    {L : Addr} {m : Str → Option Value} {news : List (Addr × Obj)} {s : Shared} {Q : Value → Shared → Prop} {E : Value → Shared → Prop}





theorem word1 {code : Int} {gc sc nm bc : Str} {k v : Nat → Tok} {tag : Value} {pa x dx la : Addr} {lo : Obj} {kvs : List (Int × Value)} (B : Below A₀ base outer h₀) (F : Fr h₀ L s.heap m)
    (N : News h₀ L s.heap ((x, instObj 139 dx) :: (dx, dictOf (signEs w k v code nm gc bc sc tag pa) 12) :: (la, lo) :: news))
    (hlo : lo.IsDictOf (PySem.intKind PySem.Challenge.rw_on0362_01.row.prog w) kvs) (hla : (la == sysModules) = false)
    (X : (hd.heap_39 w.params).In h₀) (T : Top view (looseW view [Str.ofString "UniError"]) mean mg mb h₀)
    (hf : env.frame = some L) (hk : env.scope.kind = .function)
    (hA : A = ⟨none, d, some (env :: outer), some gs, u⟩) (hroom : d < 890) (hu : u < 8900) (hg : gc.length = 2)
    (h1 : ∀ val h' tk, valueAt kvs code = some val → Fr h₀ L h' m → News h₀ L h' ((x, instObj 139 dx) :: (dx, dictOf (signEs w k v code nm gc bc sc tag pa) 12) :: (la, lo) :: news) → Q val { s with heap := h', toks := tk })
    (h2 : ∀ r t h' tk, valueAt kvs code = none → r = wordR gc sc → Fr h₀ L h' m → News h₀ L h' ((x, instObj 139 dx) :: (dx, dictOf (signEs w k v code nm gc bc sc tag pa) 12) :: (la, lo) :: news) → Q (.str r t) { s with heap := h', toks := tk }) :
    wpAny (model PySem.Challenge.rw_on0362_01.row.prog w) A (call (.ref 42) [.ref x, .ref la]) Q E s := by
  subst hA
  refine wpAny_call ?_
  refine' code_def B F X N T ?kA hf hk ?k6 ?k7 ?k8 ?k9 ?kB ?_ ?c2 ?c3 ?c4 ?c5
  case kA => exact rfl
  case k6 => k_is
  case k7 => k_is
  case k8 => k_room
  case k9 => exact BindsTo.of_eq rfl
  case kB => exact locs rfl
  case c2 => rfl
  case c3 => rfl
  case c4 => rfl
  case c5 => decide
  clear B F X N T
  intro g' L' h' FG' F' N' B' X' T'
  dsimp only
  cases hv : valueAt kvs code with
  | some val =>
    k_steps
    all_goals (
      dsimp only
      rename Fr _ _ _ _ => F'
      rename News _ _ _ _ => N'
      refine leaveK_ F' N' ?_
      intro kF kN
      exact h1 _ _ _ hv kF (fun p hp => kN p (by first | exact hp | exact .tail _ hp | exact .tail _ (.tail _ hp) | exact .tail _ (.tail _ (.tail _ hp)))))
  | none =>
    k_steps
    all_goals (
      dsimp only
      rename Fr _ _ _ _ => F'
      rename News _ _ _ _ => N'
      refine leaveK_ F' N' ?_
      intro kF kN
      refine h2 _ _ _ _ hv ?_ kF (fun p hp => kN p (by first | exact hp | exact .tail _ hp | exact .tail _ (.tail _ hp) | exact .tail _ (.tail _ (.tail _ hp)) | exact .tail _ (.tail _ (.tail _ (.tail _ hp))) | exact .tail _ (.tail _ (.tail _ (.tail _ (.tail _ hp))))))
      refine Eq.symm ?_
      unfold wordR
      repeat (first | refine (bT (by assumption)).trans ?_ | refine (bF (by assumption)).trans ?_ | unfold wordR1 | unfold wordR2)
      exact rfl)
end

end
section
theorem flushD6 {M : Model} {A : Around} {env : Env} {Q : Flow → Shared → Prop} {E : Value → Shared → Prop} {s : Shared} (h : wpAny M A (execs [] env) Q E s) : wpAny M A (execs [] env) Q E s := by
  first | (walk1; fail "flush") | exact h
theorem fill6 (P : Params) : PySem.Challenge.rw_on0362_01.prog = PySem.Challenge.rw_on0362_01.prog ∧ hd.heap_39 P = hd.heap_39 P := by
  k_fill
  exact ⟨rfl, rfl⟩

theorem if_ff {a b : Prop} (h : b) : if (false = true) then a else b := by rw [if_neg (by decide)]; exact h
theorem if_tt {a b : Prop} (h : a) : if (true = true) then a else b := by rw [if_pos rfl]; exact h
theorem cleanS {α : Type} {M : Model} {A : Around} {t : Sem α} {Q : α → Shared → Prop} {E : Value → Shared → Prop} {s : Shared} {h : Heap} {g : Array GenState} {dr : Drawn} {tk : Nat} {o : OsState} (e1 : g = s.gens) (e2 : dr = s.drawn) (e3 : o = s.os)
    (k : ∀ tk, wpAny M A t Q E { s with heap := h, toks := tk }) : wpAny M A t Q E ⟨h, g, dr, tk, o⟩ := by
  subst e1 e2 e3
  exact k tk
theorem starEach_dict (ks : List (Option Expr)) (vs : List Expr) (pos : Pos) (rest : List Expr) (env : Env) : starEach (.Dict ks vs pos :: rest) env = (false, eval (.Dict ks vs pos) env) :: starEach rest env := rfl
theorem backTo_nil (pos : Pos) (env : Env) : (backTo pos (starEach [] env)).any (·.1) = false := rfl
local macro_rules | `(tactic| walk_at "execs cons") => `(tactic| (refine cleanS rfl rfl rfl ?_; intro tk; refine wpAny_execs_cons ?_))
local macro_rules | `(tactic| walk_at "callWith") => `(tactic| (first | with_reducible refine callWith_method1 ?_ (starEach_dict _ _ _ _ _) (backTo_nil _ _) | (dsimp only; with_reducible refine callWith_method1 ?_ (starEach_dict _ _ _ _ _) (backTo_nil _ _))))
local macro_rules | `(tactic| walk_at "Exists") => `(tactic| (
  k_here
  refine kdp_made_str (by k_asm) (by k_asm) (Top.nolimit (by k_asm)) (by rfl) (by (simp only [strPairs, List.map_cons, List.map_nil]; decide +kernel)) (by rfl) ?_
  intro h' o' F' N' l1 lo' hd' hf' ap'
  try k_lt l1))
local macro_rules | `(tactic| walk_at "ite") => `(tactic| (first | with_reducible refine if_ff ?_ | with_reducible refine if_tt ?_))

noncomputable def strD (l : List (String × String)) : List (PyData × PyData) := l.map fun p => (.str (S p.1), .str (S p.2))
noncomputable def sentD : List (PyData × PyData) := ktMergeD
  [(.str (S "Lu"), .str (S "Upper")), (.str (S "Lt"), .str (S "Upper")), (.str (S "Ll"), .str (S "Lower")), (.str (S "Lo"), .str (S "OLetter")), (.str (S "Lm"), .str (S "OLetter")), (.str (S "Nd"), .str (S "Numeric")),
   (.str (S "Mn"), .str (S "Extend")), (.str (S "Mc"), .str (S "Extend")), (.str (S "Me"), .str (S "Extend")), (.str (S "Cf"), .str (S "Format")), (.str (S "Zs"), .str (S "Sp"))]
  [(.str (S "Ps"), .str (S "Close")), (.str (S "Pe"), .str (S "Close")), (.str (S "Pi"), .str (S "Close")), (.str (S "Pf"), .str (S "Close"))]
noncomputable def sentV (gc : Str) : PyData := (Spec.lookup (.str gc) sentD).getD (.str (S "Other"))
noncomputable def sentR (gc : Str) : Str := match sentV gc with | .str r => r | _ => S ""
theorem sentV_str (gc : Str) : sentV gc = .str (sentR gc) := by
  have hs : PyProof.Rows.Shaped .str .str sentD := by unfold PyProof.Rows.Shaped; decide +kernel
  unfold sentR sentV
  cases hl : Spec.lookup (.str gc) sentD with
  | none => rfl
  | some dv =>
    have := hs.at hl
    cases dv <;> first | rfl | cases this

theorem flat_str_inv {v : Value} {r : Str} (h : PyProof.V.Flat v (.str r)) : ∃ t, v = .str r t := by
  exact PyProof.V.Flat.str_inv h
section
variable {w : World} {A A₀ : Around} {d u : Nat} {gs : List Code} {base h₀ : Heap} {outer : List Env} {env : Env} {mg mb : Str → Option Value} {mean : ExcName → Option Value}
    {L : Addr} {m : Str → Option Value} {news : List (Addr × Obj)} {s : Shared} {Q : Value → Shared → Prop} {E : Value → Shared → Prop}





theorem sent1 {code : Int} {gc sc nm bc : Str} {k v : Nat → Tok} {tag : Value} {pa x dx la : Addr} {lo : Obj} {kvs : List (Int × Value)} (B : Below A₀ base outer h₀) (F : Fr h₀ L s.heap m)
    (N : News h₀ L s.heap ((x, instObj 139 dx) :: (dx, dictOf (signEs w k v code nm gc bc sc tag pa) 12) :: (la, lo) :: news))
    (hlo : lo.IsDictOf (PySem.intKind PySem.Challenge.rw_on0362_01.row.prog w) kvs) (hla : (la == sysModules) = false)
    (X : (hd.heap_39 w.params).In h₀) (T : Top view (looseW view [Str.ofString "UniError"]) mean mg mb h₀)
    (hf : env.frame = some L) (hk : env.scope.kind = .function)
    (hA : A = ⟨none, d, some (env :: outer), some gs, u⟩) (hroom : d < 890) (hu : u < 8900) 
    (h1 : ∀ val h' tk, valueAt kvs code = some val → Fr h₀ L h' m → News h₀ L h' ((x, instObj 139 dx) :: (dx, dictOf (signEs w k v code nm gc bc sc tag pa) 12) :: (la, lo) :: news) → Q val { s with heap := h', toks := tk })
    (h2 : ∀ r t h' tk, valueAt kvs code = none → r = sentR gc → Fr h₀ L h' m → News h₀ L h' ((x, instObj 139 dx) :: (dx, dictOf (signEs w k v code nm gc bc sc tag pa) 12) :: (la, lo) :: news) → Q (.str r t) { s with heap := h', toks := tk }) :
    wpAny (model PySem.Challenge.rw_on0362_01.row.prog w) A (call (.ref 49) [.ref x, .ref la]) Q E s := by
  subst hA
  refine wpAny_call ?_
  refine' code_def B F X N T ?kA hf hk ?k6 ?k7 ?k8 ?k9 ?kB ?_ ?c2 ?c3 ?c4 ?c5
  case kA => exact rfl
  case k6 => k_is
  case k7 => k_is
  case k8 => k_room
  case k9 => exact BindsTo.of_eq rfl
  case kB => exact locs rfl
  case c2 => rfl
  case c3 => rfl
  case c4 => rfl
  case c5 => decide
  clear B F X N T
  intro g' L' h' FG' F' N' B' X' T'
  dsimp only
  cases hv : valueAt kvs code with
  | some val =>
    k_steps
    all_goals (
      dsimp only
      rename Fr _ _ _ _ => F'
      rename News _ _ _ _ => N'
      refine leaveK_ F' N' ?_
      intro kF kN
      exact h1 _ _ _ hv kF (fun p hp => kN p (by first | exact hp | exact .tail _ hp | exact .tail _ (.tail _ hp) | exact .tail _ (.tail _ (.tail _ hp)))))
  | none =>
    k_steps
    rename Fr _ _ _ _ => F'
    rename News _ _ _ _ => N'
    rename PyProof.V.Flat _ _ => hv'
    refine leaveK_ F' N' ?_
    intro kF kN
    have hv2 : PyProof.V.Flat _ (sentV gc) := hv'
    rw [sentV_str] at hv2
    obtain ⟨t, rfl⟩ := PyProof.V.Flat.str_inv hv2
    exact h2 _ _ _ _ hv rfl kF (fun p hp => kN p (by first | exact hp | exact .tail _ hp | exact .tail _ (.tail _ hp) | exact .tail _ (.tail _ (.tail _ hp)) | exact .tail _ (.tail _ (.tail _ (.tail _ hp)))))
end

end
section
theorem flushD7 {M : Model} {A : Around} {env : Env} {Q : Flow → Shared → Prop} {E : Value → Shared → Prop} {s : Shared} (h : wpAny M A (execs [] env) Q E s) : wpAny M A (execs [] env) Q E s := by
  first | (walk1; fail "flush") | exact h
theorem fill7 (P : Params) : PySem.Challenge.rw_on0362_01.prog = PySem.Challenge.rw_on0362_01.prog ∧ hd.heap_39 P = hd.heap_39 P := by
  k_fill
  exact ⟨rfl, rfl⟩

local macro_rules | `(tactic| k_handed) => `(tactic| assumption)

local macro_rules | `(tactic| walk_at "compareOp") => `(tactic| with_reducible refine is_none ?_)

noncomputable def widthR3 (code : Int) (gc : Str) : Str := bif gc == S "Mn" then (if code < 880 then S "A" else S "N") else S "N"
noncomputable def widthR2 (code : Int) (gc sc : Str) (noTag : Bool) : Str := bif [S "Grek", S "Cyrl"].any fun x => x == sc then (bif noTag then S "A" else widthR3 code gc) else widthR3 code gc
noncomputable def widthR (code : Int) (gc sc : Str) (noTag : Bool) : Str :=
  if 32 ≤ code ∧ code ≤ 126 then S "Na"
  else bif [S "Hira", S "Kana", S "Hani"].any fun x => x == sc then S "W"
  else if 127995 ≤ code ∧ code ≤ 128512 then S "W"
  else if 12289 ≤ code ∧ code ≤ 12540 then S "W"
  else widthR2 code gc sc noTag
section
variable {w : World} {A A₀ : Around} {d u : Nat} {gs : List Code} {base h₀ : Heap} {outer : List Env} {env : Env} {mg mb : Str → Option Value} {mean : ExcName → Option Value}
    {L : Addr} {m : Str → Option Value} {news : List (Addr × Obj)} {s : Shared} {Q : Value → Shared → Prop} {E : Value → Shared → Prop}





theorem width1 {code : Int} {gc sc nm bc : Str} {k v : Nat → Tok} {tag : Value} {pa x dx la : Addr} {lo : Obj} {kvs : List (Int × Value)} (B : Below A₀ base outer h₀) (F : Fr h₀ L s.heap m)
    (N : News h₀ L s.heap ((x, instObj 139 dx) :: (dx, dictOf (signEs w k v code nm gc bc sc tag pa) 12) :: (la, lo) :: news))
    (hlo : lo.IsDictOf (PySem.intKind PySem.Challenge.rw_on0362_01.row.prog w) kvs) (hla : (la == sysModules) = false)
    (X : (hd.heap_39 w.params).In h₀) (T : Top view (looseW view [Str.ofString "UniError"]) mean mg mb h₀)
    (hf : env.frame = some L) (hk : env.scope.kind = .function)
    (hA : A = ⟨none, d, some (env :: outer), some gs, u⟩) (hroom : d < 890) (hu : u < 8900) (htg : handedIn tag = true)
    (h1 : ∀ val h' tk, valueAt kvs code = some val → Fr h₀ L h' m → News h₀ L h' ((x, instObj 139 dx) :: (dx, dictOf (signEs w k v code nm gc bc sc tag pa) 12) :: (la, lo) :: news) → Q val { s with heap := h', toks := tk })
    (h2 : ∀ r t h' tk, valueAt kvs code = none → r = widthR code gc sc (tag == Value.none) → Fr h₀ L h' m → News h₀ L h' ((x, instObj 139 dx) :: (dx, dictOf (signEs w k v code nm gc bc sc tag pa) 12) :: (la, lo) :: news) → Q (.str r t) { s with heap := h', toks := tk }) :
    wpAny (model PySem.Challenge.rw_on0362_01.row.prog w) A (call (.ref 56) [.ref x, .ref la]) Q E s := by
  subst hA
  refine wpAny_call ?_
  refine' code_def B F X N T ?kA hf hk ?k6 ?k7 ?k8 ?k9 ?kB ?_ ?c2 ?c3 ?c4 ?c5
  case kA => exact rfl
  case k6 => k_is
  case k7 => k_is
  case k8 => k_room
  case k9 => exact BindsTo.of_eq rfl
  case kB => exact locs rfl
  case c2 => rfl
  case c3 => rfl
  case c4 => rfl
  case c5 => decide
  clear B F X N T
  intro g' L' h' FG' F' N' B' X' T'
  dsimp only
  cases hv : valueAt kvs code with
  | some val =>
    k_steps
    all_goals (
      dsimp only
      rename Fr _ _ _ _ => F'
      rename News _ _ _ _ => N'
      refine leaveK_ F' N' ?_
      intro kF kN
      exact h1 _ _ _ hv kF (fun p hp => kN p (by first | exact hp | exact .tail _ hp | exact .tail _ (.tail _ hp) | exact .tail _ (.tail _ (.tail _ hp)))))
  | none =>
    k_steps
    all_goals (
      dsimp only
      rename Fr _ _ _ _ => F'
      rename News _ _ _ _ => N'
      refine leaveK_ F' N' ?_
      intro kF kN
      refine h2 _ _ _ _ hv ?_ kF (fun p hp => kN p (by first | exact hp | exact .tail _ hp | exact .tail _ (.tail _ hp) | exact .tail _ (.tail _ (.tail _ hp)) | exact .tail _ (.tail _ (.tail _ (.tail _ hp))) | exact .tail _ (.tail _ (.tail _ (.tail _ (.tail _ hp))))))
      clear kF kN h1 h2 F' N' FG' B' X' T' hlo
      refine Eq.symm ?_
      unfold widthR
      repeat (first | refine (bT (by assumption)).trans ?_ | refine (bF (by assumption)).trans ?_ | refine (if_pos (by omega)).trans ?_ | refine (if_neg (by omega)).trans ?_ | unfold widthR2 | unfold widthR3 | refine (bT rfl).trans ?_ | refine (bF rfl).trans ?_)
      exact rfl)
end

end
end
section
theorem flushLP {M : Model} {A : Around} {env : Env} {Q : Flow → Shared → Prop} {E : Value → Shared → Prop} {s : Shared} (h : wpAny M A (execs [] env) Q E s) : wpAny M A (execs [] env) Q E s := by
  first | (walk1; fail "flush") | exact h
section
variable {prog : Program} {w : World} {A : Around} {E : Value → Shared → Prop} {s : Shared} {env : Env} {h₀ : Heap} {x : Str} {body : List Stmt} {Q : Flow → Shared → Prop}

noncomputable def EndI (h₀ : Heap) (L : Addr) (J : (Str → Option Value) → List (Addr × Obj) → Prop) (I : Addr) (oI : Obj) (s₁ s₂ : Shared) : Prop :=
  ∃ h' tk m' nx, s₂ = { s₁ with heap := h', toks := tk } ∧ Fr h₀ L h' m' ∧ News h₀ L h' ((I, oI) :: nx) ∧ (∀ p ∈ nx, p.1 ≠ I) ∧ J m' nx
noncomputable def PostI (h₀ : Heap) (L : Addr) (J : (Str → Option Value) → List (Addr × Obj) → Prop) (I : Addr) (oI : Obj) (s₁ : Shared) (Q : Flow → Shared → Prop) (f : Flow) (s₂ : Shared) : Prop :=
  match f with
  | .ret v => Q (.ret v) s₂
  | .brk => Q .next s₂
  | _ => EndI h₀ L J I oI s₁ s₂
theorem EndI.intro {L : Addr} {J : (Str → Option Value) → List (Addr × Obj) → Prop} {I : Addr} {oI : Obj} {m' : Str → Option Value} {nx : List (Addr × Obj)} {s₁ : Shared} {h' : Heap} {tk : Nat} (F : Fr h₀ L h' m') (N : News h₀ L h' ((I, oI) :: nx))
    (ha : ∀ p ∈ nx, p.1 ≠ I) (hj : J m' nx) : EndI h₀ L J I oI s₁ { s₁ with heap := h', toks := tk } := ⟨h', tk, m', nx, rfl, F, N, ha, hj⟩

theorem loopI {I : Addr} {fp : List Addr} {n : Nat} {P : Nat → Value → Prop} {St : Nat → Heap → Prop} {m₀ : Str → Option Value} {news : List (Addr × Obj)} (J : Nat → (Str → Option Value) → List (Addr × Obj) → Prop)
    (W : Walks prog w A I fp [I] n P St) (hI : h₀.get? I = none) (hIi : I ∈ fp) (hIl : ∀ i h, St i h → ∃ o, h.get? I = some o) (hLf : env.locals ∉ fp)
    (hfp : ∀ b ∈ fp, b = I ∨ (∃ o, h₀.get? b = some o) ∨ ∃ o, ∀ i m nx, J i m nx → (b, o) ∈ nx)
    (hnw : ∀ p ∈ news, p.1 ≠ I) (hst : St 0 s.heap) (F : Fr h₀ env.locals s.heap m₀) (N : News h₀ env.locals s.heap news) (hj : J 0 m₀ news)
    (turn : ∀ i v m₁ news₁ h tk oI, i < n → P i v → (∀ p ∈ news₁, p.1 ≠ I) → J i m₁ news₁ → Fr h₀ env.locals h (fun y => if y = x then some v else m₁ y) → News h₀ env.locals h ((I, oI) :: news₁) →
      wpAny (model prog w) A (execs body env) (PostI h₀ env.locals (J (i + 1)) I oI { s with heap := h, toks := tk } Q) E { s with heap := h, toks := tk })
    (done : ∀ m₁ news₁ h tk, J n m₁ news₁ → Fr h₀ env.locals h m₁ → News h₀ env.locals h news₁ → Q .next { s with heap := h, toks := tk }) :
    LoopAtV prog w A h₀ env x body Q E (.ref I) s := by
  refine ⟨I, fp, [I], n, P, St, m₀, news, J, rfl, W, hLf, ?_, ?_, hst, F, N, hj, ?_, ?_⟩
  · intro b hb
    rw [List.mem_singleton.mp hb]; exact hI
  · intro p hp hq
    exact hnw p hp (List.mem_singleton.mp hq)
  · rintro i v m₁ news₁ s₁ own ⟨hh', tk', rfl⟩ hin hP hJ hoff hown hownH hfpo hst F₁ N₁
    obtain ⟨oI, hoI⟩ := hIl _ _ hst
    have hIown : (I, oI) ∈ own := hfpo I hIi hI oI hoI
    have hoff' : ∀ p ∈ news₁, p.1 ≠ I := fun p hp e => hoff p hp (List.mem_singleton.mpr e)
    have N₂ : News h₀ env.locals hh' ((I, oI) :: news₁) := fun p hp => by
      rcases List.mem_cons.mp hp with rfl | hp
      · exact N₁ _ (List.mem_append_left _ hIown)
      · exact N₁ _ (List.mem_append_right _ hp)
    have hownS : ∀ p ∈ own, p = (I, oI) ∨ ∀ i m nx, J i m nx → p ∈ nx := by
      intro p hp
      rcases hfp p.1 (hown p hp) with e | ⟨o, e⟩ | ⟨o, e⟩
      · left
        have := hownH p hp
        rw [e] at this
        rw [hoI] at this
        exact Prod.ext e (Option.some.inj this).symm
      · have := (N₁ p (List.mem_append_left _ hp)).2.2
        rw [e] at this; cases this
      · right
        have h1 := N₁ _ (List.mem_append_right _ (e i m₁ news₁ hJ))
        have h2 := hownH p hp
        rw [h1.1] at h2
        have h3 : p = (p.1, o) := Prod.ext rfl (Option.some.inj h2).symm
        intro i m nx hJ'
        rw [h3]; exact e i m nx hJ'
    refine wpAny_mono (turn i v m₁ news₁ hh' tk' oI hin hP hoff' hJ F₁ N₂) (fun f s₂ p => ?_) fun _ _ e => e
    have fin : EndI h₀ env.locals (J (i + 1)) I oI { s with heap := hh', toks := tk' } s₂ → LoopStepU h₀ env.locals [I] own (J (i + 1)) { s with heap := hh', toks := tk' } .next s₂ := by
      rintro ⟨h', tk, m', nx, e, F', N', ha, hm⟩
      refine ⟨rfl, h', tk, m', nx, e, F', fun p hp => ?_, fun p hp hq => ha p hp (List.mem_singleton.mp hq), hm⟩
      rcases List.mem_append.mp hp with hp | hp
      · rcases hownS p hp with rfl | h2
        · exact N' _ (.head _)
        · exact N' _ (.tail _ (h2 _ _ _ hm))
      · exact N' _ (.tail _ hp)
    cases f with
    | ret v => exact .ret p
    | brk => exact .brk p
    | next => exact .next (fin p)
    | cont => exact .cont (fin p)
  · rintro h' tk m' news' F' N' _ hJ
    exact done m' news' h' tk hJ F' N'

theorem rangeI {r : Addr} {a₀ b₀ : Int} {t₀ u₀ v₀ : Tok} {n : Nat} {m₀ : Str → Option Value} {news : List (Addr × Obj)} (J : Nat → (Str → Option Value) → List (Addr × Obj) → Prop)
    (hh : A.handled = none) (hr : IsRange s.heap r a₀ b₀ 1 t₀ u₀ v₀) (hsmall : Builtin.Range.small a₀ b₀ 1 = true) (hn : Builtin.Range.rangeSize a₀ b₀ 1 = (n : Int)) (F : Fr h₀ env.locals s.heap m₀) (N : News h₀ env.locals s.heap news) (hj : J 0 m₀ news)
    (turn : ∀ i k t m₁ news₁ h tk I oI, i < n → k = a₀ + (i : Int) → (∀ p ∈ news₁, p.1 ≠ I) → J i m₁ news₁ → Fr h₀ env.locals h (fun y => if y = x then some (.int k t) else m₁ y) → News h₀ env.locals h ((I, oI) :: news₁) →
      wpAny (model prog w) A (execs body env) (PostI h₀ env.locals (J (i + 1)) I oI { s with heap := h, toks := tk } Q) E { s with heap := h, toks := tk })
    (done : ∀ m₁ news₁ h tk, J n m₁ news₁ → Fr h₀ env.locals h m₁ → News h₀ env.locals h news₁ → Q .next { s with heap := h, toks := tk }) :
    wpAny (model prog w) A (pyIter (.ref r)) (fun it s₂ => LoopAtV prog w A h₀ env x body Q E it s₂) E s := by
  refine wpAny_pyIter_range hr hsmall ?_
  have W : Walks prog w A s.heap.objs.size [s.heap.objs.size] [s.heap.objs.size] n (fun i v => i < n ∧ ∃ t, v = .int (a₀ + i * 1) t)
      (fun i h => IsRangeIter h s.heap.objs.size (a₀ + (i : Nat) * 1) ((n : Int) - (i : Nat)) 1) := (Walks.range hh _ a₀ 1 n).bound
  refine loopI J W (next_is_new F) (.head _) ?_ ?_ ?_ ?_ (by show IsRangeIter _ _ _ _ _; rw [hn]; simpa using Heap.get?_push_size _ rfl) (F.push _) (fun p hp => ⟨Heap.get?_push_of_some _ (N p hp).1, (N p hp).2⟩) hj ?_ done
  · intro i h hs
    exact ⟨_, hs⟩
  · intro hm
    exact absurd F.ns.lt ((List.mem_singleton.mp hm) ▸ Nat.lt_irrefl _)
  · intro b hb
    exact .inl (List.mem_singleton.mp hb)
  · intro p hp hI
    exact absurd (Heap.lt_size (N p hp).1) (hI ▸ Nat.lt_irrefl _)
  · rintro i v m₁ news₁ h tk oI hi ⟨_, t, rfl⟩ hne hJ F₁ N₁
    exact turn i _ t m₁ news₁ h tk _ oI hi (by omega) hne hJ F₁ N₁

theorem listI {l : Addr} {its : Array Value} {k : Nat} {m₀ : Str → Option Value} {news : List (Addr × Obj)} (J : Nat → (Str → Option Value) → List (Addr × Obj) → Prop)
    (hh : A.handled = none) (F : Fr h₀ env.locals s.heap m₀) (N : News h₀ env.locals s.heap news) (hl : ∀ i m nx, J i m nx → (l, PySem.W.listOf its k) ∈ nx) (hj : J 0 m₀ news)
    (turn : ∀ i v m₁ news₁ h tk I oI, its[i]? = some v → (∀ p ∈ news₁, p.1 ≠ I) → J i m₁ news₁ → Fr h₀ env.locals h (fun y => if y = x then some v else m₁ y) → News h₀ env.locals h ((I, oI) :: news₁) →
      wpAny (model prog w) A (execs body env) (PostI h₀ env.locals (J (i + 1)) I oI { s with heap := h, toks := tk } Q) E { s with heap := h, toks := tk })
    (done : ∀ m₁ news₁ h tk, J its.size m₁ news₁ → Fr h₀ env.locals h m₁ → News h₀ env.locals h news₁ → Q .next { s with heap := h, toks := tk }) :
    wpAny (model prog w) A (pyIter (.ref l)) (fun it s₂ => LoopAtV prog w A h₀ env x body Q E it s₂) E s := by
  have hls : s.heap.IsList l its := ⟨_, (N _ (hl _ _ _ hj)).1, rfl, k, rfl⟩
  have hlt : l < s.heap.objs.size := Heap.lt_size (N _ (hl _ _ _ hj)).1
  have hne : l ≠ s.heap.objs.size := Nat.ne_of_lt hlt
  refine wpAny_pyIter_list hls ?_
  have W := Walks.list (prog := prog) (w := w) hh s.heap.objs.size l hne its
  refine loopI J W (next_is_new F) (.head _) ?_ ?_ ?_ ?_ ⟨⟨_, Heap.get?_push_size _ rfl, rfl, rfl⟩, hls.at fun o e => Heap.get?_push_of_some _ e⟩ (F.push _) (fun p hp => ⟨Heap.get?_push_of_some _ (N p hp).1, (N p hp).2⟩) hj ?_ done
  · rintro i h ⟨⟨o, e, _⟩, _⟩
    exact ⟨o, e⟩
  · intro hm
    rcases List.mem_cons.mp hm with e | hm
    · exact absurd F.ns.lt (e ▸ Nat.lt_irrefl _)
    · exact (N _ (hl _ _ _ hj)).2.1 (List.mem_singleton.mp hm).symm
  · intro b hb
    rcases List.mem_cons.mp hb with e | hb
    · exact .inl e
    · rw [List.mem_singleton.mp hb]
      exact .inr (.inr ⟨_, hl⟩)
  · intro p hp hI
    exact absurd (Heap.lt_size (N p hp).1) (hI ▸ Nat.lt_irrefl _)
  · rintro i v m₁ news₁ h tk oI hi hP hne hJ F₁ N₁
    exact turn i v m₁ news₁ h tk _ oI hP hne hJ F₁ N₁

theorem bytesI {b : Array UInt8} {tb : Tok} {m₀ : Str → Option Value} {news : List (Addr × Obj)} (J : Nat → (Str → Option Value) → List (Addr × Obj) → Prop)
    (hh : A.handled = none) (F : Fr h₀ env.locals s.heap m₀) (N : News h₀ env.locals s.heap news) (hj : J 0 m₀ news)
    (turn : ∀ i c t m₁ news₁ h tk I oI, b[i]? = some c → (∀ p ∈ news₁, p.1 ≠ I) → J i m₁ news₁ → Fr h₀ env.locals h (fun y => if y = x then some (.int (c.toNat : Int) t) else m₁ y) → News h₀ env.locals h ((I, oI) :: news₁) →
      wpAny (model prog w) A (execs body env) (PostI h₀ env.locals (J (i + 1)) I oI { s with heap := h, toks := tk } Q) E { s with heap := h, toks := tk })
    (done : ∀ m₁ news₁ h tk, J b.size m₁ news₁ → Fr h₀ env.locals h m₁ → News h₀ env.locals h news₁ → Q .next { s with heap := h, toks := tk }) :
    wpAny (model prog w) A (pyIter (.bytes b tb)) (fun it s₂ => LoopAtV prog w A h₀ env x body Q E it s₂) E s := by
  refine KBw.pyIter_bytes ?_
  have W := KBw.walks (prog := prog) (w := w) hh s.heap.objs.size b tb
  refine loopI J W (next_is_new F) (.head _) ?_ ?_ ?_ ?_ ⟨_, Heap.get?_push_size _ rfl, rfl, rfl⟩ (F.push _) (fun p hp => ⟨Heap.get?_push_of_some _ (N p hp).1, (N p hp).2⟩) hj ?_ done
  · rintro i h ⟨o, e, _⟩
    exact ⟨o, e⟩
  · intro hm
    exact absurd F.ns.lt ((List.mem_singleton.mp hm) ▸ Nat.lt_irrefl _)
  · intro b hb
    exact .inl (List.mem_singleton.mp hb)
  · intro p hp hI
    exact absurd (Heap.lt_size (N p hp).1) (hI ▸ Nat.lt_irrefl _)
  · rintro i v m₁ news₁ h tk oI hi ⟨n, u, hn, rfl⟩ hne hJ F₁ N₁
    exact turn i n u m₁ news₁ h tk _ oI hn hne hJ F₁ N₁

theorem off1 {m m₀ : Str → Option Value} {v : Option Value} (h : ∀ z, z ≠ x → m z = m₀ z) : (fun y => if y = x then v else m y) = fun y => if y = x then v else m₀ y := by
  funext y
  by_cases e : y = x
  · simp [e]
  · simp only [if_neg e]; exact h y e
theorem off1u {m m₀ : Str → Option Value} (h : ∀ z, z ≠ x → m z = m₀ z) : m = fun y => if y = x then m y else m₀ y := by
  funext y
  by_cases e : y = x
  · simp [e]
  · simp only [if_neg e]; exact h y e
theorem listS {l : Addr} {its : Array Value} {k : Nat} {m₀ : Str → Option Value} {news : List (Addr × Obj)}
    (hh : A.handled = none) (F : Fr h₀ env.locals s.heap m₀) (N : News h₀ env.locals s.heap news) (hl : (l, PySem.W.listOf its k) ∈ news)
    (turn : ∀ (i : Nat) v h tk I oI, its[i]? = some v → (∀ p ∈ news, p.1 ≠ I) → Fr h₀ env.locals h (fun y => if y = x then some v else m₀ y) → News h₀ env.locals h ((I, oI) :: news) →
      wpAny (model prog w) A (execs body env) (PostI h₀ env.locals (fun m nx => nx = news ∧ ∀ z, z ≠ x → m z = m₀ z) I oI { s with heap := h, toks := tk } Q) E { s with heap := h, toks := tk })
    (done : ∀ (u : Str → Option Value) h tk, Fr h₀ env.locals h (fun y => if y = x then u y else m₀ y) → News h₀ env.locals h news → Q .next { s with heap := h, toks := tk }) :
    wpAny (model prog w) A (pyIter (.ref l)) (fun it s₂ => LoopAtV prog w A h₀ env x body Q E it s₂) E s := by
  refine listI (fun _ m nx => nx = news ∧ ∀ z, z ≠ x → m z = m₀ z) hh F N (fun i m nx hj => hj.1 ▸ hl) ⟨rfl, fun _ _ => rfl⟩ ?_ ?_
  · rintro i v m₁ news₁ h tk I oI hv hne ⟨rfl, hm⟩ F₁ N₁
    rw [off1 hm] at F₁
    exact turn i v h tk I oI hv hne F₁ N₁
  · rintro m₁ news₁ h tk ⟨rfl, hm⟩ F₁ N₁
    rw [off1u hm] at F₁
    exact done m₁ h tk F₁ N₁

noncomputable def KJ {σ : Type} (Led : σ → List (Addr × Obj)) (ps : σ → List (Str × Value)) (P : Nat → σ → Prop) (x : Str) (stored : List Str) (m₀ : Str → Option Value) (i : Nat) (m : Str → Option Value) (nx : List (Addr × Obj)) : Prop :=
  ∃ c, nx = Led c ∧ P i c ∧ (∀ p ∈ ps c, m p.1 = some p.2) ∧ ∀ z, z ≠ x → (∀ p ∈ ps c, z ≠ p.1) → stored.contains z = false → m z = m₀ z
theorem KJ.intro {σ : Type} {Led : σ → List (Addr × Obj)} {ps : σ → List (Str × Value)} {P : Nat → σ → Prop} {x : Str} {stored : List Str} {m₀ : Str → Option Value} {i : Nat} {m : Str → Option Value} (c : σ) (hp : P i c)
    (h1 : ∀ p ∈ ps c, m p.1 = some p.2) (h2 : ∀ z, z ≠ x → (∀ p ∈ ps c, z ≠ p.1) → stored.contains z = false → m z = m₀ z) : KJ Led ps P x stored m₀ i m (Led c) := ⟨c, rfl, hp, h1, h2⟩

theorem bytesK {σ : Type} {b : Array UInt8} {tb : Tok} {m₀ : Str → Option Value} (Led : σ → List (Addr × Obj)) (ps : σ → List (Str × Value)) (P : Nat → σ → Prop) (stored : List Str) (c₀ : σ)
    (hh : A.handled = none) (F : Fr h₀ env.locals s.heap m₀) (N : News h₀ env.locals s.heap (Led c₀)) (hk : ∀ p ∈ ps c₀, m₀ p.1 = some p.2) (hp : P 0 c₀)
    (turn : ∀ (i : Nat) (v : UInt8) t (c : σ) (u : Str → Option Value) h tk I oI, b[i]? = some v → (∀ p ∈ Led c, p.1 ≠ I) → P i c → Fr h₀ env.locals h (fun y => if y = x then some (.int (v.toNat : Int) t) else kstB (fun z => if stored.contains z then u z else m₀ z) (ps c) y) → News h₀ env.locals h ((I, oI) :: Led c) →
      wpAny (model prog w) A (execs body env) (PostI h₀ env.locals (KJ Led ps P x stored m₀ (i + 1)) I oI { s with heap := h, toks := tk } Q) E { s with heap := h, toks := tk })
    (done : ∀ (c : σ) (u : Str → Option Value) h tk, P b.size c → Fr h₀ env.locals h (fun y => if y = x then u y else kstB (fun z => if stored.contains z then u z else m₀ z) (ps c) y) → News h₀ env.locals h (Led c) → Q .next { s with heap := h, toks := tk }) :
    wpAny (model prog w) A (pyIter (.bytes b tb)) (fun it s₂ => LoopAtV prog w A h₀ env x body Q E it s₂) E s := by
  refine bytesI (KJ Led ps P x stored m₀) hh F N ⟨c₀, rfl, hp, hk, fun _ _ _ _ => rfl⟩ ?_ ?_
  · rintro i v t m₁ news₁ h tk I oI hv hne ⟨c, rfl, hp, h1, h2⟩ F₁ N₁
    exact turn i v t c m₁ h tk I oI hv hne hp (kst_fr h1 h2 F₁) N₁
  · rintro m₁ news₁ h tk ⟨c, rfl, hp, h1, h2⟩ F₁ N₁
    exact done c m₁ h tk hp (kst_frOut h1 h2 F₁) N₁

theorem rangeK {σ : Type} {r : Addr} {a₀ b₀ : Int} {t₀ u₀ v₀ : Tok} {n : Nat} {m₀ : Str → Option Value} (Led : σ → List (Addr × Obj)) (ps : σ → List (Str × Value)) (P : Nat → σ → Prop) (stored : List Str) (c₀ : σ)
    (hh : A.handled = none) (hr : IsRange s.heap r a₀ b₀ 1 t₀ u₀ v₀) (hsmall : Builtin.Range.small a₀ b₀ 1 = true) (hn : Builtin.Range.rangeSize a₀ b₀ 1 = (n : Int)) (F : Fr h₀ env.locals s.heap m₀) (N : News h₀ env.locals s.heap (Led c₀)) (hk : ∀ p ∈ ps c₀, m₀ p.1 = some p.2) (hp : P 0 c₀)
    (turn : ∀ (i : Nat) (k : Int) t (c : σ) (u : Str → Option Value) h tk I oI, i < n → k = a₀ + (i : Int) → (∀ p ∈ Led c, p.1 ≠ I) → P i c → Fr h₀ env.locals h (fun y => if y = x then some (.int k t) else kstB (fun z => if stored.contains z then u z else m₀ z) (ps c) y) → News h₀ env.locals h ((I, oI) :: Led c) →
      wpAny (model prog w) A (execs body env) (PostI h₀ env.locals (KJ Led ps P x stored m₀ (i + 1)) I oI { s with heap := h, toks := tk } Q) E { s with heap := h, toks := tk })
    (done : ∀ (c : σ) (u : Str → Option Value) h tk, P n c → Fr h₀ env.locals h (fun y => if y = x then u y else kstB (fun z => if stored.contains z then u z else m₀ z) (ps c) y) → News h₀ env.locals h (Led c) → Q .next { s with heap := h, toks := tk }) :
    wpAny (model prog w) A (pyIter (.ref r)) (fun it s₂ => LoopAtV prog w A h₀ env x body Q E it s₂) E s := by
  refine rangeI (KJ Led ps P x stored m₀) hh hr hsmall hn F N ⟨c₀, rfl, hp, hk, fun _ _ _ _ => rfl⟩ ?_ ?_
  · rintro i k t m₁ news₁ h tk I oI hi hv hne ⟨c, rfl, hp, h1, h2⟩ F₁ N₁
    exact turn i k t c m₁ h tk I oI hi hv hne hp (kst_fr h1 h2 F₁) N₁
  · rintro m₁ news₁ h tk ⟨c, rfl, hp, h1, h2⟩ F₁ N₁
    exact done c m₁ h tk hp (kst_frOut h1 h2 F₁) N₁

theorem listK {σ : Type} {l : Addr} {its : Array Value} {k : Nat} {m₀ : Str → Option Value} (Led : σ → List (Addr × Obj)) (ps : σ → List (Str × Value)) (P : Nat → σ → Prop) (stored : List Str) (c₀ : σ)
    (hh : A.handled = none) (F : Fr h₀ env.locals s.heap m₀) (N : News h₀ env.locals s.heap (Led c₀)) (hl : ∀ c, (l, PySem.W.listOf its k) ∈ Led c) (hk : ∀ p ∈ ps c₀, m₀ p.1 = some p.2) (hp : P 0 c₀)
    (turn : ∀ (i : Nat) v (c : σ) (u : Str → Option Value) h tk I oI, its[i]? = some v → (∀ p ∈ Led c, p.1 ≠ I) → P i c → Fr h₀ env.locals h (fun y => if y = x then some v else kstB (fun z => if stored.contains z then u z else m₀ z) (ps c) y) → News h₀ env.locals h ((I, oI) :: Led c) →
      wpAny (model prog w) A (execs body env) (PostI h₀ env.locals (KJ Led ps P x stored m₀ (i + 1)) I oI { s with heap := h, toks := tk } Q) E { s with heap := h, toks := tk })
    (done : ∀ (c : σ) (u : Str → Option Value) h tk, P its.size c → Fr h₀ env.locals h (fun y => if y = x then u y else kstB (fun z => if stored.contains z then u z else m₀ z) (ps c) y) → News h₀ env.locals h (Led c) → Q .next { s with heap := h, toks := tk }) :
    wpAny (model prog w) A (pyIter (.ref l)) (fun it s₂ => LoopAtV prog w A h₀ env x body Q E it s₂) E s := by
  refine listI (KJ Led ps P x stored m₀) hh F N (fun i m nx ⟨c, e, _⟩ => e ▸ hl c) ⟨c₀, rfl, hp, hk, fun _ _ _ _ => rfl⟩ ?_ ?_
  · rintro i v m₁ news₁ h tk I oI hv hne ⟨c, rfl, hp, h1, h2⟩ F₁ N₁
    exact turn i v c m₁ h tk I oI hv hne hp (kst_fr h1 h2 F₁) N₁
  · rintro m₁ news₁ h tk ⟨c, rfl, hp, h1, h2⟩ F₁ N₁
    exact done c m₁ h tk hp (kst_frOut h1 h2 F₁) N₁
end

end
section
theorem flushL1 {M : Model} {A : Around} {env : Env} {Q : Flow → Shared → Prop} {E : Value → Shared → Prop} {s : Shared} (h : wpAny M A (execs [] env) Q E s) : wpAny M A (execs [] env) Q E s := by
  first | (walk1; fail "flush") | exact h
theorem fillL1 (P : Params) : PySem.Challenge.rw_on0362_01.prog = PySem.Challenge.rw_on0362_01.prog ∧ hd.heap_39 P = hd.heap_39 P := by
  k_fill
  exact ⟨rfl, rfl⟩
section
variable {w : World} {A A₀ : Around} {d u : Nat} {gs : List Code} {base h₀ : Heap} {outer : List Env} {env : Env} {mg mb : Str → Option Value} {mean : ExcName → Option Value}
    {L : Addr} {m : Str → Option Value} {news : List (Addr × Obj)} {s : Shared} {Q : Value → Shared → Prop} {E : Value → Shared → Prop}


theorem ListComp_sg {prog : Program} {env : Env} {elt iter : Expr} {x : Str} {px : Pos} {scope : Scope} {cl : List (Str × Addr)} {pos : Pos} {Q : Value → Shared → Prop}
    (F₀ : Fr h₀ L s.heap m) (N₀ : News h₀ L s.heap news) (hh : A.handled = none) (hclos : closureFor scope env = pure cl) (hcell : ∀ y ∈ scope.names, y.2 ≠ .cell) (hkind : scope.kind = .function)
    (hnames : ∀ y ∈ scope.names, y.2 = .local → scope.names.lookup y.1 = some .local) (hx : scope.names.lookup x = some .local)
    (h : wpAny (model prog w) A (eval iter env) (fun xv s₁ => ∃ y t, xv = .str y t ∧ y.length ≤ sizeLine ∧ Fr h₀ L s₁.heap m ∧ News h₀ L s₁.heap news ∧
      (∀ C c u s₂ m₂ E', s₁.heap.objs.size ≤ C → s₂.heap.Ns (compEnvC scope cl C env).locals m₂ → m₂ x = some (.str ⟨#[c]⟩ u) → (∀ b o, s₁.heap.get? b = some o → s₂.heap.get? b = some o) →
        wpAny (model prog w) A (eval elt (compEnvC scope cl C env)) (fun r s₃ => (∃ t, r = .int (c : Nat) t) ∧ Keeps s₂ s₃) E' s₂) ∧
      (∀ D (ys : List Value) h' tk, Fr h₀ L h' m → News h₀ L h' news → (∃ n, News h₀ L h' ((D, listOf ys.toArray n) :: news)) → (∀ p ∈ news, p.1 ≠ D) → IntsAre ys (y.cps.toList.map (fun (c : Nat) => (c : Int))) → Q (.ref D) { s₁ with heap := h', toks := tk })) E s)
    (hs : ∀ x, foldedSetIterable iter env x = pure x) :
    wpAny (model prog w) A (eval (.ListComp elt [⟨.Name x px, iter, [], 0⟩] scope pos) env) Q E s := by
  refine wpAny_ListComp_free (fun _ => true) (fun v r => ∃ c u t, v = Value.str ⟨#[c]⟩ u ∧ r = Value.int (c : Nat) t) hclos hcell hkind hnames hx (wpAny_mono h (fun xv s₁ h₁ => ?_) fun _ _ e => e) hs
  obtain ⟨y, t, rfl, hsz, F, N, helt, hQ⟩ := h₁
  refine wpAny_pyIter_str fun o St W hst => ?_
  have up : ∀ (h' : Heap), (∀ b o', b ∉ [s₁.heap.objs.size] → (s₁.heap.push o).get? b = some o' → h'.get? b = some o') → ∀ b o', s₁.heap.get? b = some o' → h'.get? b = some o' :=
    fun h' hk b o' e => hk b o' (old_not_new e) (Heap.get?_push_of_some _ e)
  refine ⟨s₁.heap.objs.size, [s₁.heap.objs.size], [s₁.heap.objs.size], y.cps.size, SignAt y, St, rfl, W A hh, hsz, hst, ?_, ⟨?_, ?_⟩, ?_⟩
  · intro b hb
    show b < (s₁.heap.push o).objs.size
    rw [Heap.size_push, List.mem_singleton.mp hb]
    exact Nat.lt_succ_self _
  · intro C i v s₃ m₃ E' hC hP hn hm hk _
    exact wpAny_pure ⟨rfl, _, _, rfl, fun _ _ e => e⟩
  · intro C i v s₃ m₃ E' hC hP hp hn hm hk _
    obtain ⟨c, u, _, rfl⟩ := hP
    exact wpAny_mono (helt C c u s₃ m₃ E' (Nat.le_of_succ_le (by simpa [Heap.size_push] using hC)) hn hm (up s₃.heap hk)) (fun r s₄ h₄ => ⟨⟨c, u, h₄.1.choose, rfl, h₄.1.choose_spec⟩, h₄.2⟩) fun _ _ e => e
  · intro D h' tk ys vs hnew hlD hplD hlen hP hF hk
    have hD : s₁.heap.get? D = none := by
      cases e : s₁.heap.get? D with
      | none => rfl
      | some o' => rw [Heap.get?_push_of_some _ e] at hnew; cases hnew
    have hDL : D ≠ L := by
      rintro rfl
      obtain ⟨o', _, _, e, _⟩ := F.ns
      rw [hD] at e; cases e
    have hD0 : h₀.get? D = none := by
      cases e : h₀.get? D with
      | none => rfl
      | some o' => rw [F.keep _ _ e] at hD; cases hD
    obtain ⟨n, hpl⟩ := hplD
    have N' := N.grown (up h' hk)
    refine hQ D ys.toList h' tk (F.keeps (up h' hk)) N' ⟨n, ?_⟩ ?_ ?_
    · intro p hp
      rcases List.mem_cons.mp hp with rfl | hp
      · exact ⟨by rw [Array.toArray_toList]; exact hpl, hDL, hD0⟩
      · exact N' p hp
    · intro p hp e
      have := (N p hp).1
      rw [e, hD] at this; cases this
    · have key : ∀ (zs : List Value) (i : Nat) (vs : List Value), (∀ j v, vs[j]? = some v → SignAt y (i + j) v) → Paired (fun v r => ∃ c u t, v = Value.str ⟨#[c]⟩ u ∧ r = Value.int (c : Nat) t) vs zs → i + vs.length = y.cps.size → IntsAre zs ((y.cps.toList.drop i).map (fun (c : Nat) => (c : Int))) := by
        intro zs
        induction zs with
        | nil =>
          intro i vs hv hp hl
          cases hp
          rw [List.drop_eq_nil_of_le (by simp at hl ⊢; omega)]
          exact .nil
        | cons z zs ih =>
          intro i vs hv hp hl
          cases hp with
          | cons h1 h2 =>
            rename_i v vs
            obtain ⟨c, u, t, rfl, rfl⟩ := h1
            obtain ⟨c', u', e1, e2⟩ := hv 0 _ rfl
            have e3 : c' = c := by
              injection e2 with e2 _
              have := congrArg Str.cps e2
              simp at this
              exact this.symm
            subst e3
            have hi : i < y.cps.toList.length := by simp at hl ⊢; omega
            rw [List.drop_eq_getElem_cons hi, List.map_cons]
            have e4 : y.cps.toList[i] = c' := by
              have e1' : y.cps[i]? = some c' := by simpa using e1
              obtain ⟨_, e5⟩ := Array.getElem?_eq_some_iff.mp e1'
              simpa using e5
            rw [e4]
            refine .cons _ _ (ih (i + 1) vs (fun j v hj => ?_) h2 (by simp at hl; omega))
            have := hv (j + 1) v (by simpa using hj)
            rwa [show i + (j + 1) = i + 1 + j by omega] at this
      have := key ys.toList 0 vs (fun j v hj => by simpa using hP j v hj) (by rw [List.filter_eq_self.mpr (fun _ _ => rfl)] at hF; exact hF) (by simpa using hlen)
      simpa using this
theorem codes1 {sv : Str} {t : Tok} (B : Below A₀ base outer h₀) (F : Fr h₀ L s.heap m)
    (N : News h₀ L s.heap news)
    (X : (hd.heap_39 w.params).In h₀) (T : Top view (looseW view [Str.ofString "UniError"]) mean mg mb h₀)
    (hf : env.frame = some L) (hk : env.scope.kind = .function) (hA : A = ⟨none, d, some (env :: outer), some gs, u⟩) (hroom : d < 890) (hu : u < 8900)
    (hlen : sv.length < 100)
    (h : ∀ x h' tk vs n, (∀ p ∈ news, p.1 ≠ x) → IntsAre vs (sv.cps.toList.map (fun (c : Nat) => (c : Int))) → Fr h₀ L h' m → News h₀ L h' ((x, listOf vs.toArray n) :: news) → Q (.ref x) { s with heap := h', toks := tk }) :
    wpAny (model PySem.Challenge.rw_on0362_01.row.prog w) A (call (.ref 101) [.str sv t]) Q E s := by
  subst hA
  refine wpAny_call ?_
  refine' code_def B F X N T rfl hf hk ?k6 ?k7 ?k8 ?k9 ?kB ?_ ?c2 ?c3 ?c4 ?c5
  case k6 => k_is
  case k7 => k_is
  case k8 => k_room
  case k9 => exact BindsTo.of_eq rfl
  case kB => exact locs rfl
  case c2 => rfl
  case c3 => rfl
  case c4 => rfl
  case c5 => decide
  clear B F X N T
  intro g' L' h' FG' F' N' B' X' T'
  dsimp only
  refine wpAny_execs_cons ?_
  refine wpAny_Return_some ?_
  refine ListComp_sg F' N' rfl rfl (by decide) rfl (by decide) rfl ?_ (fun _ => rfl)
  k_steps
  · rw [sizeLine_eq]; omega
  · assumption
  · assumption
  · exact ⟨_, _, rfl, fun _ _ e => e⟩
  · dsimp only
    rename Fr _ _ _ _ => F2
    rename (∃ n, News _ _ _ _) => N2
    rename IntsAre _ _ => hi
    rename (∀ p ∈ news, p.1 ≠ _) => hne
    obtain ⟨n, N2⟩ := N2
    refine leaveK_ F2 N2 ?_
    intro kF kN
    exact h _ _ _ _ _ hne hi kF kN
end

end
section
theorem flushL2 {M : Model} {A : Around} {env : Env} {Q : Flow → Shared → Prop} {E : Value → Shared → Prop} {s : Shared} (h : wpAny M A (execs [] env) Q E s) : wpAny M A (execs [] env) Q E s := by
  first | (walk1; fail "flush") | exact h
theorem fillL2 (P : Params) : PySem.Challenge.rw_on0362_01.prog = PySem.Challenge.rw_on0362_01.prog ∧ hd.heap_39 P = hd.heap_39 P := by
  k_fill
  exact ⟨rfl, rfl⟩
section
variable {w : World} {A A₀ : Around} {d u : Nat} {gs : List Code} {base h₀ : Heap} {outer : List Env} {env : Env} {mg mb : Str → Option Value} {mean : ExcName → Option Value}
    {L : Addr} {m : Str → Option Value} {news : List (Addr × Obj)} {s : Shared} {Q : Value → Shared → Prop} {E : Value → Shared → Prop}
noncomputable def bytesOf (sv : Str) : Array UInt8 := ((sv.cps.toList.map (fun (c : Nat) => (c : Int))).map fun n => n.toNat.toUInt8).toArray
theorem intsAt : ∀ {vs : List Value} {ns : List Int} {i : Nat} {v : Value}, IntsAre vs ns → vs[i]? = some v → ∃ n, ns[i]? = some n ∧ ∃ t, v = .int n t
  | _, _, i, v, .nil, h => by simp at h
  | _, _, 0, v, .cons n t r, h => ⟨n, rfl, t, (Option.some.inj h).symm⟩
  | _, _, i + 1, v, .cons n t r, h => by simpa using intsAt r (by simpa using h)
local macro_rules | `(tactic| walk_at "call ref") => `(tactic| (
  k_here
  refine' codes1 ?k1 ?k2 ?k3 ?k6 ?k7 ?k8 ?k9 rfl ?k10 ?k11 ?e0 ?_
  case k1 | k2 | k3 | k6 | k7 => k_asm
  case k8 | k9 => with_unfolding_all rfl
  case k10 | k11 => (simp only [Around.deeper, Around.in1, Around.mark] <;> omega)
  case e0 => (omega)
  k_whole
  intro x' h' tk' vs' n' hne' hi' F' N'))

theorem octets1 {sv : Str} {t : Tok} (B : Below A₀ base outer h₀) (F : Fr h₀ L s.heap m)
    (N : News h₀ L s.heap news)
    (X : (hd.heap_39 w.params).In h₀) (T : Top view (looseW view [Str.ofString "UniError"]) mean mg mb h₀)
    (hf : env.frame = some L) (hk : env.scope.kind = .function) (hA : A = ⟨none, d, some (env :: outer), some gs, u⟩) (hroom : d < 880) (hu : u < 8800)
    (hlen : sv.length < 100) (hasc : ∀ c ∈ sv.cps.toList, c < 128)
    (h : ∀ h' tk t', Fr h₀ L h' m → News h₀ L h' news → Q (.bytes (bytesOf sv) t') { s with heap := h', toks := tk }) :
    wpAny (model PySem.Challenge.rw_on0362_01.row.prog w) A (call (.ref 108) [.str sv t]) Q E s := by
  subst hA
  refine wpAny_call ?_
  refine' code_def B F X N T rfl hf hk ?k6 ?k7 ?k8 ?k9 ?kB ?_ ?c2 ?c3 ?c4 ?c5
  case k6 => k_is
  case k7 => k_is
  case k8 => k_room
  case k9 => exact BindsTo.of_eq rfl
  case kB => exact locs rfl
  case c2 => rfl
  case c3 => rfl
  case c4 => rfl
  case c5 => decide
  clear B F X N T
  intro g' L' h' FG' F' N' B' X' T'
  dsimp only
  k_steps
  rename Fr _ _ _ _ => F1
  rename News _ _ _ _ => N1
  rename IntsAre _ _ => hi
  refine listS rfl F1 N1 (.head _) ?_ ?_
  · clear F1 N1
    intro i v hp tk I oI hv hne F' N'
    have hv2 := (List.getElem?_toArray ..).symm.trans hv
    obtain ⟨c, hc, t, rfl⟩ : ∃ c : Nat, c < 128 ∧ ∃ t, v = .int (c : Int) t := by
      obtain ⟨k, hk, t, rfl⟩ := intsAt hi hv2
      rw [List.getElem?_map] at hk
      cases hq : sv.cps.toList[i]? with
      | none => rw [hq] at hk; cases hk
      | some c =>
        rw [hq] at hk
        exact ⟨c, hasc c (List.mem_of_getElem? hq), t, by rw [← Option.some.inj hk]⟩
    k_steps
    refine EndI.intro F' N' hne ⟨rfl, ?_⟩
    intro z hz
    exact if_neg hz
  · clear F1 N1
    intro u hp tk F' N'
    k_steps
    refine bytes_K F' N' (News.isList N' (.head _)) hi ?_ ?_ rfl ?_
    · intro n hn
      obtain ⟨c, hc, rfl⟩ := List.mem_map.mp hn
      have := hasc c hc
      omega
    · have := hi.length
      simp at this
      rw [sizeLine_eq]
      have e : sv.length = sv.cps.size := rfl
      omega
    · intro h' t' k F' N' _
      refine leaveK_ F' N' ?_
      intro kF kN
      exact h _ _ _ kF (fun p hp => kN p (.tail _ hp))
end

end
section
theorem flushL3 {M : Model} {A : Around} {env : Env} {Q : Flow → Shared → Prop} {E : Value → Shared → Prop} {s : Shared} (h : wpAny M A (execs [] env) Q E s) : wpAny M A (execs [] env) Q E s := by
  first | (walk1; fail "flush") | exact h
theorem fillL3 (P : Params) : PySem.Challenge.rw_on0362_01.prog = PySem.Challenge.rw_on0362_01.prog ∧ hd.heap_39 P = hd.heap_39 P := by
  k_fill
  exact ⟨rfl, rfl⟩
local macro_rules | `(tactic| walk_at "KJOFF") => `(tactic| (
  intro z h1 h2 h3
  have h4 := h3
  simp only [List.forall_mem_cons, List.not_mem_nil, false_implies, implies_true, and_true] at h2
  simp only [List.contains_cons, List.contains_nil, Bool.or_false, Bool.or_eq_false_iff, beq_eq_false_iff_ne, ne_eq] at h3
  simp only [h1, h2, h3, h4, Bool.false_eq_true, if_false]))
section
variable {w : World} {A A₀ : Around} {d u : Nat} {gs : List Code} {base h₀ : Heap} {outer : List Env} {env : Env} {mg mb : Str → Option Value} {mean : ExcName → Option Value}
    {L : Addr} {m : Str → Option Value} {news : List (Addr × Obj)} {s : Shared} {Q : Value → Shared → Prop} {E : Value → Shared → Prop}
noncomputable def hexV (c : Int) : Int := if c ≤ 57 then c - 48 else if c ≤ 70 then c - 55 else c - 87
noncomputable def isHex (c : Int) : Prop := (48 ≤ c ∧ c ≤ 57) ∨ (65 ≤ c ∧ c ≤ 70) ∨ (97 ≤ c ∧ c ≤ 102)

theorem hex1 {c : Int} {t : Tok} (B : Below A₀ base outer h₀) (F : Fr h₀ L s.heap m)
    (N : News h₀ L s.heap news)
    (X : (hd.heap_39 w.params).In h₀) (T : Top view (looseW view [Str.ofString "UniError"]) mean mg mb h₀)
    (hf : env.frame = some L) (hk : env.scope.kind = .function) (hA : A = ⟨none, d, some (env :: outer), some gs, u⟩) (hroom : d < 880) (hu : u < 8800)
    (hx : isHex c)
    (h : ∀ h' tk t', Fr h₀ L h' m → News h₀ L h' news → Q (.int (hexV c) t') { s with heap := h', toks := tk }) :
    wpAny (model PySem.Challenge.rw_on0362_01.row.prog w) A (call (.ref 115) [.int c t]) Q E s := by
  subst hA
  refine wpAny_call ?_
  refine' code_def B F X N T rfl hf hk ?k6 ?k7 ?k8 ?k9 ?kB ?_ ?c2 ?c3 ?c4 ?c5
  case k6 => k_is
  case k7 => k_is
  case k8 => k_room
  case k9 => exact BindsTo.of_eq rfl
  case kB => exact locs rfl
  case c2 => rfl
  case c3 => rfl
  case c4 => rfl
  case c5 => decide
  clear B F X N T
  intro g' L' h' FG' F' N' B' X' T'
  dsimp only
  k_steps
  all_goals dsimp only
  all_goals rename Fr _ _ _ _ => F1
  all_goals rename News _ _ _ _ => N1
  all_goals refine leaveK_ F1 N1 ?_
  all_goals intro kF kN
  all_goals unfold isHex at hx
  all_goals first
    | (exfalso; omega)
    | skip
  · have e : hexV c = c - 48 := by unfold hexV; rw [if_pos (by omega)]
    rw [← e]; exact h _ _ _ kF kN
  · have e : hexV c = c - 55 := by unfold hexV; rw [if_neg (by omega), if_pos (by omega)]
    rw [← e]; exact h _ _ _ kF kN
  · have e : hexV c = c - 87 := by unfold hexV; rw [if_neg (by omega), if_neg (by omega)]
    rw [← e]; exact h _ _ _ kF kN

local macro_rules | `(tactic| walk_at "call ref") => `(tactic| (
  k_here
  refine' hex1 ?k1 ?k2 ?k3 ?k6 ?k7 ?k8 ?k9 rfl ?k10 ?k11 ?e0 ?_
  case k1 | k2 | k3 | k6 | k7 => k_asm
  case k8 | k9 => with_unfolding_all rfl
  case k10 | k11 => (simp only [Around.deeper, Around.in1, Around.mark] <;> omega)
  case e0 => (assumption)
  k_whole
  intro h' tk' t' F' N'))

noncomputable def hexNum (b : List UInt8) : Int := b.foldl (fun a c => 16 * a + hexV (c.toNat : Int)) 0
theorem hexV_bound {c : Int} (h : isHex c) : 0 ≤ hexV c ∧ hexV c < 16 := by
  unfold isHex at h
  unfold hexV
  split
  · omega
  · split <;> omega
theorem hexNum_go (b : List UInt8) : ∀ (a n : Int), (∀ c ∈ b, isHex (c.toNat : Int)) → 0 ≤ a → a < n → 0 ≤ b.foldl (fun a c => 16 * a + hexV (c.toNat : Int)) a ∧ b.foldl (fun a c => 16 * a + hexV (c.toNat : Int)) a < n * 16 ^ b.length := by
  induction b with
  | nil => intro a n _ h1 h2; simp; omega
  | cons c r ih =>
    intro a n hx h1 h2
    have hv := hexV_bound (hx c (.head _))
    have := ih (16 * a + hexV (c.toNat : Int)) (16 * n) (fun x h => hx x (.tail _ h)) (by omega) (by omega)
    simp only [List.foldl_cons, List.length_cons]
    refine ⟨this.1, ?_⟩
    have e : n * 16 ^ (r.length + 1) = 16 * n * 16 ^ r.length := by rw [Int.pow_succ, Int.mul_comm (16 ^ r.length) 16, ← Int.mul_assoc, Int.mul_comm n 16]
    rw [e]; exact this.2
theorem hexNum_bound (b : List UInt8) (hx : ∀ c ∈ b, isHex (c.toNat : Int)) (hl : b.length < 6) : 0 ≤ hexNum b ∧ hexNum b < 1048576 := by
  have := hexNum_go b 0 1 hx (by decide) (by decide)
  refine ⟨this.1, Int.lt_of_lt_of_le this.2 ?_⟩
  have : ∀ n, n < 6 → (1 : Int) * 16 ^ n ≤ 1048576 := by decide
  exact this _ hl
theorem code1 {b : Array UInt8} {t : Tok} (B : Below A₀ base outer h₀) (F : Fr h₀ L s.heap m)
    (N : News h₀ L s.heap news)
    (X : (hd.heap_39 w.params).In h₀) (T : Top view (looseW view [Str.ofString "UniError"]) mean mg mb h₀)
    (hf : env.frame = some L) (hk : env.scope.kind = .function) (hA : A = ⟨none, d, some (env :: outer), some gs, u⟩) (hroom : d < 860) (hu : u < 8600)
    (hlen : 1 ≤ b.size ∧ b.size ≤ 6) (hx : ∀ c ∈ b.toList, isHex (c.toNat : Int)) (hm : hexNum b.toList ≤ 1114111)
    (h : ∀ h' tk t', Fr h₀ L h' m → News h₀ L h' news → Q (.int (hexNum b.toList) t') { s with heap := h', toks := tk }) :
    wpAny (model PySem.Challenge.rw_on0362_01.row.prog w) A (call (.ref 122) [.bytes b t]) Q E s := by
  subst hA
  refine wpAny_call ?_
  refine' code_def B F X N T rfl hf hk ?k6 ?k7 ?k8 ?k9 ?kB ?_ ?c2 ?c3 ?c4 ?c5
  case k6 => k_is
  case k7 => k_is
  case k8 => k_room
  case k9 => exact BindsTo.of_eq rfl
  case kB => exact locs rfl
  case c2 => rfl
  case c3 => rfl
  case c4 => rfl
  case c5 => decide
  clear B F X N T
  intro g' L' h' FG' F' N' B' X' T'
  dsimp only
  k_steps
  rename Fr _ _ _ _ => F1
  rename News _ _ _ _ => N1
  refine bytesK (σ := Int × Tok) (fun _ => news) (fun c => [(Str.ofString "number", .int c.1 c.2)]) (fun i c => c.1 = hexNum (b.toList.take i)) [Str.ofString "digit"] (0, _) rfl F1 N1 (List.forall_mem_cons.mpr ⟨rfl, List.forall_mem_nil _⟩) rfl ?_ ?_
  · clear F1 N1
    rintro i c t ⟨num, tn⟩ u hp tk I oI hc hne hP F' N'
    have hin : i < b.size := (Array.getElem?_eq_some_iff.mp hc).1
    have hcl : b.toList[i]? = some c := by simpa using hc
    have hhx := hx c (List.mem_of_getElem? hcl)
    have hstep : hexNum (b.toList.take (i + 1)) = 16 * hexNum (b.toList.take i) + hexV (c.toNat : Int) := by
      unfold hexNum
      rw [List.take_add_one, hcl, List.foldl_append]
      rfl
    have hb := hexNum_bound (b.toList.take i) (fun x hx' => hx x (List.mem_of_mem_take hx')) (by simp; omega)
    dsimp only at hP
    rw [← hP] at hstep hb
    have hv := hexV_bound hhx
    clear hP
    dsimp only [kstB] at F'
    k_steps
    rename Fr _ _ _ _ => F1
    rename News _ _ _ _ => N1
    dsimp only
    refine EndI.intro F1 N1 hne (KJ.intro (Led := fun _ => news) (_, _) ?_ (List.forall_mem_cons.mpr ⟨rfl, List.forall_mem_nil _⟩) ?_)
    · rw [hstep]
    · walk_at "KJOFF"
  · clear F1 N1
    rintro ⟨num, tn⟩ u hp tk hP F' N'
    dsimp only at hP
    rw [List.take_of_length_le (by simp)] at hP
    rw [← hP] at hm h
    dsimp only [kstB] at F'
    k_steps
    rename Fr _ _ _ _ => F1
    rename News _ _ _ _ => N1
    dsimp only
    refine leaveK_ F1 N1 ?_
    intro kF kN
    exact h _ _ _ kF kN
end

end
section
theorem flushL4 {M : Model} {A : Around} {env : Env} {Q : Flow → Shared → Prop} {E : Value → Shared → Prop} {s : Shared} (h : wpAny M A (execs [] env) Q E s) : wpAny M A (execs [] env) Q E s := by
  first | (walk1; fail "flush") | exact h
theorem fillL4 (P : Params) : PySem.Challenge.rw_on0362_01.prog = PySem.Challenge.rw_on0362_01.prog ∧ hd.heap_39 P = hd.heap_39 P := by
  k_fill
  exact ⟨rfl, rfl⟩
local macro_rules | `(tactic| walk_at "KJOFF") => `(tactic| (
  intro z h1 h2 h3
  have h4 := h3
  simp only [List.forall_mem_cons, List.not_mem_nil, false_implies, implies_true, and_true] at h2
  simp only [List.contains_cons, List.contains_nil, Bool.or_false, Bool.or_eq_false_iff, beq_eq_false_iff_ne, ne_eq] at h3
  simp only [h1, h2, h3, h4, Bool.false_eq_true, if_false]))
section
variable {w : World} {A A₀ : Around} {d u : Nat} {gs : List Code} {base h₀ : Heap} {outer : List Env} {env : Env} {mg mb : Str → Option Value} {mean : ExcName → Option Value}
    {L : Addr} {m : Str → Option Value} {news : List (Addr × Obj)} {s : Shared} {Q : Value → Shared → Prop} {E : Value → Shared → Prop}
structure GoodW (sv : Str) : Prop where
  len : sv.length < 100
  asc : ∀ c ∈ sv.cps.toList, c < 128
  size : 1 ≤ (bytesOf sv).size ∧ (bytesOf sv).size ≤ 6
  hex : ∀ c ∈ (bytesOf sv).toList, isHex (c.toNat : Int)
  max : hexNum (bytesOf sv).toList ≤ 1114111
noncomputable def codeS (sv : Str) : Int := hexNum (bytesOf sv).toList
local macro_rules | `(tactic| walk_at "call ref") => `(tactic| (
  k_here
  refine' octets1 ?k1 ?k2 ?k3 ?k6 ?k7 ?k8 ?k9 rfl ?k10 ?k11 ?e0 ?e1 ?_
  case k1 | k2 | k3 | k6 | k7 => k_asm
  case k8 | k9 => with_unfolding_all rfl
  case k10 | k11 => (simp only [Around.deeper, Around.in1, Around.mark] <;> omega)
  case e0 => (exact GoodW.len (by assumption))
  case e1 => (exact GoodW.asc (by assumption))
  k_whole
  intro h' tk' t' F' N'))
local macro_rules | `(tactic| walk_at "call ref") => `(tactic| (
  k_here
  refine' code1 ?k1 ?k2 ?k3 ?k6 ?k7 ?k8 ?k9 rfl ?k10 ?k11 ?e0 ?e1 ?e2 ?_
  case k1 | k2 | k3 | k6 | k7 => k_asm
  case k8 | k9 => with_unfolding_all rfl
  case k10 | k11 => (simp only [Around.deeper, Around.in1, Around.mark] <;> omega)
  case e0 => (exact GoodW.size (by assumption))
  case e1 => (exact GoodW.hex (by assumption))
  case e2 => (exact GoodW.max (by assumption))
  k_whole
  intro h' tk' t' F' N'))

theorem small_code1 {sv : Str} {t : Tok} (B : Below A₀ base outer h₀) (F : Fr h₀ L s.heap m)
    (N : News h₀ L s.heap news)
    (X : (hd.heap_39 w.params).In h₀) (T : Top view (looseW view [Str.ofString "UniError"]) mean mg mb h₀)
    (hf : env.frame = some L) (hk : env.scope.kind = .function) (hA : A = ⟨none, d, some (env :: outer), some gs, u⟩) (hroom : d < 850) (hu : u < 8500)
    (hw : GoodW sv)
    (h : ∀ h' tk t', Fr h₀ L h' m → News h₀ L h' news → Q (.int (codeS sv) t') { s with heap := h', toks := tk }) :
    wpAny (model PySem.Challenge.rw_on0362_01.row.prog w) A (call (.ref 150) [.str sv t]) Q E s := by
  subst hA
  refine wpAny_call ?_
  refine' code_def B F X N T rfl hf hk ?k6 ?k7 ?k8 ?k9 ?kB ?_ ?c2 ?c3 ?c4 ?c5
  case k6 => k_is
  case k7 => k_is
  case k8 => k_room
  case k9 => exact BindsTo.of_eq rfl
  case kB => exact locs rfl
  case c2 => rfl
  case c3 => rfl
  case c4 => rfl
  case c5 => decide
  clear B F X N T
  intro g' L' h' FG' F' N' B' X' T'
  dsimp only
  k_steps
  dsimp only
  rename Fr _ _ _ _ => F1
  rename News _ _ _ _ => N1
  refine leaveK_ F1 N1 ?_
  intro kF kN
  exact h _ _ _ kF kN
local macro_rules | `(tactic| walk_at "call ref") => `(tactic| (
  k_here
  refine' small_code1 ?k1 ?k2 ?k3 ?k6 ?k7 ?k8 ?k9 rfl ?k10 ?k11 ?e0 ?_
  case k1 | k2 | k3 | k6 | k7 => k_asm
  case k8 | k9 => with_unfolding_all rfl
  case k10 | k11 => (simp only [Around.deeper, Around.in1, Around.mark] <;> omega)
  case e0 => (assumption)
  k_whole
  intro h' tk' t' F' N'))
local macro_rules | `(tactic| walk_at "call builtin:str.split") => `(tactic| (
  k_here
  refine KSpl.split1 (by k_asm) (by k_asm) (by decide) ?_ (by (rw [sizeLine_eq]; omega))
  intro D' l' h' k' e' a' F' N' l1
  replace e' := Eq.trans e' (by assumption)
  kspl_open e'
  simp only [strValues, List.map_cons, List.map_nil] at N' a'))
theorem of_AllLt {d : Nat} : ∀ {l : List (Addr × Obj)}, AllLt d l → ∀ p ∈ l, p.1 < d
  | [], _, _, hp => nomatch hp
  | q :: r, h, p, hp => by
    rcases List.mem_cons.mp hp with rfl | hp
    · exact h.1
    · exact of_AllLt h.2 p hp
theorem news_drop2 {h₀ h : Heap} {L : Addr} {p q : Addr × Obj} {r : List (Addr × Obj)} (N : News h₀ L h (p :: q :: r)) : News h₀ L h (p :: r) := fun x hx => by
  rcases List.mem_cons.mp hx with rfl | hx
  · exact N _ (.head _)
  · exact N _ (.tail _ (.tail _ hx))
theorem goodW_bounds {a : Str} (h : GoodW a) : 0 ≤ codeS a ∧ codeS a ≤ 1114111 := ⟨(hexNum_go _ 0 1 h.hex (by decide) (by decide)).1, h.max⟩
noncomputable def GoodSp (sv : Str) : Prop := (∃ a, Txt.split sv (Str.ofString "-") = [a] ∧ GoodW a) ∨ ∃ a b, Txt.split sv (Str.ofString "-") = [a, b] ∧ GoodW a ∧ GoodW b ∧ codeS a ≤ codeS b
noncomputable def spanL (sv : Str) : List Int := match Txt.split sv (Str.ofString "-") with
  | [a] => rangeKs (codeS a) 1
  | [a, b] => rangeKs (codeS a) (codeS b + 1 - codeS a).toNat
  | _ => []

theorem small_span1 {sv : Str} {t : Tok} (B : Below A₀ base outer h₀) (F : Fr h₀ L s.heap m)
    (N : News h₀ L s.heap news)
    (X : (hd.heap_39 w.params).In h₀) (T : Top view (looseW view [Str.ofString "UniError"]) mean mg mb h₀)
    (hf : env.frame = some L) (hk : env.scope.kind = .function) (hA : A = ⟨none, d, some (env :: outer), some gs, u⟩) (hroom : d < 840) (hu : u < 8400)
    (hl : sv.length < 100) (hg : GoodSp sv)
    (h : ∀ h' tk x vs n, (∀ p ∈ news, p.1 ≠ x) → IntsAre vs (spanL sv) → Fr h₀ L h' m → News h₀ L h' ((x, listOf vs.toArray n) :: news) → Q (.ref x) { s with heap := h', toks := tk }) :
    wpAny (model PySem.Challenge.rw_on0362_01.row.prog w) A (call (.ref 157) [.str sv t]) Q E s := by
  subst hA
  refine wpAny_call ?_
  refine' code_def B F X N T rfl hf hk ?k6 ?k7 ?k8 ?k9 ?kB ?_ ?c2 ?c3 ?c4 ?c5
  case k6 => k_is
  case k7 => k_is
  case k8 => k_room
  case k9 => exact BindsTo.of_eq rfl
  case kB => exact locs rfl
  case c2 => rfl
  case c3 => rfl
  case c4 => rfl
  case c5 => decide
  clear B F X N T
  intro g' L' h' FG' F' N' B' X' T'
  dsimp only
  rcases hg with ⟨a, hs, hw1⟩ | ⟨a, b, hs, hw1, hw2, hle⟩
  · have hsp : spanL sv = rangeKs (codeS a) 1 := by unfold spanL; rw [hs]
    have hb1 := goodW_bounds hw1
    k_steps
    rename Fr _ _ _ _ => F1
    rename News _ _ _ _ => N1
    rename IntsAre _ (rangeKs _ _) => hi
    rename _ ∧ AllLt _ news => l1
    dsimp only
    refine leaveK_ F1 N1 ?_
    intro kF kN
    rw [show (Int.toNat _) = 1 from by omega] at hi
    exact h _ _ _ _ _ (fun p hp => Nat.ne_of_lt (of_AllLt l1.2 p hp)) (hsp ▸ hi) kF (news_drop2 kN)
  · have hsp : spanL sv = rangeKs (codeS a) (codeS b + 1 - codeS a).toNat := by unfold spanL; rw [hs]
    have hb1 := goodW_bounds hw1
    have hb2 := goodW_bounds hw2
    k_steps
    rename Fr _ _ _ _ => F1
    rename News _ _ _ _ => N1
    rename IntsAre _ (rangeKs _ _) => hi
    rename _ ∧ AllLt _ news => l1
    dsimp only
    refine leaveK_ F1 N1 ?_
    intro kF kN
    rw [show (Int.toNat _) = (codeS b + 1 - codeS a).toNat from by omega] at hi
    exact h _ _ _ _ _ (fun p hp => Nat.ne_of_lt (of_AllLt l1.2 p hp)) (hsp ▸ hi) kF (news_drop2 kN)
end

end
local macro_rules | `(tactic| walk_at "KJOFF") => `(tactic| (
  intro z h1 h2 h3
  have h4 := h3
  simp only [List.forall_mem_cons, List.not_mem_nil, false_implies, implies_true, and_true] at h2
  simp only [List.contains_cons, List.contains_nil, Bool.or_false, Bool.or_eq_false_iff, beq_eq_false_iff_ne, ne_eq] at h3
  simp only [h1, h2, h3, h4, List.contains_cons, List.contains_nil, Bool.or_eq_true, beq_iff_eq, Bool.false_eq_true, or_false, if_false]))
section
theorem flushR1 {M : Model} {A : Around} {env : Env} {Q : Flow → Shared → Prop} {E : Value → Shared → Prop} {s : Shared} (h : wpAny M A (execs [] env) Q E s) : wpAny M A (execs [] env) Q E s := by
  first | (walk1; fail "flush") | exact h
theorem fillR1 (P : Params) : PySem.Challenge.rw_on0362_01.prog = PySem.Challenge.rw_on0362_01.prog ∧ hd.heap_39 P = hd.heap_39 P := by
  k_fill
  exact ⟨rfl, rfl⟩
section
variable {w : World} {A A₀ : Around} {d u : Nat} {gs : List Code} {base h₀ : Heap} {outer : List Env} {env : Env} {mg mb : Str → Option Value} {mean : ExcName → Option Value}
    {L : Addr} {m : Str → Option Value} {news : List (Addr × Obj)} {s : Shared} {Q : Value → Shared → Prop} {E : Value → Shared → Prop}
noncomputable def JoinP (g : Heap) (L : Addr) (news : List (Addr × Obj)) (m : Str → Option Value) (name val : Str) (s : Shared) (f : Flow) (s' : Shared) : Prop :=
  f = .next ∧ ∃ h' tk t, s' = { s with heap := h', toks := tk } ∧ Fr g L h' (fun y => if y = name then some (.str val t) else m y) ∧ News g L h' news
theorem JoinP.intro {g : Heap} {name val val' : Str} {t : Tok} {h' : Heap} {tk : Nat} {led : List (Addr × Obj)} (F : Fr g L h' (fun y => if y = name then some (.str val' t) else m y)) (N : News g L h' led) (hs : ∀ p ∈ news, p ∈ led) (e : val = val') : JoinP g L news m name val s .next { s with heap := h', toks := tk } :=
  e ▸ ⟨rfl, _, _, _, rfl, F, fun p hp => N p (hs p hp)⟩
theorem JoinP.same {g : Heap} {name val val' : Str} {t : Tok} {h' : Heap} {tk : Nat} {led : List (Addr × Obj)} (F : Fr g L h' (fun y => if y = name then some (.str val' t) else m y)) (N : News g L h' led) (hs : ∀ p ∈ news, p ∈ led) (e : val = val') : JoinP g L news (fun y => if y = name then some (.str val' t) else m y) name val s .next { s with heap := h', toks := tk } := by
  subst e
  refine ⟨rfl, _, _, t, rfl, ?_, fun p hp => N p (hs p hp)⟩
  have : (fun y => if y = name then some (Value.str val t) else if y = name then some (Value.str val t) else m y) = fun y => if y = name then some (Value.str val t) else m y := by
    funext y
    by_cases hy : y = name
    · simp only [if_pos hy]
    · simp only [if_neg hy]
  show Fr g L h' (fun y => if y = name then some (Value.str val t) else if y = name then some (Value.str val t) else m y)
  exact this ▸ F
noncomputable def JoinB (g : Heap) (L : Addr) (news : List (Addr × Obj)) (m : Str → Option Value) (name : Str) (val : Bool) (s : Shared) (f : Flow) (s' : Shared) : Prop :=
  f = .next ∧ ∃ h' tk, s' = { s with heap := h', toks := tk } ∧ Fr g L h' (fun y => if y = name then some (.bool val) else m y) ∧ News g L h' news
theorem join_stepB {M : Model} {st : Stmt} {rest : List Stmt} {g : Heap} {Q : Flow → Shared → Prop} {h : Heap} {s0 : Shared} (name : Str) (val : Bool) (F : Fr g L h m)
    (ha : wpAny M A (exec st env) (JoinB g L news m name val s) E s0)
    (hb : ∀ h' tk, Fr g L h' (fun y => if y = name then some (.bool val) else m y) → News g L h' news → wpAny M A (execs rest env) Q E { s with heap := h', toks := tk }) : wpAny M A (execs (st :: rest) env) Q E s0 := by
  refine wpAny_execs_cons (wpAny_mono ha ?_ (fun _ _ e => e))
  rintro f s' ⟨rfl, h', tk, rfl, F', N'⟩
  exact hb h' tk F' N'
theorem join_step {M : Model} {st : Stmt} {rest : List Stmt} {g : Heap} {Q : Flow → Shared → Prop} {h : Heap} {s0 : Shared} (name val : Str) (F : Fr g L h m)
    (ha : wpAny M A (exec st env) (JoinP g L news m name val s) E s0)
    (hb : ∀ h' tk t, Fr g L h' (fun y => if y = name then some (.str val t) else m y) → News g L h' news → wpAny M A (execs rest env) Q E { s with heap := h', toks := tk }) : wpAny M A (execs (st :: rest) env) Q E s0 := by
  refine wpAny_execs_cons (wpAny_mono ha ?_ (fun _ _ e => e))
  rintro f s' ⟨rfl, h', tk, t, rfl, F', N'⟩
  exact hb h' tk t F' N'
noncomputable def markB (gc : Str) : Bool := [S "Mn", S "Mc", S "Me"].any fun x => x == gc
noncomputable def line1R (gc sc : Str) : Str := bif sc == S "Thai" then S "SA" else bif markB gc then S "CM" else bif gc == S "Nd" then S "NU" else S "AL"
noncomputable def line2R (gc sc : Str) : Str := bif gc == S "Lo" then (bif [S "Hira", S "Kana", S "Hani", S "Hebr"].any (fun x => x == sc) then (bif sc == S "Hebr" then S "HL" else S "ID") else line1R gc sc) else line1R gc sc
noncomputable def clusR (gc : Str) : Str := bif gc == S "Mc" then S "SpacingMark" else bif markB gc then S "Extend" else bif [S "Cf", S "Zl"].any (fun x => x == gc) then S "Control" else S "Other"
noncomputable def dictR (D : List (PyData × PyData)) (k dflt : Str) : Str := match (Spec.lookup (.str k) D).getD (.str dflt) with | .str r => r | _ => S ""
theorem dictR_flat {D : List (PyData × PyData)} {k dflt : Str} {v : Value} (hs : PyProof.Rows.Shaped .str .str D) (h : PyProof.V.Flat v ((Spec.lookup (.str k) D).getD (.str dflt))) : ∃ t, v = .str (dictR D k dflt) t := by
  have e : (Spec.lookup (.str k) D).getD (.str dflt) = .str (dictR D k dflt) := by
    unfold dictR
    cases hl : Spec.lookup (.str k) D with
    | none => rfl
    | some dv =>
      have := hs.at hl
      cases dv <;> first | rfl | cases this
  rw [e] at h
  exact PyProof.V.Flat.str_inv h
noncomputable def word1R (sc : Str) : Str := bif [S "Hira", S "Hani", S "Thai"].any (fun x => x == sc) then S "Other" else S "ALetter"
noncomputable def word2D : List (PyData × PyData) := [(.str (S "Kana"), .str (S "Katakana")), (.str (S "Hebr"), .str (S "Hebrew_Letter"))]
noncomputable def word2R (sc : Str) : Str := dictR word2D sc (word1R sc)
noncomputable def word3D : List (PyData × PyData) := [(.str (S "Cf"), .str (S "Format")), (.str (S "Nd"), .str (S "Numeric"))]
noncomputable def word3R (gc sc : Str) : Str := bif Txt.item gc 0 != S "L" then (bif gc != S "Nl" then (bif markB gc then S "Extend" else dictR word3D gc (S "Other")) else word2R sc) else word2R sc
noncomputable def sent2D : List (PyData × PyData) := [(.str (S "Lu"), .str (S "Upper")), (.str (S "Lt"), .str (S "Upper")), (.str (S "Ll"), .str (S "Lower")), (.str (S "Lo"), .str (S "OLetter")), (.str (S "Lm"), .str (S "OLetter")), (.str (S "Nd"), .str (S "Numeric")), (.str (S "Cf"), .str (S "Format")), (.str (S "Zs"), .str (S "Sp")), (.str (S "Ps"), .str (S "Close")), (.str (S "Pf"), .str (S "Close"))]
noncomputable def sent2R (gc : Str) : Str := bif markB gc then S "Extend" else dictR sent2D gc (S "Other")
noncomputable def width2R (sc : Str) (hp : Bool) : Str := bif [S "Hira", S "Kana", S "Hani"].any (fun x => x == sc) then S "W" else bif [S "Grek", S "Cyrl"].any (fun x => x == sc) then (bif hp then S "N" else S "A") else S "N"
local macro_rules | `(tactic| walk_at "execs cons") => `(tactic| (refine cleanS rfl rfl rfl ?_; intro tk; refine wpAny_execs_cons ?_))
local macro_rules | `(tactic| walk_at "callWith") => `(tactic| (first | with_reducible refine callWith_method1 ?_ (starEach_dict _ _ _ _ _) (backTo_nil _ _) | (dsimp only; with_reducible refine callWith_method1 ?_ (starEach_dict _ _ _ _ _) (backTo_nil _ _))))
local macro_rules | `(tactic| walk_at "Exists") => `(tactic| (
  k_here
  refine kdp_made_str (by k_asm) (by k_asm) (Top.nolimit (by k_asm)) (by rfl) (by (simp only [strPairs, List.map_cons, List.map_nil]; decide +kernel)) (by rfl) ?_
  intro h' o' F' N' l1 lo' hd' hf' ap'
  try k_lt l1))
local macro_rules | `(tactic| walk_at "ite") => `(tactic| (first | with_reducible refine if_ff ?_ | with_reducible refine if_tt ?_))

theorem reck1 {gc sc : Str} {hp : Bool} {t1 t2 : Tok} (B : Below A₀ base outer h₀) (F : Fr h₀ L s.heap m)
    (N : News h₀ L s.heap news)
    (X : (hd.heap_39 w.params).In h₀) (T : Top view (looseW view [Str.ofString "UniError"]) mean mg mb h₀)
    (hf : env.frame = some L) (hk : env.scope.kind = .function) (hA : A = ⟨none, d, some (env :: outer), some gs, u⟩) (hroom : d < 830) (hu : u < 8300)
    (hg : gc.length = 2)
    (h : ∀ h' tk x t1 t2 t3 t4 t5, (∀ p ∈ news, p.1 < x) → Fr h₀ L h' m → News h₀ L h' ((x, ({ cls := .type "tuple", data := .seq #[.str (line2R gc sc) t1, .str (clusR gc) t2, .str (word3R gc sc) t3, .str (sent2R gc) t4, .str (width2R sc hp) t5] } : Obj)) :: news) → Q (.ref x) { s with heap := h', toks := tk }) :
    wpAny (model PySem.Challenge.rw_on0362_01.row.prog w) A (call (.ref 216) [.str gc t1, .str sc t2, .bool hp]) Q E s := by
  subst hA
  refine wpAny_call ?_
  refine' code_def B F X N T rfl hf hk ?k6 ?k7 ?k8 ?k9 ?kB ?_ ?c2 ?c3 ?c4 ?c5
  case k6 => k_is
  case k7 => k_is
  case k8 => k_room
  case k9 => exact BindsTo.of_eq rfl
  case kB => exact locs rfl
  case c2 => rfl
  case c3 => rfl
  case c4 => rfl
  case c5 => decide
  clear B F X N T
  intro g' L' h' FG' F' N' B' X' T'
  dsimp only
  refine join_stepB (s := s) (news := news) (Str.ofString "is_mark") (markB gc) F' ?_ ?_
  · k_steps
    rename Fr _ _ _ _ => F1
    rename News _ _ _ _ => N1
    exact ⟨rfl, _, _, rfl, F1, fun p hp => N1 p (.tail _ hp)⟩
  clear F' N'
  intro h' tk F' N'
  generalize hmk : markB gc = mk at F'
  refine join_step (s := s) (news := news) (Str.ofString "line") (line1R gc sc) F' ?_ ?_
  · k_steps
    all_goals dsimp only
    all_goals rename Fr _ _ _ _ => F1
    all_goals rename News _ _ _ _ => N1
    all_goals first | refine JoinP.intro F1 N1 (by first | exact fun p hp => hp | exact fun p hp => .tail _ hp | exact fun p hp => .tail _ (.tail _ hp) | exact fun p hp => .tail _ (.tail _ (.tail _ hp))) ?_ | refine JoinP.same F1 N1 (by first | exact fun p hp => hp | exact fun p hp => .tail _ hp | exact fun p hp => .tail _ (.tail _ hp) | exact fun p hp => .tail _ (.tail _ (.tail _ hp))) ?_
    all_goals unfold line1R
    all_goals try rw [hmk]
    all_goals repeat (first | refine (bT (by assumption)).trans ?_ | refine (bF (by assumption)).trans ?_)
    all_goals first | exact rfl | assumption | (unfold word2R; rw [hv4]; assumption)
  clear F' N'
  intro h' tk tt1 F' N'
  generalize hv1 : line1R gc sc = v1 at F'
  refine join_step (s := s) (news := news) (Str.ofString "line") (line2R gc sc) F' ?_ ?_
  · k_steps
    all_goals dsimp only
    all_goals rename Fr _ _ _ _ => F1
    all_goals rename News _ _ _ _ => N1
    all_goals first | refine JoinP.intro F1 N1 (by first | exact fun p hp => hp | exact fun p hp => .tail _ hp | exact fun p hp => .tail _ (.tail _ hp) | exact fun p hp => .tail _ (.tail _ (.tail _ hp))) ?_ | refine JoinP.same F1 N1 (by first | exact fun p hp => hp | exact fun p hp => .tail _ hp | exact fun p hp => .tail _ (.tail _ hp) | exact fun p hp => .tail _ (.tail _ (.tail _ hp))) ?_
    all_goals unfold line2R
    all_goals try rw [hmk]
    all_goals repeat (first | refine (bT (by assumption)).trans ?_ | refine (bF (by assumption)).trans ?_)
    all_goals first | exact rfl | assumption | (unfold word2R; rw [hv4]; assumption)
  clear F' N'
  intro h' tk tt2 F' N'
  generalize hv2 : line2R gc sc = v2 at F'
  refine join_step (s := s) (news := news) (Str.ofString "cluster") (clusR gc) F' ?_ ?_
  · k_steps
    all_goals dsimp only
    all_goals rename Fr _ _ _ _ => F1
    all_goals rename News _ _ _ _ => N1
    all_goals first | refine JoinP.intro F1 N1 (by first | exact fun p hp => hp | exact fun p hp => .tail _ hp | exact fun p hp => .tail _ (.tail _ hp) | exact fun p hp => .tail _ (.tail _ (.tail _ hp))) ?_ | refine JoinP.same F1 N1 (by first | exact fun p hp => hp | exact fun p hp => .tail _ hp | exact fun p hp => .tail _ (.tail _ hp) | exact fun p hp => .tail _ (.tail _ (.tail _ hp))) ?_
    all_goals unfold clusR
    all_goals try rw [hmk]
    all_goals repeat (first | refine (bT (by assumption)).trans ?_ | refine (bF (by assumption)).trans ?_)
    all_goals first | exact rfl | assumption | (unfold word2R; rw [hv4]; assumption)
  clear F' N'
  intro h' tk tt3 F' N'
  generalize hv3 : clusR gc = v3 at F'
  refine join_step (s := s) (news := news) (Str.ofString "word") (word1R sc) F' ?_ ?_
  · k_steps
    all_goals dsimp only
    all_goals rename Fr _ _ _ _ => F1
    all_goals rename News _ _ _ _ => N1
    all_goals first | refine JoinP.intro F1 N1 (by first | exact fun p hp => hp | exact fun p hp => .tail _ hp | exact fun p hp => .tail _ (.tail _ hp) | exact fun p hp => .tail _ (.tail _ (.tail _ hp))) ?_ | refine JoinP.same F1 N1 (by first | exact fun p hp => hp | exact fun p hp => .tail _ hp | exact fun p hp => .tail _ (.tail _ hp) | exact fun p hp => .tail _ (.tail _ (.tail _ hp))) ?_
    all_goals unfold word1R
    all_goals try rw [hmk]
    all_goals repeat (first | refine (bT (by assumption)).trans ?_ | refine (bF (by assumption)).trans ?_)
    all_goals first | exact rfl | assumption | (unfold word2R; rw [hv4]; assumption)
  clear F' N'
  intro h' tk tt4 F' N'
  generalize hv4 : word1R sc = v4 at F'
  refine join_step (s := s) (news := news) (Str.ofString "word") (dictR word2D sc v4) F' ?_ ?_
  · k_steps
    all_goals dsimp only
    all_goals rename Fr _ _ _ _ => F1
    all_goals rename News _ _ _ _ => N1
    all_goals try (rename PyProof.V.Flat _ _ => hv'; (try simp only [PyProof.Rows.strData, PyProof.Rows.datumOf, Option.getD_some] at hv'); obtain ⟨tv, hv''⟩ := dictR_flat (D := word2D) (by unfold PyProof.Rows.Shaped; decide +kernel) hv'; subst hv'')
    all_goals first | refine JoinP.intro F1 N1 (by first | exact fun p hp => hp | exact fun p hp => .tail _ hp | exact fun p hp => .tail _ (.tail _ hp) | exact fun p hp => .tail _ (.tail _ (.tail _ hp))) ?_ | refine JoinP.same F1 N1 (by first | exact fun p hp => hp | exact fun p hp => .tail _ hp | exact fun p hp => .tail _ (.tail _ hp) | exact fun p hp => .tail _ (.tail _ (.tail _ hp))) ?_
    all_goals unfold dictR
    all_goals try rw [hmk]
    all_goals repeat (first | refine (bT (by assumption)).trans ?_ | refine (bF (by assumption)).trans ?_)
    all_goals first | exact rfl | assumption | (unfold word2R; rw [hv4]; assumption)
  clear F' N'
  intro h' tk tt5 F' N'
  generalize hv5 : dictR word2D sc v4 = v5 at F'
  refine join_step (s := s) (news := news) (Str.ofString "word") (word3R gc sc) F' ?_ ?_
  · k_steps
    all_goals dsimp only
    all_goals rename Fr _ _ _ _ => F1
    all_goals rename News _ _ _ _ => N1
    all_goals try (rename PyProof.V.Flat _ _ => hv'; (try simp only [PyProof.Rows.strData, PyProof.Rows.datumOf, Option.getD_some] at hv'); obtain ⟨tv, hv''⟩ := dictR_flat (D := word3D) (by unfold PyProof.Rows.Shaped; decide +kernel) hv'; subst hv'')
    all_goals first | refine JoinP.intro F1 N1 (by first | exact fun p hp => hp | exact fun p hp => .tail _ hp | exact fun p hp => .tail _ (.tail _ hp) | exact fun p hp => .tail _ (.tail _ (.tail _ hp))) ?_ | refine JoinP.same F1 N1 (by first | exact fun p hp => hp | exact fun p hp => .tail _ hp | exact fun p hp => .tail _ (.tail _ hp) | exact fun p hp => .tail _ (.tail _ (.tail _ hp))) ?_
    all_goals unfold word3R
    all_goals try rw [hmk]
    all_goals repeat (first | refine (bT (by assumption)).trans ?_ | refine (bF (by assumption)).trans ?_)
    all_goals first | exact rfl | assumption | (unfold word2R; rw [hv4]; assumption)
  clear F' N'
  intro h' tk tt6 F' N'
  generalize hv6 : word3R gc sc = v6 at F'
  refine join_step (s := s) (news := news) (Str.ofString "sentence") (sent2R gc) F' ?_ ?_
  · k_steps
    all_goals dsimp only
    all_goals rename Fr _ _ _ _ => F1
    all_goals rename News _ _ _ _ => N1
    all_goals try (rename PyProof.V.Flat _ _ => hv'; (try simp only [PyProof.Rows.strData, PyProof.Rows.datumOf, Option.getD_some] at hv'); obtain ⟨tv, hv''⟩ := dictR_flat (D := sent2D) (by unfold PyProof.Rows.Shaped; decide +kernel) hv'; subst hv'')
    all_goals first | refine JoinP.intro F1 N1 (by first | exact fun p hp => hp | exact fun p hp => .tail _ hp | exact fun p hp => .tail _ (.tail _ hp) | exact fun p hp => .tail _ (.tail _ (.tail _ hp))) ?_ | refine JoinP.same F1 N1 (by first | exact fun p hp => hp | exact fun p hp => .tail _ hp | exact fun p hp => .tail _ (.tail _ hp) | exact fun p hp => .tail _ (.tail _ (.tail _ hp))) ?_
    all_goals unfold sent2R
    all_goals try rw [hmk]
    all_goals repeat (first | refine (bT (by assumption)).trans ?_ | refine (bF (by assumption)).trans ?_)
    all_goals first | exact rfl | assumption | (unfold word2R; rw [hv4]; assumption)
  clear F' N'
  intro h' tk tt7 F' N'
  generalize hv7 : sent2R gc = v7 at F'
  refine join_step (s := s) (news := news) (Str.ofString "width") (width2R sc hp) F' ?_ ?_
  · k_steps
    all_goals dsimp only
    all_goals rename Fr _ _ _ _ => F1
    all_goals rename News _ _ _ _ => N1
    all_goals first | refine JoinP.intro F1 N1 (by first | exact fun p hp => hp | exact fun p hp => .tail _ hp | exact fun p hp => .tail _ (.tail _ hp) | exact fun p hp => .tail _ (.tail _ (.tail _ hp))) ?_ | refine JoinP.same F1 N1 (by first | exact fun p hp => hp | exact fun p hp => .tail _ hp | exact fun p hp => .tail _ (.tail _ hp) | exact fun p hp => .tail _ (.tail _ (.tail _ hp))) ?_
    all_goals unfold width2R
    all_goals try rw [hmk]
    all_goals repeat (first | refine (bT (by assumption)).trans ?_ | refine (bF (by assumption)).trans ?_)
    all_goals first | exact rfl | assumption | (unfold word2R; rw [hv4]; assumption)
  clear F' N'
  intro h' tk tt8 F' N'
  generalize hv8 : width2R sc hp = v8 at F'
  k_steps
  rename Fr _ _ _ _ => F1
  rename News _ _ _ _ => N1
  rename (∀ p ∈ news, p.1 < _) => l1
  dsimp only
  refine leaveK_ F1 N1 ?_
  intro kF kN
  have e6 : word3R gc sc = v6 := hv6
  subst hv8 hv7 hv6 hv3 hv2
  exact h _ _ _ _ _ _ _ _ l1 kF kN
end

end
section
theorem flushL5 {M : Model} {A : Around} {env : Env} {Q : Flow → Shared → Prop} {E : Value → Shared → Prop} {s : Shared} (h : wpAny M A (execs [] env) Q E s) : wpAny M A (execs [] env) Q E s := by
  first | (walk1; fail "flush") | exact h
theorem fillL5 (P : Params) : PySem.Challenge.rw_on0362_01.prog = PySem.Challenge.rw_on0362_01.prog ∧ hd.heap_39 P = hd.heap_39 P := by
  k_fill
  exact ⟨rfl, rfl⟩
section
variable {w : World} {A A₀ : Around} {d u : Nat} {gs : List Code} {base h₀ : Heap} {outer : List Env} {env : Env} {mg mb : Str → Option Value} {mean : ExcName → Option Value}
    {L : Addr} {m : Str → Option Value} {news : List (Addr × Obj)} {s : Shared} {Q : Value → Shared → Prop} {E : Value → Shared → Prop}
noncomputable def strOf : Value → Str
  | .str s _ => s
  | _ => Str.ofString ""
noncomputable def RelS (kvs : List (Int × Value)) (pk : List (Int × Str)) : Prop := (∀ p ∈ kvs, ∃ s t, p.2 = Value.str s t) ∧ kvs.map (fun p => (p.1, strOf p.2)) = pk
noncomputable def putS (pk : List (Int × Str)) (k : Int) (s : Str) : List (Int × Str) :=
  if pk.any (fun kv => kv.1 = k) then pk.map (fun kv => if kv.1 = k then (kv.1, s) else kv) else pk ++ [(k, s)]
noncomputable def lookS (pk : List (Int × Str)) (k : Int) : Option Str := (pk.find? fun kv => kv.1 = k).map (·.2)
theorem RelS.nil : RelS [] [] := ⟨fun _ h => (nomatch h), rfl⟩
theorem RelS.put {kvs : List (Int × Value)} {pk : List (Int × Str)} (h : RelS kvs pk) (k : Int) (s : Str) (t : Tok) : RelS (PySem.stored kvs k (.str s t)) (putS pk k s) := by
  obtain ⟨h1, rfl⟩ := h
  have ha : (kvs.map (fun p => (p.1, strOf p.2))).any (fun kv => decide (kv.1 = k)) = kvs.any (fun kv => decide (kv.1 = k)) := by rw [List.any_map]; rfl
  unfold stored putS
  rw [ha]
  split
  · refine And.intro (fun p hp => ?_) ?_
    · obtain ⟨q, hq, rfl⟩ := List.mem_map.mp hp
      split
      · exact ⟨s, t, rfl⟩
      · exact h1 q hq
    · rw [List.map_map, List.map_map]
      refine List.map_congr_left fun q hq => ?_
      simp only [Function.comp]
      split <;> rfl
  · refine And.intro (fun p hp => ?_) ?_
    · rcases List.mem_append.mp hp with hp | hp
      · exact h1 p hp
      · rw [List.mem_singleton.mp hp]; exact ⟨s, t, rfl⟩
    · rw [List.map_append]; rfl
theorem RelS.look {kvs : List (Int × Value)} {pk : List (Int × Str)} (h : RelS kvs pk) (k : Int) : (valueAt kvs k = none ∧ lookS pk k = none) ∨ ∃ s t, valueAt kvs k = some (.str s t) ∧ lookS pk k = some s := by
  obtain ⟨h1, rfl⟩ := h
  have e : (kvs.map (fun p => (p.1, strOf p.2))).find? (fun kv => decide (kv.1 = k)) = (kvs.find? fun kv => decide (kv.1 = k)).map (fun p => (p.1, strOf p.2)) := by rw [List.find?_map]; rfl
  unfold valueAt lookS
  rw [e]
  cases hq : kvs.find? fun kv => decide (kv.1 = k) with
  | none => exact .inl ⟨rfl, rfl⟩
  | some p =>
    obtain ⟨s, t, hs⟩ := h1 p (List.mem_of_find?_eq_some hq)
    refine .inr ⟨s, t, ?_, ?_⟩
    · simp only [Option.map_some, hs]
    · simp only [Option.map_some, hs]; rfl
noncomputable def partF (p0 : Str) (kv : List (Int × Str)) (part : Str) : List (Int × Str) := (spanL part).foldl (fun kv code => putS kv code p0) kv
noncomputable def rowF (kv : List (Int × Str)) (row : Str) : List (Int × Str) :=
  match Txt.split row (Str.ofString " ") with
  | p0 :: ps => ps.foldl (partF p0) kv
  | [] => kv
noncomputable def listedF (ws : Str) : List (Int × Str) := (Txt.split ws (Str.ofString ",")).foldl rowF []
noncomputable def GoodPart (p : Str) : Prop := p.length < 100 ∧ GoodSp p ∧ (spanL p).length ≤ 100
noncomputable def GoodRow (row : Str) : Prop := row.length < 10000 ∧ ∃ p0 ps, Txt.split row (Str.ofString " ") = p0 :: ps ∧ ps.length ≤ 100 ∧ ∀ p ∈ ps, GoodPart p
theorem strsAt : ∀ {vs : List Value} {ns : List Str} {i : Nat} {v : Value}, StrsAre vs ns → vs[i]? = some v → ∃ n, ns[i]? = some n ∧ ∃ t, v = .str n t
  | _, _, i, v, .nil, h => by simp at h
  | _, _, 0, v, .cons n t r, h => ⟨n, rfl, t, (Option.some.inj h).symm⟩
  | _, _, i + 1, v, .cons n t r, h => by simpa using strsAt r (by simpa using h)
theorem sv_cons {a : Str} {t : Tok} {l : List (Str × Tok)} : strValues ((a, t) :: l) = .str a t :: strValues l := rfl
theorem pick_tail {a : Value} {l : List Value} : kms_pick (List.toArray (a :: l)).toList (some 1) none = l := by
  simp [kms_pick, kms_lo, kms_hi]
theorem sv_len {l : List (Str × Tok)} : (strValues l).length = l.length := by simp [strValues]
theorem len_of_map {l : List (Str × Tok)} {r : List Str} (h : l.map (·.1) = r) : l.length = r.length := by rw [← h, List.length_map]
local macro_rules | `(tactic| walk_at "call builtin:str.split") => `(tactic| (
  k_here
  refine KSpl.split1 (by k_asm) (by k_asm) (by decide) ?_ (by (rw [sizeLine_eq]; omega))
  intro D' l' h' k' e' a' F' N' l1
  (try (
    replace e' := Eq.trans e' (by assumption)
    obtain ⟨t', r', q', e2'⟩ := KSpl.cons_of e'
    subst q'
    have e3' := len_of_map e2'
    simp only [sv_cons] at N' a'))))
local macro_rules | `(tactic| walk_at "subscriptTail Name Slice ref ref") => `(tactic| (
  k_here
  refine' kms_slice_lit ?F ?N ?l ?p ?q ?e ?_ ?s ?t ?z
  case F | N => k_asm
  case l => kmk_list
  case p | q => kmk_part
  case e => exact pick_tail
  case s => with_unfolding_all rfl
  case t => intro _; rfl
  case z => (rw [sizeLine_eq]; simp only [List.size_toArray, List.length_cons, sv_len]; omega)
  intro D' h' F' N' l1))
local macro_rules | `(tactic| walk_at "setItem ref int") => `(tactic| (
  k_here
  refine' kda_set (knd := PySem.intKind _ _) ?F ?N ?U ?d (intKind_is _ _ _ _) ?z ?_
  case F | N => k_asm
  case U => k_updF
  case d => k_asm
  case z => (rw [sizeLine_eq]; omega)
  intro h' o' F' N' hd'
  (try dsimp only at N')))
local macro_rules | `(tactic| walk_at "exec For") => `(tactic| (
  k_here
  rename Fr _ _ _ _ => lF'
  with_unfolding_all refine' For_invVF lF' ?k1 ?k2 ?_
  case k1 | k2 => exact rfl
  k_whole))
local macro_rules | `(tactic| walk_at "call ref") => `(tactic| (
  k_here
  refine' small_span1 ?k1 ?k2 ?k3 ?k6 ?k7 ?k8 ?k9 rfl ?k10 ?k11 ?e0 ?e1 ?_
  case k1 | k2 | k3 | k6 | k7 => k_asm
  case k8 | k9 => with_unfolding_all rfl
  case k10 | k11 => (simp only [Around.deeper, Around.in1, Around.mark] <;> omega)
  case e0 | e1 => (assumption)
  k_whole
  intro h' tk' x' vs' n' hne' hi' F' N'))

theorem listed1 {ws : Str} {t : Tok} (B : Below A₀ base outer h₀) (F : Fr h₀ L s.heap m)
    (N : News h₀ L s.heap news)
    (X : (hd.heap_39 w.params).In h₀) (T : Top view (looseW view [Str.ofString "UniError"]) mean mg mb h₀)
    (hf : env.frame = some L) (hk : env.scope.kind = .function) (hA : A = ⟨none, d, some (env :: outer), some gs, u⟩) (hroom : d < 830) (hu : u < 8300)
    (hlen : ws.length < 100000) (hrn : (Txt.split ws (Str.ofString ",")).length ≤ 100) (hrows : ∀ row ∈ Txt.split ws (Str.ofString ","), GoodRow row)
    (h : ∀ h' tk x o kvs, (∀ p ∈ news, p.1 ≠ x) → (x == sysModules) = false → o.IsDictOf (PySem.intKind PySem.Challenge.rw_on0362_01.row.prog w) kvs → RelS kvs (listedF ws) → Fr h₀ L h' m → News h₀ L h' ((x, o) :: news) → Q (.ref x) { s with heap := h', toks := tk }) :
    wpAny (model PySem.Challenge.rw_on0362_01.row.prog w) A (call (.ref 164) [.str ws t]) Q E s := by
  subst hA
  refine wpAny_call ?_
  refine' code_def B F X N T rfl hf hk ?k6 ?k7 ?k8 ?k9 ?kB ?_ ?c2 ?c3 ?c4 ?c5
  case k6 => k_is
  case k7 => k_is
  case k8 => k_room
  case k9 => exact BindsTo.of_eq rfl
  case kB => exact locs rfl
  case c2 => rfl
  case c3 => rfl
  case c4 => rfl
  case c5 => decide
  clear B F X N T
  intro g' L' h' FG' F' N' B' X' T'
  dsimp only
  k_steps
  rename Fr _ _ _ _ => F1
  rename News _ _ _ _ => N1
  rename StrsAre _ _ => ha
  rename List.map _ _ = Txt.split ws _ => he
  rename (_ == sysModules) = false => hmod
  rename Obj.IsDictOf (intKind _ _) _ _ => hd
  rename_i dd _ od l1 _ _ _ _ _ _ D lv _ _ l2
  rw [he] at ha
  refine listK (σ := Obj × List (Int × Value)) (fun c => (D, PySem.W.listOf (strValues lv).toArray 0) :: (dd, c.1) :: news) (fun _ => [])
    (fun i c => c.1.IsDictOf (PySem.intKind PySem.Challenge.rw_on0362_01.row.prog w) c.2 ∧ RelS c.2 (((Txt.split ws (Str.ofString ",")).take i).foldl rowF []) ∧ c.2.length ≤ 10000 * i)
    [Str.ofString "parts", Str.ofString "part", Str.ofString "code"] (od, []) rfl F1 N1 (fun c => .head _) (List.forall_mem_nil _) ⟨hd, RelS.nil, Nat.zero_le _⟩ ?_ ?_
  · clear F1 N1 hd
    rintro i v ⟨o, kvs⟩ u hp tk I oI hv hne ⟨hd, hrel, hkl⟩ F' N'
    dsimp only [kstB] at F' N' hd hrel hkl hne
    obtain ⟨row, hrow, tr, rfl⟩ := strsAt ha ((List.getElem?_toArray ..).symm.trans hv)
    have hstep : ((Txt.split ws (Str.ofString ",")).take (i + 1)).foldl rowF [] = rowF (((Txt.split ws (Str.ofString ",")).take i).foldl rowF []) row := by
      rw [List.take_add_one, hrow, List.foldl_append]; rfl
    obtain ⟨hrl, p0, ps, hsp, hpl, hps⟩ := hrows row (List.mem_of_getElem? hrow)
    have nN : ∀ p ∈ news, p.1 ≠ dd := fun p hp => Nat.ne_of_lt (l1 p hp)
    have nD : @Ne Nat D dd := Nat.ne_of_gt (l2 (dd, od) (.head _))
    have nI : @Ne Nat I dd := Ne.symm (hne (dd, o) (.tail _ (.head _)))
    k_steps
    rename Fr _ _ _ _ => F1
    rename News _ _ _ _ => N1
    rename StrsAre _ (List.map _ _) => ha2
    rename List.map _ _ = ps => he2
    rename List.map _ _ = p0 :: ps => he3
    rename List.length _ = List.length ps => he4
    rename_i D1 _ _ _ l3 t0 r0 _ _ _ _ D2 _ l4
    have nD1 : @Ne Nat D1 dd := Nat.ne_of_gt (l3 (dd, o) (.tail _ (.tail _ (.head _))))
    have nD2 : @Ne Nat D2 dd := Nat.ne_of_gt (l4 (dd, o) (.tail _ (.tail _ (.tail _ (.head _)))))
    have ha3 : StrsAre (strValues r0) ps := by
      rw [List.map_cons, he2] at ha2
      cases ha2 with
      | cons _ _ r => exact r
    generalize hbase : List.foldl rowF [] (List.take i (Txt.split ws (Str.ofString ","))) = base1 at hrel hstep
    refine listK (σ := Obj × List (Int × Value)) (fun c => (D2, PySem.W.listOf (strValues r0).toArray 0) :: (D1, PySem.W.listOf (Value.str p0 t0 :: strValues r0).toArray 0) :: (I, oI) :: (D, PySem.W.listOf (strValues lv).toArray 0) :: (dd, c.1) :: news) (fun _ => [])
      (fun j c => c.1.IsDictOf (PySem.intKind PySem.Challenge.rw_on0362_01.row.prog w) c.2 ∧ RelS c.2 ((ps.take j).foldl (partF p0) base1) ∧ c.2.length ≤ 10000 * i + 100 * j)
      [Str.ofString "code"] (o, kvs) rfl F1 N1 (fun c => .head _) (List.forall_mem_nil _) ⟨hd, hrel, by simpa using hkl⟩ ?_ ?_
    · clear F1 N1 hd hrel hkl kvs
      rintro j v ⟨o2, kvs⟩ u2 hp2 tk2 I2 oI2 hv2 hne2 ⟨hd, hrel, hkl⟩ F' N'
      dsimp only [kstB] at F' N' hd hrel hkl hne2
      obtain ⟨part, hpart, tp, rfl⟩ := strsAt ha3 ((List.getElem?_toArray ..).symm.trans hv2)
      have hstep2 : (ps.take (j + 1)).foldl (partF p0) base1 = partF p0 ((ps.take j).foldl (partF p0) base1) part := by
        rw [List.take_add_one, hpart, List.foldl_append]; rfl
      obtain ⟨hq1, hq2, hq3⟩ := hps part (List.mem_of_getElem? hpart)
      have hj : j < ps.length := (List.getElem?_eq_some_iff.mp hpart).1
      have nI2 : @Ne Nat I2 dd := Ne.symm (hne2 (dd, o2) (.tail _ (.tail _ (.tail _ (.tail _ (.head _))))))
      k_steps
      rename Fr _ _ _ _ => F1
      rename News _ _ _ _ => N1
      rename IntsAre _ _ => hi
      rename_i x0 vs0 n0 hne3
      have nX : @Ne Nat x0 dd := Ne.symm (hne3 (dd, o2) (.tail _ (.tail _ (.tail _ (.tail _ (.tail _ (.head _)))))))
      generalize hbase2 : (ps.take j).foldl (partF p0) base1 = base2 at hrel hstep2
      refine listK (σ := Obj × List (Int × Value)) (fun c => (x0, PySem.W.listOf vs0.toArray n0) :: (I2, oI2) :: (D2, PySem.W.listOf (strValues r0).toArray 0) :: (D1, PySem.W.listOf (Value.str p0 t0 :: strValues r0).toArray 0) :: (I, oI) :: (D, PySem.W.listOf (strValues lv).toArray 0) :: (dd, c.1) :: news) (fun _ => [])
        (fun k c => c.1.IsDictOf (PySem.intKind PySem.Challenge.rw_on0362_01.row.prog w) c.2 ∧ RelS c.2 (((spanL part).take k).foldl (fun kv code => putS kv code p0) base2) ∧ c.2.length ≤ 10000 * i + 100 * j + k)
        [] (o2, kvs) rfl F1 N1 (fun c => .head _) (List.forall_mem_nil _) ⟨hd, hrel, hkl⟩ ?_ ?_
      · clear F1 N1 hd hrel hkl kvs
        rintro k v ⟨o3, kvs⟩ u3 hp3 tk3 I3 oI3 hv3 hne4 ⟨hd, hrel, hkl⟩ F' N'
        dsimp only [kstB] at F' N' hd hrel hkl hne4
        have hv4 := (List.getElem?_toArray ..).symm.trans hv3
        obtain ⟨cd, hcd, tc, rfl⟩ := intsAt hi hv4
        have hk : k < (spanL part).length := (List.getElem?_eq_some_iff.mp hcd).1
        have hstep3 : ((spanL part).take (k + 1)).foldl (fun kv code => putS kv code p0) base2 = putS (((spanL part).take k).foldl (fun kv code => putS kv code p0) base2) cd p0 := by
          rw [List.take_add_one, hcd, List.foldl_append]; rfl
        have nI3 : @Ne Nat I3 dd := Ne.symm (hne4 (dd, o3) (.tail _ (.tail _ (.tail _ (.tail _ (.tail _ (.tail _ (.head _))))))))
        have hi1 : i < 100 := by
          have := (List.getElem?_eq_some_iff.mp hrow).1
          omega
        k_steps
        rename Fr _ _ _ _ => F1
        rename News _ _ _ _ => N1
        rename Obj.IsDictOf _ _ (PySem.stored _ _ _) => hd5
        clear F' N'
        dsimp only
        refine EndI.intro F1 N1 ?_ ⟨(_, _), rfl, ⟨hd5, ?_, ?_⟩, List.forall_mem_nil _, ?_⟩
        · simp only [List.forall_mem_cons] at hne4 ⊢
          exact hne4
        · rw [hstep3]
          exact hrel.put _ _ _
        · have := PySem.stored_length_le kvs cd (Value.str p0 t0)
          exact Nat.le_trans this (by show _ ≤ 10000 * i + 100 * j + (k + 1); omega)
        · walk_at "KJOFF"
      · clear F1 N1 hd hrel hkl kvs
        rintro ⟨o3, kvs⟩ u3 hp3 tk3 ⟨hd, hrel, hkl⟩ F' N'
        dsimp only [kstB] at F' N' hd hrel hkl
        rw [List.size_toArray, hi.length, List.take_length] at hrel
        rw [List.size_toArray, hi.length] at hkl
        k_steps
        rename Fr _ _ _ _ => F1
        rename News _ _ _ _ => N1
        dsimp only
        refine EndI.intro F1 (fun p hp => N1 p (.tail _ hp)) ?_ ⟨(o3, kvs), rfl, ⟨hd, ?_, ?_⟩, List.forall_mem_nil _, ?_⟩
        · simp only [List.forall_mem_cons] at hne2 ⊢
          exact hne2
        · rw [hstep2]
          exact hrel
        · dsimp only
          omega
        · walk_at "KJOFF"
    · clear F1 N1 hd hrel hkl kvs
      rintro ⟨o2, kvs⟩ u2 hp2 tk2 ⟨hd, hrel, hkl⟩ F' N'
      dsimp only [kstB] at F' N' hd hrel hkl
      rw [List.size_toArray, sv_len, he4, List.take_length] at hrel
      rw [List.size_toArray, sv_len, he4] at hkl
      k_steps
      rename Fr _ _ _ _ => F1
      rename News _ _ _ _ => N1
      dsimp only
      refine EndI.intro F1 (fun p hp => N1 p (.tail _ (.tail _ hp))) ?_ ⟨(o2, kvs), rfl, ⟨hd, ?_, ?_⟩, List.forall_mem_nil _, ?_⟩
      · simp only [List.forall_mem_cons] at hne ⊢
        exact hne
      · rw [hstep]
        unfold rowF
        rw [hsp]
        exact hrel
      · dsimp only
        omega
      · walk_at "KJOFF"
  · clear F1 N1 hd
    rintro ⟨o, kvs⟩ u hp tk ⟨hd, hrel, hkl⟩ F' N'
    dsimp only [kstB] at F' N' hd hrel hkl
    rw [List.size_toArray, sv_len, len_of_map he, List.take_length] at hrel
    k_steps
    rename Fr _ _ _ _ => F1
    rename News _ _ _ _ => N1
    dsimp only
    refine leaveK_ F1 N1 ?_
    intro kF kN
    exact h _ _ _ _ _ (fun p hp => Nat.ne_of_lt (l1 p hp)) hmod hd hrel kF (fun p hp => kN p (.tail _ hp))
end

end
section
theorem flushW0 {M : Model} {A : Around} {env : Env} {Q : Flow → Shared → Prop} {E : Value → Shared → Prop} {s : Shared} (h : wpAny M A (execs [] env) Q E s) : wpAny M A (execs [] env) Q E s := by
  first | (walk1; fail "flush") | exact h
theorem fillW0 (P : Params) : PySem.Challenge.rw_on0362_01.prog = PySem.Challenge.rw_on0362_01.prog ∧ hd.heap_39 P = hd.heap_39 P := by
  k_fill
  exact ⟨rfl, rfl⟩

noncomputable def stBody : Stmt → List Stmt
  | .FunctionDef _ _ b _ _ _ _ _ _ _ => b
  | _ => []
noncomputable def stScope : Stmt → Scope
  | .FunctionDef _ _ _ _ _ _ sc _ _ _ => sc
  | _ => default
noncomputable def lawSt : Stmt := (PySem.Challenge.pw_on0362_01.main.body.drop 29).headD (.Pass default)
noncomputable def lawBody : List Stmt := stBody lawSt
noncomputable def lawScope : Scope := stScope lawSt
theorem eta_env {M : Model} {A : Around} {b : List Stmt} {n : Str} {k : ScopeKind} {nm : List (Str × NameKind)} {g c : Bool} {mo : List (Str × Const)} {L f : Addr} {cd : Value} {Q : Flow → Shared → Prop} {E : Value → Shared → Prop} {s : Shared}
    (h : wpAny M A (execs b (envOf n ⟨k, nm, g, c, mo⟩ L f cd)) Q E s) : wpAny M A (execs b (envOf n ⟨k, nm, g, c, mo⟩ L f cd)) Q E s := h
theorem eta_cons {M : Model} {A : Around} {st : Stmt} {b : List Stmt} {env : Env} {Q : Flow → Shared → Prop} {E : Value → Shared → Prop} {s : Shared}
    (h : wpAny M A (execs (st :: b) env) Q E s) : wpAny M A (execs (st :: b) env) Q E s := h
section
variable {w : World} {A A₀ : Around} {d u : Nat} {gs : List Code} {base h₀ : Heap} {outer : List Env} {env : Env} {mg mb : Str → Option Value} {mean : ExcName → Option Value}
    {L : Addr} {m : Str → Option Value} {news : List (Addr × Obj)} {s : Shared} {Q : Flow → Shared → Prop} {E : Value → Shared → Prop}
end

end
section
theorem flushP1 {M : Model} {A : Around} {env : Env} {Q : Flow → Shared → Prop} {E : Value → Shared → Prop} {s : Shared} (h : wpAny M A (execs [] env) Q E s) : wpAny M A (execs [] env) Q E s := by
  first | (walk1; fail "flush") | exact h
theorem fillP1 (P : Params) : PySem.Challenge.rw_on0362_01.prog = PySem.Challenge.rw_on0362_01.prog ∧ hd.heap_39 P = hd.heap_39 P := by
  k_fill
  exact ⟨rfl, rfl⟩

noncomputable def itemsAt (K : Frag) (a : Addr) : List Value := match List.lookup a K with
  | some ⟨_, _, .seq its _, _⟩ => its.toList
  | _ => []
noncomputable def isTupAt (K : Frag) (a : Addr) : Bool := match List.lookup a K with
  | some ⟨.type c, _, .seq _ _, _⟩ => c == "tuple"
  | _ => false
theorem tup_in {K : Frag} {h : Heap} {a : Addr} (X : K.In h) (hc : isTupAt K a = true) : IsTup h a (itemsAt K a).toArray := by
  unfold isTupAt at hc
  unfold itemsAt
  split at hc
  · rename_i c dd its n sl e
    rw [e]
    exact ⟨_, X _ _ e, by rw [eq_of_beq hc], n, by simp⟩
  · cases hc
theorem known_refs (P : Params) : itemsAt (hd.heap_39 P) 193 = (List.range 28).map (fun i => Value.ref (165 + i)) := rfl
theorem gcs_len (P : Params) : (itemsAt (hd.heap_39 P) 194).length = 18 := rfl
theorem scs_len (P : Params) : (itemsAt (hd.heap_39 P) 195).length = 10 := rfl
noncomputable def asInt : Value → Int
  | .int n _ => n
  | _ => 0
noncomputable def asStr : Value → Str
  | .str s _ => s
  | _ => Str.ofString ""
noncomputable def rowV (P : Params) (r : Nat) : List Value := itemsAt (hd.heap_39 P) (165 + r)
noncomputable def tokV : Value → Tok
  | .int _ t => t
  | .str _ t => t
  | _ => 0
noncomputable def rebuild (l : List Value) : List Value := [.int (asInt (l.getD 0 .none)) (tokV (l.getD 0 .none)), .str (asStr (l.getD 1 .none)) (tokV (l.getD 1 .none)), .str (asStr (l.getD 2 .none)) (tokV (l.getD 2 .none)), .str (asStr (l.getD 3 .none)) (tokV (l.getD 3 .none)),
  .str (asStr (l.getD 4 .none)) (tokV (l.getD 4 .none)), .str (asStr (l.getD 5 .none)) (tokV (l.getD 5 .none)), .str (asStr (l.getD 6 .none)) (tokV (l.getD 6 .none)), .str (asStr (l.getD 7 .none)) (tokV (l.getD 7 .none))]
theorem rows_all (P : Params) : ((List.range 28).all fun r => isTupAt (hd.heap_39 P) (165 + r)) = true := by kernel_rfl
theorem rows_tup (P : Params) : ∀ r, r < 28 → isTupAt (hd.heap_39 P) (165 + r) = true := fun r hr =>
  List.all_eq_true.mp (rows_all P) r (List.mem_range.mpr hr)
theorem rows_reA (P : Params) : (List.range 28).map (rowV P) = (List.range 28).map (fun r => rebuild (rowV P r)) := by kernel_rfl
theorem rows_re (P : Params) (r : Nat) (hr : r < 28) : rowV P r = rebuild (rowV P r) := List.map_inj_left.mp (rows_reA P) r (List.mem_range.mpr hr)

end
section
theorem flushSP {M : Model} {A : Around} {env : Env} {Q : Flow → Shared → Prop} {E : Value → Shared → Prop} {s : Shared} (h : wpAny M A (execs [] env) Q E s) : wpAny M A (execs [] env) Q E s := by
  first | (walk1; fail "flush") | exact h
noncomputable def spl (c : Nat) : List Nat → List (List Nat)
  | [] => [[]]
  | a :: r => bif Nat.beq a c then [] :: spl c r else match spl c r with
    | [] => [[a]]
    | p :: ps => (a :: p) :: ps
theorem spl_free (c : Nat) : ∀ p : List Nat, c ∉ p → spl c p = [p]
  | [], _ => rfl
  | a :: r, h => by
    have h1 : Nat.beq a c = false := by
      cases e : Nat.beq a c with
      | false => rfl
      | true => exact absurd (Nat.eq_of_beq_eq_true e ▸ List.mem_cons_self ..) h
    unfold spl
    rw [h1, spl_free c r fun q => h (.tail _ q)]
    rfl
theorem spl_app (c : Nat) (q : List Nat) : ∀ p : List Nat, c ∉ p → spl c (p ++ c :: q) = p :: spl c q
  | [], _ => by
    have h1 : Nat.beq c c = true := Nat.beq_refl c
    show spl c (c :: q) = _
    rw [spl, h1]
    rfl
  | a :: r, h => by
    have h1 : Nat.beq a c = false := by
      cases e : Nat.beq a c with
      | false => rfl
      | true => exact absurd (Nat.eq_of_beq_eq_true e ▸ List.mem_cons_self ..) h
    show spl c (a :: (r ++ c :: q)) = _
    rw [spl, h1, spl_app c q r fun z => h (.tail _ z)]
    rfl
noncomputable def mkL (l : List Nat) : Str := ⟨l.toArray⟩
theorem mkL_cps (x : Str) : mkL x.cps.toList = x := by
  unfold mkL
  rw [Array.toArray_toList]
theorem spl_join (c : Nat) : ∀ ps : List Str, ps ≠ [] → (∀ p ∈ ps, c ∉ p.cps.toList) → (spl c (Str.join ⟨#[c]⟩ ps).cps.toList).map mkL = ps
  | [], h, _ => absurd rfl h
  | [p], _, h => by
    show (spl c p.cps.toList).map mkL = [p]
    rw [spl_free c _ (h p (.head _))]
    simp [mkL_cps]
  | p :: q :: r, _, h => by
    have e : (Str.join ⟨#[c]⟩ (p :: q :: r)).cps.toList = p.cps.toList ++ c :: (Str.join ⟨#[c]⟩ (q :: r)).cps.toList := by
      show (p ++ (⟨#[c]⟩ : Str) ++ Str.join ⟨#[c]⟩ (q :: r)).cps.toList = _
      rw [Str.cps_append, Str.cps_append]
      simp
    rw [e, spl_app c _ _ (h p (.head _)), List.map_cons, spl_join c (q :: r) (by simp) (fun x hx => h x (.tail _ hx)), mkL_cps]
noncomputable def splE (c : Nat) (x : Str) : List Str := (spl c x.cps.toList).map mkL
theorem split_eq (x : Str) (c : Nat) : Txt.split x ⟨#[c]⟩ = splE c x := by
  have h := spl_join c (Txt.split x ⟨#[c]⟩) (fun e => by have := split_pos x ⟨#[c]⟩; rw [e] at this; exact absurd this (by decide)) (StrLaws.split_free x c)
  rw [StrLaws.join_split] at h
  exact h.symm
theorem sp_comma (x : Str) : Txt.split x (Str.ofString ",") = splE 44 x := by rw [show Str.ofString "," = ⟨#[44]⟩ from by decide]; exact split_eq x 44
theorem sp_blank (x : Str) : Txt.split x (Str.ofString " ") = splE 32 x := by rw [show Str.ofString " " = ⟨#[32]⟩ from by decide]; exact split_eq x 32
theorem sp_dash (x : Str) : Txt.split x (Str.ofString "-") = splE 45 x := by rw [show Str.ofString "-" = ⟨#[45]⟩ from by decide]; exact split_eq x 45

end
section
theorem flushP2 {M : Model} {A : Around} {env : Env} {Q : Flow → Shared → Prop} {E : Value → Shared → Prop} {s : Shared} (h : wpAny M A (execs [] env) Q E s) : wpAny M A (execs [] env) Q E s := by
  first | (walk1; fail "flush") | exact h
theorem fillP2 (P : Params) : PySem.Challenge.rw_on0362_01.prog = PySem.Challenge.rw_on0362_01.prog ∧ hd.heap_39 P = hd.heap_39 P := by
  k_fill
  exact ⟨rfl, rfl⟩
section
variable {w : World} {A A₀ : Around} {d u : Nat} {gs : List Code} {base h₀ : Heap} {outer : List Env} {env : Env} {mg mb : Str → Option Value} {mean : ExcName → Option Value}
    {L : Addr} {m : Str → Option Value} {news : List (Addr × Obj)} {s : Shared} {Q : Value → Shared → Prop} {E : Value → Shared → Prop}

noncomputable def goodWB (sv : Str) : Bool := decide (sv.length < 100) && (sv.cps.toList.all (fun c => decide (c < 128)) && (decide (1 ≤ (bytesOf sv).size ∧ (bytesOf sv).size ≤ 6) &&
  ((bytesOf sv).toList.all (fun c => decide ((48 ≤ (c.toNat : Int) ∧ (c.toNat : Int) ≤ 57) ∨ (65 ≤ (c.toNat : Int) ∧ (c.toNat : Int) ≤ 70) ∨ (97 ≤ (c.toNat : Int) ∧ (c.toNat : Int) ≤ 102))) && decide (hexNum (bytesOf sv).toList ≤ 1114111))))
theorem goodWB_ok {sv : Str} (h : goodWB sv = true) : GoodW sv := by
  unfold goodWB at h
  simp only [Bool.and_eq_true, decide_eq_true_eq, List.all_eq_true] at h
  exact ⟨h.1, h.2.1, h.2.2.1, h.2.2.2.1, h.2.2.2.2⟩
noncomputable def goodSpB (sv : Str) : Bool := match splE 45 sv with
  | [a] => goodWB a
  | [a, b] => goodWB a && (goodWB b && decide (codeS a ≤ codeS b))
  | _ => false
theorem goodSpB_ok {sv : Str} (h : goodSpB sv = true) : GoodSp sv := by
  unfold goodSpB at h
  rw [← sp_dash] at h
  split at h
  · rename_i a e
    exact .inl ⟨a, e, goodWB_ok h⟩
  · rename_i a b e
    simp only [Bool.and_eq_true, decide_eq_true_eq] at h
    exact .inr ⟨a, b, e, goodWB_ok h.1, goodWB_ok h.2.1, h.2.2⟩
  · cases h
noncomputable def spanE (sv : Str) : List Int := match splE 45 sv with
  | [a] => rangeKs (codeS a) 1
  | [a, b] => rangeKs (codeS a) (codeS b + 1 - codeS a).toNat
  | _ => []
theorem span_eq (sv : Str) : spanL sv = spanE sv := by unfold spanL spanE; rw [sp_dash]; try rfl
noncomputable def goodPartB (p : Str) : Bool := decide (p.length < 100) && (goodSpB p && decide ((spanE p).length ≤ 100))
noncomputable def goodRowB (row : Str) : Bool := decide (row.length < 10000) && match splE 32 row with
  | p0 :: ps => decide (ps.length ≤ 100) && ps.all goodPartB
  | [] => false
theorem goodRowB_ok {row : Str} (h : goodRowB row = true) : GoodRow row := by
  unfold goodRowB at h
  rw [Bool.and_eq_true, ← sp_blank] at h
  obtain ⟨h1, h2⟩ := h
  split at h2
  · rename_i p0 ps e
    rw [Bool.and_eq_true, List.all_eq_true] at h2
    refine ⟨of_decide_eq_true h1, p0, ps, e, of_decide_eq_true h2.1, fun p hp => ?_⟩
    have := h2.2 p hp
    unfold goodPartB at this
    simp only [Bool.and_eq_true, decide_eq_true_eq] at this
    exact ⟨this.1, goodSpB_ok this.2.1, span_eq p ▸ this.2.2⟩
  · cases h2
noncomputable def goodWsB (ws : Str) : Bool := decide (ws.length < 100000) && (decide ((splE 44 ws).length ≤ 100) && (splE 44 ws).all goodRowB)
structure GoodWs (ws : Str) : Prop where
  len : ws.length < 100000
  num : (Txt.split ws (Str.ofString ",")).length ≤ 100
  rows : ∀ row ∈ Txt.split ws (Str.ofString ","), GoodRow row
theorem goodWsB_ok {ws : Str} (h : goodWsB ws = true) : GoodWs ws := by
  unfold goodWsB at h
  rw [← sp_comma] at h
  simp only [Bool.and_eq_true, decide_eq_true_eq, List.all_eq_true] at h
  exact ⟨h.1, h.2.1, fun r hr => goodRowB_ok (h.2.2 r hr)⟩
noncomputable def constOf : Expr → Str
  | .Constant (.str s) _ _ => s
  | .BinOp _ _ e _ => constOf e
  | _ => Str.ofString ""
noncomputable def textOf (name : Str) (b : List Stmt) : Str := b.foldl (fun acc st => match st with
  | .Assign [.Name n _] e _ => if n = name then acc ++ constOf e else acc
  | _ => acc) (Str.ofString "")
noncomputable def retOf : List Stmt → Str
  | .Return (some e) _ :: _ => constOf e
  | _ => Str.ofString ""
noncomputable def lineText : Str := retOf (stBody ((PySem.Challenge.pw_on0362_01.main.body.drop 1).headD (.Pass default)))
noncomputable def bwBody : List Stmt := stBody ((PySem.Challenge.pw_on0362_01.main.body.drop 7).headD (.Pass default))
noncomputable def textAt : Nat → Str
  | 0 => lineText
  | 1 => textOf (Str.ofString "clusters") bwBody
  | 2 => textOf (Str.ofString "words") bwBody
  | 3 => textOf (Str.ofString "sentences") bwBody
  | _ => textOf (Str.ofString "widths") bwBody
noncomputable def mkS (cs : List Char) : Str := ⟨(cs.map Char.toNat).toArray⟩
theorem ofS {lit : String} {cs : List Char} (e : lit = String.ofList cs) : Str.ofString lit = mkS cs := by
  subst e
  exact (Str.ofString_eq_toList _).trans (congrArg mkS String.toList_ofList)
theorem mkS_append (a b : List Char) : mkS a ++ mkS b = mkS (a ++ b) := by
  refine Str.ext' ?_
  rw [Str.cps_append]
  simp [mkS]
theorem lift1 {P : Str → Bool} {a : String} {ca : List Char} (ea : a = String.ofList ca) (h : P (mkS ca) = true) : P (Str.ofString a) = true := by
  rw [ofS ea]; exact h
theorem lift2 {P : Str → Bool} {z a b : String} {cz ca cb : List Char} (ez : z = String.ofList cz) (ea : a = String.ofList ca) (eb : b = String.ofList cb) (h : P (mkS (cz ++ ca ++ cb)) = true) : P (Str.ofString z ++ Str.ofString a ++ Str.ofString b) = true := by
  rw [ofS ez, ofS ea, ofS eb, mkS_append, mkS_append]; exact h
theorem lift3 {P : Str → Bool} {z a b c : String} {cz ca cb cc : List Char} (ez : z = String.ofList cz) (ea : a = String.ofList ca) (eb : b = String.ofList cb) (ec : c = String.ofList cc) (h : P (mkS (cz ++ ca ++ cb ++ cc)) = true) : P (Str.ofString z ++ Str.ofString a ++ Str.ofString b ++ Str.ofString c) = true := by
  rw [ofS ez, ofS ea, ofS eb, ofS ec, mkS_append, mkS_append, mkS_append]; exact h
theorem lift4 {P : Str → Bool} {z a b c d : String} {cz ca cb cc cd : List Char} (ez : z = String.ofList cz) (ea : a = String.ofList ca) (eb : b = String.ofList cb) (ec : c = String.ofList cc) (ed : d = String.ofList cd) (h : P (mkS (cz ++ ca ++ cb ++ cc ++ cd)) = true) : P (Str.ofString z ++ Str.ofString a ++ Str.ofString b ++ Str.ofString c ++ Str.ofString d) = true := by
  rw [ofS ez, ofS ea, ofS eb, ofS ec, ofS ed, mkS_append, mkS_append, mkS_append, mkS_append]; exact h
theorem good0 : goodWsB (textAt 0) = true := lift1 (P := goodWsB) rfl (by decide +kernel)
theorem good1 : goodWsB (textAt 1) = true := lift2 (P := goodWsB) rfl rfl rfl (by decide +kernel)
theorem good2 : goodWsB (textAt 2) = true := lift4 (P := goodWsB) rfl rfl rfl rfl rfl (by decide +kernel)
theorem good3 : goodWsB (textAt 3) = true := lift3 (P := goodWsB) rfl rfl rfl rfl (by decide +kernel)
theorem good4 : goodWsB (textAt 4) = true := lift4 (P := goodWsB) rfl rfl rfl rfl rfl (by decide +kernel)
theorem cat {x y : Str} {a b : List Char} (hx : x = mkS a) (hy : y = mkS b) : x ++ y = mkS (a ++ b) := by rw [hx, hy, mkS_append]
theorem eqT {x y : Str} {a b : List Char} (hx : x = mkS a) (hy : y = mkS b) (h : a = b) : x = y := by rw [hx, hy, h]
theorem lw1 (B : Below A₀ base outer h₀) (F : Fr h₀ L s.heap m)
    (N : News h₀ L s.heap news)
    (X : (hd.heap_39 w.params).In h₀) (T : Top view (looseW view [Str.ofString "UniError"]) mean mg mb h₀)
    (hf : env.frame = some L) (hk : env.scope.kind = .function) (hA : A = ⟨none, d, some (env :: outer), some gs, u⟩) (hroom : d < 880) (hu : u < 8800)

    (h : ∀ h' tk x t', x = textAt 0 → Fr h₀ L h' m → News h₀ L h' news → Q (.str x t') { s with heap := h', toks := tk }) :
    wpAny (model PySem.Challenge.rw_on0362_01.row.prog w) A (call (.ref 21) []) Q E s := by
  subst hA
  refine wpAny_call ?_
  refine' code_def B F X N T rfl hf hk ?k6 ?k7 ?k8 ?k9 ?kB ?_ ?c2 ?c3 ?c4 ?c5
  case k6 => k_is
  case k7 => k_is
  case k8 => k_room
  case k9 => exact BindsTo.of_eq rfl
  case kB => exact locs rfl
  case c2 => rfl
  case c3 => rfl
  case c4 => rfl
  case c5 => decide
  clear B F X N T
  intro g' L' h' FG' F' N' B' X' T'
  dsimp only
  k_steps
  rename Fr _ _ _ _ => F1
  rename News _ _ _ _ => N1
  dsimp only
  refine leaveK_ F1 N1 ?_
  intro kF kN
  exact h _ _ _ _ rfl kF kN
theorem bw1 (B : Below A₀ base outer h₀) (F : Fr h₀ L s.heap m)
    (N : News h₀ L s.heap news)
    (X : (hd.heap_39 w.params).In h₀) (T : Top view (looseW view [Str.ofString "UniError"]) mean mg mb h₀)
    (hf : env.frame = some L) (hk : env.scope.kind = .function) (hA : A = ⟨none, d, some (env :: outer), some gs, u⟩) (hroom : d < 880) (hu : u < 8800)

    (h : ∀ h' tk x x1 x2 x3 x4 t1 t2 t3 t4, (∀ p ∈ news, p.1 < x) → x1 = textAt 1 → x2 = textAt 2 → x3 = textAt 3 → x4 = textAt 4 → Fr h₀ L h' m → News h₀ L h' ((x, ({ cls := .type "tuple", data := .seq #[.str x1 t1, .str x2 t2, .str x3 t3, .str x4 t4] } : Obj)) :: news) → Q (.ref x) { s with heap := h', toks := tk }) :
    wpAny (model PySem.Challenge.rw_on0362_01.row.prog w) A (call (.ref 63) []) Q E s := by
  subst hA
  refine wpAny_call ?_
  refine' code_def B F X N T rfl hf hk ?k6 ?k7 ?k8 ?k9 ?kB ?_ ?c2 ?c3 ?c4 ?c5
  case k6 => k_is
  case k7 => k_is
  case k8 => k_room
  case k9 => exact BindsTo.of_eq rfl
  case kB => exact locs rfl
  case c2 => rfl
  case c3 => rfl
  case c4 => rfl
  case c5 => decide
  clear B F X N T
  intro g' L' h' FG' F' N' B' X' T'
  dsimp only
  k_steps
  rename Fr _ _ _ _ => F1
  rename News _ _ _ _ => N1
  rename (∀ p ∈ news, p.1 < _) => l1
  dsimp only
  refine leaveK_ F1 N1 ?_
  intro kF kN
  exact h _ _ _ _ _ _ _ _ _ _ _ l1
    (eqT (ofS rfl) (cat (cat (ofS rfl) (ofS rfl)) (ofS rfl)) (by decide +kernel))
    (eqT (cat (cat (ofS rfl) (ofS rfl)) (ofS rfl)) (cat (cat (cat (cat (ofS rfl) (ofS rfl)) (ofS rfl)) (ofS rfl)) (ofS rfl)) (by decide +kernel))
    (eqT (ofS rfl) (cat (cat (cat (ofS rfl) (ofS rfl)) (ofS rfl)) (ofS rfl)) (by decide +kernel))
    (eqT (cat (ofS rfl) (ofS rfl)) (cat (cat (cat (cat (ofS rfl) (ofS rfl)) (ofS rfl)) (ofS rfl)) (ofS rfl)) (by decide +kernel)) kF kN
end

end
section
theorem flushP3 {M : Model} {A : Around} {env : Env} {Q : Flow → Shared → Prop} {E : Value → Shared → Prop} {s : Shared} (h : wpAny M A (execs [] env) Q E s) : wpAny M A (execs [] env) Q E s := by
  first | (walk1; fail "flush") | exact h
theorem fillP3 (P : Params) : PySem.Challenge.rw_on0362_01.prog = PySem.Challenge.rw_on0362_01.prog ∧ hd.heap_39 P = hd.heap_39 P := by
  k_fill
  exact ⟨rfl, rfl⟩

theorem partE_eq (p0 : Str) (kv : List (Int × Str)) (p : Str) : partF p0 kv p = (spanE p).foldl (fun kv code => putS kv code p0) kv := by unfold partF; rw [span_eq]
noncomputable def rowE (kv : List (Int × Str)) (row : Str) : List (Int × Str) :=
  match splE 32 row with
  | p0 :: ps => ps.foldl (fun kv p => (spanE p).foldl (fun kv code => putS kv code p0) kv) kv
  | [] => kv
theorem rowE_eq : rowF = rowE := by
  funext kv row
  unfold rowF rowE
  rw [sp_blank]
  split
  · rename_i p0 ps e
    try rw [e]
    try dsimp only
    have : partF p0 = fun kv p => (spanE p).foldl (fun kv code => putS kv code p0) kv := by
      funext kv p; exact partE_eq p0 kv p
    rw [this]
  · rename_i e
    first | rw [e] | rfl
noncomputable def listedE (ws : Str) : List (Int × Str) := (splE 44 ws).foldl rowE []
theorem listedE_eq (ws : Str) : listedF ws = listedE ws := by unfold listedF listedE; rw [sp_comma, rowE_eq]
noncomputable def ruleAt (k : Nat) (c : Int) (gc sc : Str) (nt : Bool) : Str := match k with
  | 0 => lineR gc sc
  | 1 => clusterR gc
  | 2 => wordR gc sc
  | 3 => sentR gc
  | _ => widthR c gc sc nt
noncomputable def reckAt (k : Nat) (gc sc : Str) (hp : Bool) : Str := match k with
  | 0 => line2R gc sc
  | 1 => clusR gc
  | 2 => word3R gc sc
  | 3 => sent2R gc
  | _ => width2R sc hp
noncomputable def pick5 (k : Nat) (a b c d e : Str) : Str := match k with
  | 0 => a
  | 1 => b
  | 2 => c
  | 3 => d
  | _ => e
noncomputable def rowB (k : Nat) (L : List (Int × Str)) : List Value → Bool
  | [.int c _, .str gc _, .str sc _, .str d0 _, .str d1 _, .str d2 _, .str d3 _, .str d4 _] =>
    (pick5 k d0 d1 d2 d3 d4 == S "" || pick5 k d0 d1 d2 d3 d4 == (lookS L c).getD (ruleAt k c gc sc true)) && Nat.beq gc.length 2
  | _ => false
noncomputable def knownB (P : Params) (k : Nat) (ws : Str) : Bool := (fun L => (List.range 28).all fun r => rowB k L (rowV P r)) (listedE ws)
noncomputable def noKeyB (ws : Str) : Bool := (listedE ws).all fun kv => decide (kv.1 < 921344) || decide (921384 ≤ kv.1)
noncomputable def drawnB (P : Params) (k : Nat) : Bool := (itemsAt (hd.heap_39 P) 194).all fun g => (itemsAt (hd.heap_39 P) 195).all fun sc => match g, sc with
  | .str g _, .str sc _ => [true, false].all fun nt => reckAt k g sc (!nt) == ruleAt k 921344 g sc nt
  | _, _ => false
theorem noKey0 : noKeyB (textAt 0) = true := lift1 (P := noKeyB) rfl (by kernel_rfl)
theorem noKey1 : noKeyB (textAt 1) = true := lift2 (P := noKeyB) rfl rfl rfl (by kernel_rfl)
theorem noKey2 : noKeyB (textAt 2) = true := lift4 (P := noKeyB) rfl rfl rfl rfl rfl (by kernel_rfl)
theorem noKey3 : noKeyB (textAt 3) = true := lift3 (P := noKeyB) rfl rfl rfl rfl (by kernel_rfl)
theorem noKey4 : noKeyB (textAt 4) = true := lift4 (P := noKeyB) rfl rfl rfl rfl rfl (by kernel_rfl)
theorem known0 (P : Params) : knownB P 0 (textAt 0) = true := lift1 (P := knownB P 0) rfl (by kernel_rfl)
theorem known1 (P : Params) : knownB P 1 (textAt 1) = true := lift2 (P := knownB P 1) rfl rfl rfl (by kernel_rfl)
theorem known2 (P : Params) : knownB P 2 (textAt 2) = true := lift4 (P := knownB P 2) rfl rfl rfl rfl rfl (by kernel_rfl)
theorem known3 (P : Params) : knownB P 3 (textAt 3) = true := lift3 (P := knownB P 3) rfl rfl rfl rfl (by kernel_rfl)
theorem known4 (P : Params) : knownB P 4 (textAt 4) = true := lift4 (P := knownB P 4) rfl rfl rfl rfl rfl (by kernel_rfl)
theorem drawn0 (P : Params) : drawnB P 0 = true := by kernel_rfl
theorem drawn1 (P : Params) : drawnB P 1 = true := by kernel_rfl
theorem drawn2 (P : Params) : drawnB P 2 = true := by kernel_rfl
theorem drawn3 (P : Params) : drawnB P 3 = true := by kernel_rfl
theorem drawn4 (P : Params) : drawnB P 4 = true := by kernel_rfl

end
section
theorem flushWD {M : Model} {A : Around} {env : Env} {Q : Flow → Shared → Prop} {E : Value → Shared → Prop} {s : Shared} (h : wpAny M A (execs [] env) Q E s) : wpAny M A (execs [] env) Q E s := by
  first | (walk1; fail "flush") | exact h
theorem fillWD (P : Params) : PySem.Challenge.rw_on0362_01.prog = PySem.Challenge.rw_on0362_01.prog ∧ hd.heap_39 P = hd.heap_39 P := by
  k_fill
  exact ⟨rfl, rfl⟩

theorem valueAt_stored {kvs : List (Int × Value)} {k : Int} {v : Value} (c : Int) : valueAt (PySem.stored kvs k v) c = if c = k then some v else valueAt kvs c := by
  unfold PySem.stored
  split
  · rename_i ha
    unfold valueAt
    have e : (kvs.map (fun kv => if kv.1 = k then (kv.1, v) else kv)).find? (fun kv => decide (kv.1 = c)) = (kvs.find? (fun kv => decide (kv.1 = c))).map (fun kv => if kv.1 = k then (kv.1, v) else kv) := by
      rw [List.find?_map]
      congr 1
      congr 1
      funext kv
      simp only [Function.comp]
      split <;> rfl
    rw [e]
    cases hq : kvs.find? (fun kv => decide (kv.1 = c)) with
    | none =>
      split
      · rename_i hck
        subst hck
        obtain ⟨p, hp, hpk⟩ := List.any_eq_true.mp ha
        have := List.find?_eq_none.mp hq p hp
        exact absurd hpk this
      · rfl
    | some p =>
      have hpc : p.1 = c := by simpa using List.find?_some hq
      simp only [Option.map_some]
      split
      · rename_i h1
        rw [if_pos (hpc ▸ h1)]
      · rename_i h1
        rw [if_neg (hpc ▸ h1)]
  · rename_i ha
    unfold valueAt
    rw [List.find?_append]
    have hno : c = k → kvs.find? (fun kv => decide (kv.1 = c)) = none := by
      rintro rfl
      refine List.find?_eq_none.mpr fun p hp hpc => ha ?_
      exact List.any_eq_true.mpr ⟨p, hp, hpc⟩
    by_cases hck : c = k
    · rw [if_pos hck, hno hck, hck]
      simp
    · rw [if_neg hck]
      have : ([(k, v)] : List (Int × Value)).find? (fun kv => decide (kv.1 = c)) = none := by
        simp [Ne.symm hck]
      rw [this, Option.or_none]

noncomputable abbrev tupO (d : Nat → Str) (t : Nat → Tok) : Obj := { cls := .type "tuple", data := .seq #[.str (d 0) (t 0), .str (d 1) (t 1), .str (d 2) (t 2), .str (d 3) (t 3), .str (d 4) (t 4)] }
noncomputable def rowA (c : Int) (gc sc : Str) (d : Nat → Str) (t : Nat → Tok) : List Value := [.int c (t 5), .str gc (t 6), .str sc (t 7), .str (d 0) (t 0), .str (d 1) (t 1), .str (d 2) (t 2), .str (d 3) (t 3), .str (d 4) (t 4)]
noncomputable def Known (P : Params) (c : Int) (gc sc : Str) (tag : Value) (d : Nat → Str) : Prop := tag = .none ∧ ∃ r t, r < 28 ∧ rowV P r = rowA c gc sc d t
noncomputable def Drawn (P : Params) (c : Int) (gc sc : Str) (tag : Value) (d : Nat → Str) : Prop :=
  921344 ≤ c ∧ c < 921384 ∧ (∃ t, Value.str gc t ∈ itemsAt (hd.heap_39 P) 194) ∧ (∃ t, Value.str sc t ∈ itemsAt (hd.heap_39 P) 195) ∧ ∀ k, k < 5 → d k = reckAt k gc sc (!(tag == Value.none))
noncomputable def GoodSg (P : Params) (c : Int) (gc sc : Str) (tag : Value) (d : Nat → Str) : Prop := gc.length = 2 ∧ handedIn tag = true ∧ (Known P c gc sc tag d ∨ Drawn P c gc sc tag d)

theorem textAt_good : ∀ k, k < 5 → goodWsB (textAt k) = true ∧ noKeyB (textAt k) = true := by
  intro k hk
  have : k = 0 ∨ k = 1 ∨ k = 2 ∨ k = 3 ∨ k = 4 := by omega
  rcases this with h | h | h | h | h <;> subst h
  · exact ⟨good0, noKey0⟩
  · exact ⟨good1, noKey1⟩
  · exact ⟨good2, noKey2⟩
  · exact ⟨good3, noKey3⟩
  · exact ⟨good4, noKey4⟩
theorem known_all (P : Params) : ∀ k, k < 5 → knownB P k (textAt k) = true := by
  intro k hk
  have : k = 0 ∨ k = 1 ∨ k = 2 ∨ k = 3 ∨ k = 4 := by omega
  rcases this with h | h | h | h | h <;> subst h
  · exact known0 P
  · exact known1 P
  · exact known2 P
  · exact known3 P
  · exact known4 P
theorem drawn_all (P : Params) : ∀ k, k < 5 → drawnB P k = true := by
  intro k hk
  have : k = 0 ∨ k = 1 ∨ k = 2 ∨ k = 3 ∨ k = 4 := by omega
  rcases this with h | h | h | h | h <;> subst h
  · exact drawn0 P
  · exact drawn1 P
  · exact drawn2 P
  · exact drawn3 P
  · exact drawn4 P
theorem pick5_eq {k : Nat} (d : Nat → Str) (hk : k < 5) : pick5 k (d 0) (d 1) (d 2) (d 3) (d 4) = d k := by
  have : k = 0 ∨ k = 1 ∨ k = 2 ∨ k = 3 ∨ k = 4 := by omega
  rcases this with h | h | h | h | h <;> subst h <;> rfl
theorem width_far {c : Int} (h : 921344 ≤ c) (gc sc : Str) (nt : Bool) : widthR c gc sc nt = widthR 921344 gc sc nt := by
  unfold widthR widthR2 widthR3
  rw [if_neg (show ¬ (32 ≤ c ∧ c ≤ 126) by omega), if_neg (show ¬ ((32 : Int) ≤ 921344 ∧ (921344 : Int) ≤ 126) by decide)]
  rw [if_neg (show ¬ (127995 ≤ c ∧ c ≤ 128512) by omega), if_neg (show ¬ ((127995 : Int) ≤ 921344 ∧ (921344 : Int) ≤ 128512) by decide)]
  rw [if_neg (show ¬ (12289 ≤ c ∧ c ≤ 12540) by omega), if_neg (show ¬ ((12289 : Int) ≤ 921344 ∧ (921344 : Int) ≤ 12540) by decide)]
  rw [if_neg (show ¬ (c < 880) by omega), if_neg (show ¬ ((921344 : Int) < 880) by decide)]
theorem rule_far {c : Int} (h : 921344 ≤ c) (k : Nat) (gc sc : Str) (nt : Bool) : ruleAt k c gc sc nt = ruleAt k 921344 gc sc nt := by
  unfold ruleAt
  split <;> first | rfl | exact width_far h gc sc nt
/-- what is asked of a sign: what is due is '' or what is told -/
theorem plain {P : Params} {k : Nat} {c : Int} {gc sc : Str} {tag : Value} {d : Nat → Str} (hk : k < 5) (h : GoodSg P c gc sc tag d) : d k = S "" ∨ d k = (lookS (listedF (textAt k)) c).getD (ruleAt k c gc sc (tag == Value.none)) := by
  rw [listedE_eq]
  obtain ⟨_, _, h | h⟩ := h
  · obtain ⟨rfl, r, t, hr, e⟩ := h
    have hB := known_all P k hk
    unfold knownB at hB
    have := List.all_eq_true.mp hB r (List.mem_range.mpr hr)
    rw [e] at this
    unfold rowA rowB at this
    simp only [Bool.and_eq_true, Bool.or_eq_true, pick5_eq d hk, beq_iff_eq] at this
    exact this.1
  · obtain ⟨h1, h2, ⟨t1, hg⟩, ⟨t2, hs⟩, hd⟩ := h
    right
    have hn : lookS (listedE (textAt k)) c = none := by
      have := (textAt_good k hk).2
      unfold noKeyB at this
      unfold lookS
      rw [List.find?_eq_none.mpr]
      · rfl
      · intro p hp hpc
        have hq := List.all_eq_true.mp this p hp
        simp only [Bool.or_eq_true, decide_eq_true_eq] at hq hpc
        omega
    rw [hn, Option.getD_none, hd k hk, rule_far h1]
    have hB := drawn_all P k hk
    unfold drawnB at hB
    have hB1 := List.all_eq_true.mp hB _ hg
    have hB2 := List.all_eq_true.mp hB1 _ hs
    dsimp only at hB2
    have hB3 := List.all_eq_true.mp hB2 (tag == Value.none) (by cases (tag == Value.none) <;> simp)
    exact eq_of_beq hB3

end
local macro_rules | `(tactic| k_units) => `(tactic| (first | omega | (simp only [Around.deeper, Around.in1, Around.mark, cLine] <;> omega)))
local macro_rules | `(tactic| k_ne) => `(tactic| (refine neN ?_; (try dsimp only); first | assumption | exact Ne.symm (by assumption)))
section
theorem flushWS {M : Model} {A : Around} {env : Env} {Q : Flow → Shared → Prop} {E : Value → Shared → Prop} {s : Shared} (h : wpAny M A (execs [] env) Q E s) : wpAny M A (execs [] env) Q E s := by
  first | (walk1; fail "flush") | exact h
theorem fillWS (P : Params) : PySem.Challenge.rw_on0362_01.prog = PySem.Challenge.rw_on0362_01.prog ∧ hd.heap_39 P = hd.heap_39 P := by
  k_fill
  exact ⟨rfl, rfl⟩

structure LSt where
  sp : Int
  st : Int
  t1 : Tok
  t2 : Tok
  o1 : Obj
  o2 : Obj
  kvs1 : List (Int × Value)
  kvs2 : List (Int × Value)
  tail : List (Addr × Obj)
noncomputable def SgnAt (w : World) (tail : List (Addr × Obj)) (kvs2 : List (Int × Value)) (c : Int) (v : Value) : Prop :=
  ∃ x dx kt vt gc sc nm bc tag pa td d t, v = .ref x ∧ (x, instObj 139 dx) ∈ tail ∧ (dx, dictOf (signEs w kt vt c nm gc bc sc tag pa) 12) ∈ tail ∧ valueAt kvs2 c = some (.ref td) ∧ (td, tupO d t) ∈ tail ∧ GoodSg w.params c gc sc tag d
theorem SgnAt.mono {w : World} {tail tail' : List (Addr × Obj)} {kvs2 kvs2' : List (Int × Value)} {c : Int} {v : Value} (h : SgnAt w tail kvs2 c v) (hs : ∀ p ∈ tail, p ∈ tail') (hk : valueAt kvs2' c = valueAt kvs2 c) : SgnAt w tail' kvs2' c v := by
  obtain ⟨x, dx, kt, vt, gc, sc, nm, bc, tag, pa, td, d, t, h1, h2, h3, h4, h5, h6⟩ := h
  exact ⟨x, dx, kt, vt, gc, sc, nm, bc, tag, pa, td, d, t, h1, hs _ h2, hs _ h3, hk ▸ h4, hs _ h5, h6⟩
noncomputable def SgnsOK (w : World) (tail : List (Addr × Obj)) (kvs1 kvs2 : List (Int × Value)) : Prop := ∀ c v, valueAt kvs1 c = some v → SgnAt w tail kvs2 c v
theorem SgnsOK.put {w : World} {tail tail' : List (Addr × Obj)} {kvs1 kvs2 : List (Int × Value)} {c : Int} {v v2 : Value} (h : SgnsOK w tail kvs1 kvs2) (hs : ∀ p ∈ tail, p ∈ tail') (hn : SgnAt w tail' (PySem.stored kvs2 c v2) c v) :
    SgnsOK w tail' (PySem.stored kvs1 c v) (PySem.stored kvs2 c v2) := by
  intro c' v' hv
  rw [valueAt_stored] at hv
  by_cases e : c' = c
  · rw [if_pos e] at hv
    cases hv
    subst e
    exact hn
  · rw [if_neg e] at hv
    exact (h c' v' hv).mono hs (by rw [valueAt_stored, if_neg e])
/-- the ledger of the law between its statements -/
noncomputable abbrev ledL (wl cl sg du : Addr) (vs : List Value) (kk : Nat) (c : LSt) : List (Addr × Obj) :=
  (wl, wellO cl c.sp c.st c.t1 c.t2) :: (cl, PySem.W.listOf vs.toArray kk) :: (sg, c.o1) :: (du, c.o2) :: c.tail
structure LOk (w : World) (wl sg du : Addr) (c : LSt) (n : Nat) : Prop where
  sp0 : 0 ≤ c.sp
  sp1 : c.sp ≤ 10 + 10 * (n : Int)
  st0 : 0 ≤ c.st
  st1 : c.st < 2147483647
  tw : ∀ p ∈ c.tail, p.1 ≠ wl
  tsg : ∀ p ∈ c.tail, p.1 ≠ sg
  tdu : ∀ p ∈ c.tail, p.1 ≠ du
  d1 : c.o1.IsDictOf (PySem.intKind PySem.Challenge.rw_on0362_01.row.prog w) c.kvs1
  d2 : c.o2.IsDictOf (PySem.intKind PySem.Challenge.rw_on0362_01.row.prog w) c.kvs2
  ok : SgnsOK w c.tail c.kvs1 c.kvs2
  len1 : c.kvs1.length ≤ n
  len2 : c.kvs2.length ≤ n
theorem LOk.mono {w : World} {wl sg du : Addr} {c : LSt} {n n' : Nat} (h : LOk w wl sg du c n) (hn : n ≤ n') : LOk w wl sg du c n' :=
  ⟨h.sp0, by have := h.sp1; omega, h.st0, h.st1, h.tw, h.tsg, h.tdu, h.d1, h.d2, h.ok, Nat.le_trans h.len1 hn, Nat.le_trans h.len2 hn⟩
theorem stored_pos {kvs : List (Int × Value)} {k : Int} {v : Value} : 1 ≤ (PySem.stored kvs k v).length := by
  unfold PySem.stored
  split
  · rename_i h
    obtain ⟨p, hp, _⟩ := List.any_eq_true.mp h
    rw [List.length_map]
    exact List.length_pos_of_mem hp
  · simp
structure LFix (wl cl sg du : Addr) (vs : List Value) (ns : List Int) : Prop where
  hi : IntsAre vs ns
  hlen : ns.length ≤ 63
  hns : ∀ n ∈ ns, 0 ≤ n ∧ n < 2147483647
  n1 : @Ne Nat wl cl
  n2 : @Ne Nat wl sg
  n3 : @Ne Nat wl du
  n4 : @Ne Nat cl sg
  n5 : @Ne Nat cl du
  n6 : @Ne Nat sg du
  ms : (sg == sysModules) = false
  md : (du == sysModules) = false
/-- the frame of the law from the second statement on -/
noncomputable abbrev frL (wl sg du : Addr) (m : Str → Option Value) : Str → Option Value := fun y =>
  if y = Str.ofString "signs" then some (.ref sg) else if y = Str.ofString "due" then some (.ref du) else if y = Str.ofString "well" then some (.ref wl) else m y
noncomputable abbrev lawEnv (L fa : Addr) (cd : Value) : Env := envOf (Str.ofString "law") lawScope L fa cd

end
local macro_rules | `(tactic| walk_at "call ref") => `(tactic| (
  k_here
  refine' draw2 ?k1 ?k2 ?k3 ?k4 ?k5 ?k6 ?k7 rfl ?k8 ?k9 ?k10 ?k11 ?k12 ?k13 ?k14 ?k15 ?k16 ?k17 ?k18 ?_
  case k1 | k2 | k3 => k_asm
  case k4 => k_updF
  case k5 => k_dflt k_mem
  case k6 | k7 => k_asm
  case k8 | k9 => with_unfolding_all rfl
  case k10 | k11 => (first | omega | (simp only [Around.deeper, Around.in1, Around.mark, cLine] <;> omega))
  case k12 | k13 | k14 => assumption
  case k15 | k16 => omega
  case k17 => (first | omega | (simp only [List.size_toArray]; omega))
  case k18 => assumption
  k_whole
  intro h' tk' v' st' t' t1' t2' hv0' hv1' hst0' hst1' F' N'
  try dsimp only at N'))
local macro_rules | `(tactic| walk_at "call ref") => `(tactic| (
  k_here
  refine' ctor1 ?k1 ?k2 ?k3 ?k6 ?k7 ?k8 ?k9 rfl ?k10 ?k11 ?_
  case k1 | k2 | k3 | k6 | k7 => k_asm
  case k8 | k9 => with_unfolding_all rfl
  case k10 | k11 => (first | omega | (simp only [Around.deeper, Around.in1, Around.mark, cLine] <;> omega))
  k_whole
  intro x' dx' h' tk' kt' vt' hdx' hx' F' N'
  (try k_lt hdx')
  (replace hx' := ltN hx')))
section
theorem flushW2 {M : Model} {A : Around} {env : Env} {Q : Flow → Shared → Prop} {E : Value → Shared → Prop} {s : Shared} (h : wpAny M A (execs [] env) Q E s) : wpAny M A (execs [] env) Q E s := by
  first | (walk1; fail "flush") | exact h
theorem fillW2 (P : Params) : PySem.Challenge.rw_on0362_01.prog = PySem.Challenge.rw_on0362_01.prog ∧ hd.heap_39 P = hd.heap_39 P := by
  k_fill
  exact ⟨rfl, rfl⟩
noncomputable def StopG (P : Prop) : Prop := P
theorem StopG.mk {P : Prop} (h : StopG P) : P := h
theorem StopG.out {P : Prop} (h : P) : StopG P := h
structure Hid (P : Prop) : Prop where
  out : P
theorem known_mem {P : Params} {v : Value} (h : v ∈ itemsAt (hd.heap_39 P) 193) : ∃ r : Nat, r < 28 ∧ v = .ref (165 + r) := by
  rw [known_refs] at h
  obtain ⟨r, hr, rfl⟩ := List.mem_map.mp h
  exact ⟨r, List.mem_range.mp hr, rfl⟩
theorem known_row {P : Params} {h : Heap} {r : Nat} (X : (hd.heap_39 P).In h) (hr : r < 28) : ∃ c gc sc d t, rowV P r = rowA c gc sc d t ∧ gc.length = 2 ∧ IsTup h (165 + r) (rowA c gc sc d t).toArray := by
  have h2 := rows_tup P r hr
  have hT := tup_in X h2
  have hB := known_all P 0 (by decide)
  unfold knownB at hB
  have hq := List.all_eq_true.mp hB r (List.mem_range.mpr hr)
  have e : itemsAt (hd.heap_39 P) (165 + r) = rowV P r := rfl
  rw [e] at hT
  have e1 := rows_re P r hr
  rw [e1] at hq
  have hq' : (_ && Nat.beq (asStr ((rowV P r).getD 1 .none)).length 2) = true := hq
  refine ⟨asInt ((rowV P r).getD 0 .none), asStr ((rowV P r).getD 1 .none), asStr ((rowV P r).getD 2 .none), fun i => [asStr ((rowV P r).getD 3 .none), asStr ((rowV P r).getD 4 .none), asStr ((rowV P r).getD 5 .none), asStr ((rowV P r).getD 6 .none), asStr ((rowV P r).getD 7 .none)].getD i (S ""),
    fun i => [tokV ((rowV P r).getD 3 .none), tokV ((rowV P r).getD 4 .none), tokV ((rowV P r).getD 5 .none), tokV ((rowV P r).getD 6 .none), tokV ((rowV P r).getD 7 .none), tokV ((rowV P r).getD 0 .none), tokV ((rowV P r).getD 1 .none), tokV ((rowV P r).getD 2 .none)].getD i 0, ?_, ?_, ?_⟩
  rotate_left
  · exact Nat.eq_of_beq_eq_true (Bool.and_eq_true_iff.mp hq').2
  · rw [e1] at hT; exact hT
  · exact e1

section
variable {prog : Program} {w : World} {A : Around} {h₀ : Heap} {L : Addr} {m : Str → Option Value} {news : List (Addr × Obj)} {s : Shared} {Q : Value → Shared → Prop} {E : Value → Shared → Prop}
theorem slice_row {value slice : Expr} {r : Addr} {c : Int} {gc sc : Str} {d : Nat → Str} {t : Nat → Tok} {u3 : Tok} (F : Fr h₀ L s.heap m) (N : News h₀ L s.heap news) (ht : IsTup s.heap r (rowA c gc sc d t).toArray)
    (h : ∀ D h', Fr h₀ L h' m → News h₀ L h' ((D, tupO d t) :: news) → (∀ p ∈ news, p.1 < D) → Q (.ref D) { s with heap := h' })
    (hs : subscripted slice false (.ref r) (.ref s.heap.objs.size) = operate [.ref s.heap.objs.size, .ref r] (getItem (.ref r) (.ref s.heap.objs.size)))
    (hg : ∀ q, letTemporaryGo value (.ref r) q = pure ()) :
    wpAny (model prog w) A (subscriptTail value slice (.ref r) (.ref s.heap.objs.size)) Q E { s with heap := s.heap.push { cls := .type "slice", data := .fields #[.int 3 u3, .none, .none] } } := by
  refine slice_tuple_from (a := 3) F N ht (by decide) (by show 3 ≤ 8; decide) ?_ hs hg (by rw [sizeLine_eq]; show 8 ≤ 16777216; decide)
  intro h' F' N'
  exact h _ h' F' N' (fun p hp => Nat.lt_succ_of_lt (Heap.lt_size (N p hp).1))
end
local macro_rules | `(tactic| walk_at "subscriptTail Name Slice ref ref") => `(tactic| (
  k_here
  k_dflt (refine' slice_row ?F ?N ?l ?_ ?s ?t)
  case F | N => k_asm
  case l => exact IsTup.keeps (by assumption) (Fr.keep (by assumption))
  case s => with_unfolding_all rfl
  case t => intro _; rfl
  intro D' h' F' N' l1
  (try k_lt l1)))
local macro_rules | `(tactic| walk_at "call ref") => `(tactic| (
  k_here
  refine' pick_K2 ?k1 ?k2 ?k3 ?k4 ?k5 ?k6 ?k7 rfl ?k8 ?k9 ?k10 ?k11 ?k12 ?k13 ?k14 ?k15 ?k16 ?k17 ?k18 ?k19 ?_
  case k1 | k2 | k3 => k_asm
  case k18 => exact tup_in (by k_asm) rfl
  case k4 => k_updF
  case k5 => k_dflt k_mem
  case k6 | k7 => k_asm
  case k8 | k9 => with_unfolding_all rfl
  case k10 | k11 => (first | omega | (simp only [Around.deeper, Around.in1, Around.mark, cLine] <;> omega))
  case k12 | k13 | k14 => assumption
  case k15 | k16 => omega
  case k17 => assumption
  case k19 => (rw [known_refs]; decide)
  k_whole
  intro h' tk' v' st' t1' t2' hmem' hst0' hst1' F' N'
  (try dsimp only at N')
  obtain ⟨r', hr', q'⟩ := known_mem hmem'
  subst q'
  clear hmem'
  obtain ⟨c', gc', sc', d', tt', hrow', hgc', hIsT'⟩ := known_row (by k_asm) hr'))
local macro_rules | `(tactic| walk_at "setItem ref int") => `(tactic| (
  k_here
  refine' kda_set (knd := PySem.intKind _ _) ?F ?N ?U ?d (intKind_is _ _ _ _) ?z ?_
  case F | N => k_asm
  case U => k_updF
  case d => k_asm
  case z => (rw [sizeLine_eq]; omega)
  intro h' o' F' N' hd'
  (try dsimp only at N')))
local macro_rules | `(tactic| walk_at "exec For") => `(tactic| (
  k_here
  rename Fr _ _ _ _ => lF'
  with_unfolding_all refine' For_invVF lF' ?k1 ?k2 ?_ (hE := Hid.out (by assumption))
  case k1 | k2 => exact rfl
  k_whole))
local macro_rules | `(tactic| walk_at "pyIter ref") => `(tactic| (refine StopG.mk ?_))

theorem eta_env2 {M : Model} {A : Around} {b : List Stmt} {n : Str} {k : ScopeKind} {nm : List (Str × NameKind)} {g c : Bool} {mo : List (Str × Const)} {L f : Addr} {cd : Value} {Q : Flow → Shared → Prop} {E : Value → Shared → Prop} {s : Shared}
    (hE : PassesOwn M A (envOf n ⟨k, nm, g, c, mo⟩ L f cd) E) (h : Hid (PassesOwn M A (envOf n ⟨k, nm, g, c, mo⟩ L f cd) E) → wpAny M A (execs b (envOf n ⟨k, nm, g, c, mo⟩ L f cd)) Q E s) : wpAny M A (execs b (envOf n ⟨k, nm, g, c, mo⟩ L f cd)) Q E s := h ⟨hE⟩
noncomputable def stFor : Stmt → List Stmt
  | .For _ _ b _ _ => b
  | _ => []
noncomputable def lawFor (i : Nat) : List Stmt := stFor ((lawBody.drop i).headD (.Pass default))
theorem frL_out {wl sg du : Addr} {m u : Str → Option Value} {x : Str} {stored : List Str} (h : ([Str.ofString "due", Str.ofString "signs", Str.ofString "well"].all fun a => a != x && !stored.contains a) = true) :
    (fun y => if y = x then u y else if stored.contains y then u y else frL wl sg du m y) = frL wl sg du (fun y => if y = x then u y else if stored.contains y then u y else m y) := by
  simp only [List.all_cons, List.all_nil, Bool.and_true, Bool.and_eq_true, bne_iff_ne, ne_eq, Bool.not_eq_true'] at h
  obtain ⟨⟨a1, a2⟩, ⟨b1, b2⟩, c1, c2⟩ := h
  funext y
  simp only [frL]
  by_cases e1 : y = Str.ofString "due"
  · rw [e1, if_neg a1, a2]; simp
  · by_cases e2 : y = Str.ofString "signs"
    · rw [e2, if_neg b1, b2]; simp
    · by_cases e3 : y = Str.ofString "well"
      · rw [e3, if_neg c1, c2]; simp
      · simp only [if_neg e1, if_neg e2, if_neg e3]
section
variable {w : World} {A A₀ : Around} {d u : Nat} {gs : List Code} {base h₀ : Heap} {outer : List Env} {env : Env} {mg mb : Str → Option Value} {mean : ExcName → Option Value}
    {L : Addr} {m : Str → Option Value} {news : List (Addr × Obj)} {s : Shared} {Q : Flow → Shared → Prop} {E : Value → Shared → Prop}
theorem loop1 {fa : Addr} {cd : Value} {wl cl sg du : Addr} {vs : List Value} {kk : Nat} {ns : List Int} {c0 : LSt} {r : Addr} {v : Int} {ta tb tc : Tok}
    (B : Below A₀ base outer h₀) (F : Fr h₀ L s.heap (frL wl sg du m))
    (N : News h₀ L s.heap (ledL wl cl sg du vs kk c0)) (fx : LFix wl cl sg du vs ns) (ok0 : LOk w wl sg du c0 0)
    (hr : IsRange s.heap r 0 (1 + v) 1 ta tb tc) (hv0 : 0 ≤ v) (hv1 : v < 4)
    (X : (hd.heap_39 w.params).In h₀) (T : Top view (looseW view [Str.ofString "UniError"]) mean mg mb h₀)
    (hA : A = ⟨none, d, some (lawEnv L fa cd :: outer), some gs, u⟩) (hroom : d < 800) (hu : u < 8000)
    (hC : ∀ h' tk m' c, LOk w wl sg du c 4 → 1 ≤ c.kvs1.length → Fr h₀ L h' (frL wl sg du m') → News h₀ L h' (ledL wl cl sg du vs kk c) → Q .next { s with heap := h', toks := tk }) :
    wpAny (model PySem.Challenge.rw_on0362_01.row.prog w) A (pyIter (.ref r)) (fun it s₂ => LoopAtV PySem.Challenge.rw_on0362_01.row.prog w A h₀ (lawEnv L fa cd) (Str.ofString "turn") (lawFor 2) Q E it s₂) E s := by
  subst hA
  refine rangeK (σ := LSt) (n := (1 + v).toNat) (fun c => ledL wl cl sg du vs kk c) (fun _ => []) (fun i c => LOk w wl sg du c i ∧ (i = 0 ∨ 1 ≤ c.kvs1.length)) [Str.ofString "row"] c0
    rfl hr (small_one (by omega) (by omega) (by omega) (by omega)) (by rw [rangeSize_one]; omega) F N (List.forall_mem_nil _) ⟨ok0, .inl rfl⟩ ?_ ?_
  · clear F N ok0 hr
    rintro i k t ⟨sp, st, t1, t2, o1, o2, kvs1, kvs2, tail⟩ u hp tk I oI hi hk hne ⟨ok, hl⟩ F' N'
    dsimp only [kstB, ledL] at F' N' hne
    obtain ⟨sp0, sp1, st0, st1, tw, tsg, tdu, d1, d2, oks, len1, len2⟩ := ok
    obtain ⟨fhi, fhlen, fhns, fn1, fn2, fn3, fn4, fn5, fn6, fms, fmd⟩ := fx
    dsimp only at sp0 sp1 st0 st1 tw tsg tdu d1 d2 oks len1 len2
    have hb : sp < 900 := by omega
    have hlb1 : kvs1.length < 900 := by omega
    have hlb2 : kvs2.length < 900 := by omega
    have sp1h : Hid (_ : Prop) := ⟨sp1⟩
    clear sp1
    refine eta_env ?_
    refine eta_cons ?_
    have i1 : @Ne Nat I wl := Ne.symm (hne (wl, _) (.head _))
    have i2 : @Ne Nat I cl := Ne.symm (hne (cl, _) (.tail _ (.head _)))
    have i3 : @Ne Nat I sg := Ne.symm (hne (sg, _) (.tail _ (.tail _ (.head _))))
    have i4 : @Ne Nat I du := Ne.symm (hne (du, _) (.tail _ (.tail _ (.tail _ (.head _)))))
    k_steps
    rename_i _ _ st' t1' t2' hst0 hst1 _ _ r' hr' c' gc' sc' d' tt' hrow' hgc' _ _ _ D1 _ _ _ la x' dx' _ _ kt' vt' _ _ hdx' hx' _ o1' _ _ hd1 D2 _ _ _ lb _ o2' F1 N1 hd2
    have hl1 := PySem.stored_length_le kvs1 c' (Value.ref x')
    have hl2 := PySem.stored_length_le kvs2 c' (Value.ref D2)
    refine EndI.intro (nx := ledL wl cl sg du vs kk ⟨sp + 1, st', t1', t2', o1', o2', PySem.stored kvs1 c' (.ref x'), PySem.stored kvs2 c' (.ref D2),
      (D2, tupO d' tt') :: (x', instObj 139 dx') :: (dx', dictOf (signEs w kt' vt' c' (Str.ofString "SIGN") gc' (Str.ofString "ON") sc' Value.none D1) 12) :: tail⟩) F1 ?_ ?_ ⟨_, rfl, ⟨?_, .inr stored_pos⟩, List.forall_mem_nil _, ?_⟩
    · intro p hp
      refine N1 p ?_
      simp only [ledL, List.mem_cons] at hp ⊢
      rcases hp with h | h | h | h | h | h | h | h | h
      all_goals simp only [h, true_or, or_true]
    · simp only [ledL, List.forall_mem_cons] at hne ⊢
      obtain ⟨a1, a2, a3, a4, a5⟩ := hne
      exact ⟨a1, a2, a3, a4, (show @Ne Nat D2 I by omega), (show @Ne Nat x' I by omega), (show @Ne Nat dx' I by omega), a5⟩
    · constructor
      case sp0 => dsimp only; omega
      case sp1 => (have sp1 := sp1h.out); dsimp only; omega
      case st0 => exact hst0
      case st1 => exact hst1
      case tw => exact List.forall_mem_cons.mpr ⟨(show @Ne Nat D2 wl by omega), List.forall_mem_cons.mpr ⟨(show @Ne Nat x' wl by omega), List.forall_mem_cons.mpr ⟨(show @Ne Nat dx' wl by omega), tw⟩⟩⟩
      case tsg => exact List.forall_mem_cons.mpr ⟨(show @Ne Nat D2 sg by omega), List.forall_mem_cons.mpr ⟨(show @Ne Nat x' sg by omega), List.forall_mem_cons.mpr ⟨(show @Ne Nat dx' sg by omega), tsg⟩⟩⟩
      case tdu => exact List.forall_mem_cons.mpr ⟨(show @Ne Nat D2 du by omega), List.forall_mem_cons.mpr ⟨(show @Ne Nat x' du by omega), List.forall_mem_cons.mpr ⟨(show @Ne Nat dx' du by omega), tdu⟩⟩⟩
      case d1 => exact hd1
      case d2 => exact hd2
      case ok =>
        refine oks.put (fun p hp => .tail _ (.tail _ (.tail _ hp))) ?_
        exact ⟨x', dx', kt', vt', gc', sc', _, _, .none, D1, D2, d', tt', rfl, .tail _ (.head _), .tail _ (.tail _ (.head _)), by rw [valueAt_stored, if_pos rfl], .head _, hgc', rfl, .inl ⟨rfl, r', tt', hr', hrow'⟩⟩
      case len1 => exact Nat.le_trans hl1 (Nat.succ_le_succ len1)
      case len2 => exact Nat.le_trans hl2 (Nat.succ_le_succ len2)
    · walk_at "KJOFF"
  · clear F N ok0 hr
    rintro c u hp tk ⟨ok, hl⟩ F' N'
    dsimp only [kstB] at F' N'
    rw [frL_out (by decide)] at F'
    refine hC _ _ _ _ (ok.mono (by omega)) ?_ F' N'
    rcases hl with h | h
    · omega
    · exact h
theorem segB {fa : Addr} {cd : Value} {wl cl : Addr} {vs : List Value} {kk : Nat} {ns : List Int} {t1 t2 : Tok}
    (B : Below A₀ base outer h₀) (F : Fr h₀ L s.heap (fun y => if y = Str.ofString "well" then some (.ref wl) else m y))
    (N : News h₀ L s.heap ((wl, wellO cl 0 1157 t1 t2) :: (cl, PySem.W.listOf vs.toArray kk) :: news))
    (X : (hd.heap_39 w.params).In h₀) (T : Top view (looseW view [Str.ofString "UniError"]) mean mg mb h₀)
    (hA : A = ⟨none, d, some (lawEnv L fa cd :: outer), some gs, u⟩) (hroom : d < 800) (hu : u < 8000)
    (hi : IntsAre vs ns) (hlen : ns.length ≤ 63) (hns : ∀ n ∈ ns, 0 ≤ n ∧ n < 2147483647) (hne : @Ne Nat wl cl) (hwn : ∀ p ∈ news, p.1 ≠ wl)
    (hE : PassesOwn (model PySem.Challenge.rw_on0362_01.row.prog w) A (lawEnv L fa cd) E)
    (hC : ∀ h' tk m' sg du c, LFix wl cl sg du vs ns → LOk w wl sg du c 4 → 1 ≤ c.kvs1.length → Fr h₀ L h' (frL wl sg du m') → News h₀ L h' (ledL wl cl sg du vs kk c) →
      wpAny (model PySem.Challenge.rw_on0362_01.row.prog w) A (execs (lawBody.drop 3) (lawEnv L fa cd)) Q E { s with heap := h', toks := tk }) :
    wpAny (model PySem.Challenge.rw_on0362_01.row.prog w) A (execs (lawBody.drop 1) (lawEnv L fa cd)) Q E s := by
  subst hA
  refine eta_env2 hE ?_
  clear hE
  intro hE
  refine eta_cons ?_
  k_steps
  refine StopG.out ?_
  rename Fr _ _ _ _ => F1
  rename News _ _ _ _ => N1
  rename IsRange _ _ _ _ _ _ _ _ => hr
  rename_i sg _ o1 ms _ _ hd1 _ la du _ o2 md _ _ hd2 _ lb tp _ lc _ _ _ _ _ _ _ v' st' _ t1' t2' hv0 hv1 hst0 hst1 _ _ _ _ _ _ _ _
  refine loop1 (wl := wl) (cl := cl) (vs := vs) (kk := kk) (sg := sg) (du := du) (ns := ns) (c0 := ⟨0 + 1, st', t1', t2', o1, o2, [], [], news⟩) B F1 ?_ ?_ ?_ hr hv0 hv1 X T rfl hroom hu ?_
  · intro p hp
    refine N1 p ?_
    simp only [ledL, List.mem_cons] at hp ⊢
    rcases hp with h | h | h | h | h
    all_goals simp only [h, true_or, or_true]
  · exact ⟨hi, hlen, hns, hne, (show @Ne Nat wl sg by omega), (show @Ne Nat wl du by omega), (show @Ne Nat cl sg by omega), (show @Ne Nat cl du by omega), (show @Ne Nat sg du by omega), ms, md⟩
  · constructor
    case sp0 => dsimp only; omega
    case sp1 => dsimp only; omega
    case st0 => exact hst0
    case st1 => exact hst1
    case tw => exact hwn
    case tsg => exact fun p hp => Nat.ne_of_lt (of_AllLt la.2.2 p hp)
    case tdu => exact fun p hp => Nat.ne_of_lt (of_AllLt lb.2.2.2 p hp)
    case d1 => exact hd1
    case d2 => exact hd2
    case ok => intro c v h; cases h
    case len1 => exact Nat.le_refl _
    case len2 => exact Nat.le_refl _
  · intro h' tk m' c ok hpos F' N'
    refine hC h' tk m' sg du c ?_ ok hpos F' N'
    exact ⟨hi, hlen, hns, hne, (show @Ne Nat wl sg by omega), (show @Ne Nat wl du by omega), (show @Ne Nat cl sg by omega), (show @Ne Nat cl du by omega), (show @Ne Nat sg du by omega), ms, md⟩
end

end
section
theorem flushW3 {M : Model} {A : Around} {env : Env} {Q : Flow → Shared → Prop} {E : Value → Shared → Prop} {s : Shared} (h : wpAny M A (execs [] env) Q E s) : wpAny M A (execs [] env) Q E s := by
  first | (walk1; fail "flush") | exact h
theorem fillW3 (P : Params) : PySem.Challenge.rw_on0362_01.prog = PySem.Challenge.rw_on0362_01.prog ∧ hd.heap_39 P = hd.heap_39 P := by
  k_fill
  exact ⟨rfl, rfl⟩

noncomputable def isStr2 : Value → Bool
  | .str g _ => Nat.beq g.length 2
  | _ => false
noncomputable def isStr1 : Value → Bool
  | .str _ _ => true
  | _ => false
theorem gcs_all (P : Params) : (itemsAt (hd.heap_39 P) 194).all isStr2 = true := by kernel_rfl
theorem scs_all (P : Params) : (itemsAt (hd.heap_39 P) 195).all isStr1 = true := by kernel_rfl
theorem gcs_mem {P : Params} {v : Value} (h : v ∈ itemsAt (hd.heap_39 P) 194) : ∃ gc t, v = .str gc t ∧ gc.length = 2 ∧ Value.str gc t ∈ itemsAt (hd.heap_39 P) 194 := by
  have := List.all_eq_true.mp (gcs_all P) v h
  cases v <;> first | (cases this; done) | skip
  rename_i g t
  exact ⟨g, t, rfl, Nat.eq_of_beq_eq_true this, h⟩
theorem scs_mem {P : Params} {v : Value} (h : v ∈ itemsAt (hd.heap_39 P) 195) : ∃ gc t, v = .str gc t ∧ Value.str gc t ∈ itemsAt (hd.heap_39 P) 195 := by
  have := List.all_eq_true.mp (scs_all P) v h
  cases v <;> first | (cases this; done) | skip
  rename_i g t
  exact ⟨g, t, rfl, h⟩
local macro_rules | `(tactic| walk_at "call ref") => `(tactic| (
  k_here
  refine' pick_N2 ?k1 ?k2 ?k3 ?k4 ?k5 ?k6 ?k7 rfl ?k8 ?k9 ?k10 ?k11 ?k12 ?k13 ?k14 ?k15 ?k16 ?k17 ?k18 ?k19 ?_
  case k1 | k2 | k3 => k_asm
  case k18 => k_dflt k_mem
  case k4 => k_updF
  case k5 => k_dflt k_mem
  case k6 | k7 => k_asm
  case k8 | k9 => with_unfolding_all rfl
  case k10 | k11 => (first | omega | (simp only [Around.deeper, Around.in1, Around.mark, cLine] <;> omega))
  case k12 | k13 | k14 => assumption
  case k15 | k16 => omega
  case k17 => assumption
  case k19 => (simp only [List.length_cons, List.length_nil]; omega)
  k_whole
  intro h' tk' v' st' t1' t2' hmem' hst0' hst1' F' N'
  (try dsimp only at N')
  simp only [List.mem_cons, List.not_mem_nil, or_false] at hmem'
  rcases hmem' with q1' | q1' | q1' <;> subst q1'))
local macro_rules | `(tactic| walk_at "call ref") => `(tactic| (
  k_here
  refine' pick_K2 ?k1 ?k2 ?k3 ?k4 ?k5 ?k6 ?k7 rfl ?k8 ?k9 ?k10 ?k11 ?k12 ?k13 ?k14 ?k15 ?k16 ?k17 ?k18 ?k19 ?_
  case k1 | k2 | k3 => k_asm
  case k18 => (k_dflt (exact tup_in (by k_asm) rfl))
  case k4 => k_updF
  case k5 => k_dflt k_mem
  case k6 | k7 => k_asm
  case k8 | k9 => with_unfolding_all rfl
  case k10 | k11 => (first | omega | (simp only [Around.deeper, Around.in1, Around.mark, cLine] <;> omega))
  case k12 | k13 | k14 => assumption
  case k15 | k16 => omega
  case k17 => assumption
  case k19 => (rw [gcs_len]; decide)
  k_whole
  intro h' tk' v' st' t1' t2' hmem' hst0' hst1' F' N'
  (try dsimp only at N')
  obtain ⟨gc', tg', q', hgl', hgm'⟩ := gcs_mem hmem'
  subst q'
  clear hmem'))
local macro_rules | `(tactic| walk_at "call ref") => `(tactic| (
  k_here
  refine' pick_K2 ?k1 ?k2 ?k3 ?k4 ?k5 ?k6 ?k7 rfl ?k8 ?k9 ?k10 ?k11 ?k12 ?k13 ?k14 ?k15 ?k16 ?k17 ?k18 ?k19 ?_
  case k1 | k2 | k3 => k_asm
  case k18 => (k_dflt (exact tup_in (by k_asm) rfl))
  case k4 => k_updF
  case k5 => k_dflt k_mem
  case k6 | k7 => k_asm
  case k8 | k9 => with_unfolding_all rfl
  case k10 | k11 => (first | omega | (simp only [Around.deeper, Around.in1, Around.mark, cLine] <;> omega))
  case k12 | k13 | k14 => assumption
  case k15 | k16 => omega
  case k17 => assumption
  case k19 => (rw [scs_len]; decide)
  k_whole
  intro h' tk' v' st' t1' t2' hmem' hst0' hst1' F' N'
  (try dsimp only at N')
  obtain ⟨sc', ts', q', hsm'⟩ := scs_mem hmem'
  subst q'
  clear hmem'))
local macro_rules | `(tactic| walk_at "call ref") => `(tactic| (
  k_here
  refine' reck1 ?k1 ?k2 ?k3 ?k6 ?k7 ?k8 ?k9 rfl ?k10 ?k11 ?k12 ?_
  case k1 | k2 | k3 | k6 | k7 => k_asm
  case k8 | k9 => with_unfolding_all rfl
  case k10 | k11 => (first | omega | (simp only [Around.deeper, Around.in1, Around.mark, cLine] <;> omega))
  case k12 => assumption
  k_whole
  intro h' tk' x' r1' r2' r3' r4' r5' hx' F' N'
  (try k_lt hx')))
local macro_rules | `(tactic| walk_at "setItem ref int") => `(tactic| (
  k_here
  refine' kda_set (knd := PySem.intKind _ _) ?F ?N ?U ?d (intKind_is _ _ _ _) ?z ?_
  case F | N => k_asm
  case U => k_updF
  case d => k_asm
  case z => (rw [sizeLine_eq]; omega)
  intro h' o' F' N' hd'
  (try dsimp only at N')))
local macro_rules | `(tactic| walk_at "exec For") => `(tactic| (
  k_here
  rename Fr _ _ _ _ => lF'
  with_unfolding_all refine' For_invVF lF' ?k1 ?k2 ?_ (hE := Hid.out (by assumption))
  case k1 | k2 => exact rfl
  k_whole))
local macro_rules | `(tactic| walk_at "pyIter ref") => `(tactic| (refine StopG.mk ?_))

section
variable {w : World} {A A₀ : Around} {d u : Nat} {gs : List Code} {base h₀ : Heap} {outer : List Env} {env : Env} {mg mb : Str → Option Value} {mean : ExcName → Option Value}
    {L : Addr} {m : Str → Option Value} {news : List (Addr × Obj)} {s : Shared} {Q : Flow → Shared → Prop} {E : Value → Shared → Prop}
theorem turn2_end {wl cl sg du : Addr} {vs : List Value} {kk : Nat} {sp st : Int} {t1 t2 : Tok} {o1 o2 : Obj} {kvs1 kvs2 : List (Int × Value)} {tail led : List (Addr × Obj)} {i : Nat} {st0 : Int} {t10 t20 : Tok} {o10 o20 : Obj} {sp0 : Int}
    {gc sc nm bc : Str} {tag : Value} {v : Int} {tg ts : Tok} {x dx td I pa : Addr} {oI : Obj} {kt vt : Nat → Tok} {hp : Bool} {u0 u1 u2 u3 u4 : Tok} {m' : Str → Option Value} {h' : Heap} {tk : Nat} {X : Str} {stored : List Str}
    (F1 : Fr h₀ L h' m') (N1 : News h₀ L h' led) (ok : LOk w wl sg du ⟨sp0, st0, t10, t20, o10, o20, kvs1, kvs2, tail⟩ (5 + i))
    (hgl : gc.length = 2) (hgm : Value.str gc tg ∈ itemsAt (hd.heap_39 w.params) 194) (hsm : Value.str sc ts ∈ itemsAt (hd.heap_39 w.params) 195) (hv0 : 0 ≤ v) (hv1 : v < 40)
    (hd1 : o1.IsDictOf (PySem.intKind PySem.Challenge.rw_on0362_01.row.prog w) (PySem.stored kvs1 (921344 + v) (.ref x)))
    (hd2 : o2.IsDictOf (PySem.intKind PySem.Challenge.rw_on0362_01.row.prog w) (PySem.stored kvs2 (921344 + v) (.ref td)))
    (mI : (I, oI) ∈ led) (mw : (wl, wellO cl sp st t1 t2) ∈ led) (mc : (cl, PySem.W.listOf vs.toArray kk) ∈ led) (ms : (sg, o1) ∈ led) (md : (du, o2) ∈ led)
    (mX : (x, instObj 139 dx) ∈ led) (mDx : (dx, dictOf (signEs w kt vt (921344 + v) nm gc bc sc tag pa) 12) ∈ led)
    (mT : (td, ({ cls := .type "tuple", data := .seq #[.str (line2R gc sc) u0, .str (clusR gc) u1, .str (word3R gc sc) u2, .str (sent2R gc) u3, .str (width2R sc hp) u4] } : Obj)) ∈ led) (mt : ∀ p ∈ tail, p ∈ led)
    (htag : handedIn tag = true) (hhp : hp = !(tag == Value.none)) (hsp : 0 ≤ sp ∧ sp ≤ sp0 + 10) (hst : 0 ≤ st ∧ st < 2147483647)
    (aT : @Ne Nat td wl ∧ @Ne Nat td sg ∧ @Ne Nat td du ∧ @Ne Nat td I) (aX : @Ne Nat x wl ∧ @Ne Nat x sg ∧ @Ne Nat x du ∧ @Ne Nat x I) (aD : @Ne Nat dx wl ∧ @Ne Nat dx sg ∧ @Ne Nat dx du ∧ @Ne Nat dx I)
    (hI : ∀ p ∈ ledL wl cl sg du vs kk ⟨sp0, st0, t10, t20, o10, o20, kvs1, kvs2, tail⟩, p.1 ≠ I)
    (hoff : ∀ z, z ≠ X → (∀ p ∈ ([] : List (Str × Value)), z ≠ p.1) → stored.contains z = false → m' z = frL wl sg du m z) :
    EndI h₀ L (KJ (fun c => ledL wl cl sg du vs kk c) (fun _ => []) (fun i c => LOk w wl sg du c (5 + i) ∧ 1 ≤ c.kvs1.length) X stored (frL wl sg du m) (i + 1)) I oI s { s with heap := h', toks := tk } := by
  have hl1 := PySem.stored_length_le kvs1 (921344 + v) (Value.ref x)
  have hl2 := PySem.stored_length_le kvs2 (921344 + v) (Value.ref td)
  obtain ⟨q1, q2, q3, q4, tw, tsg, tdu, d1, d2, oks, len1, len2⟩ := ok
  dsimp only at q1 q2 q3 q4 tw tsg tdu d1 d2 oks len1 len2
  refine EndI.intro (nx := ledL wl cl sg du vs kk ⟨sp, st, t1, t2, o1, o2, PySem.stored kvs1 (921344 + v) (.ref x), PySem.stored kvs2 (921344 + v) (.ref td),
      (td, tupO (fun k => reckAt k gc sc hp) (fun i => [u0, u1, u2, u3, u4].getD i 0)) :: (x, instObj 139 dx) :: (dx, dictOf (signEs w kt vt (921344 + v) nm gc bc sc tag pa) 12) :: tail⟩) F1 ?_ ?_ ⟨_, rfl, ⟨?_, stored_pos⟩, List.forall_mem_nil _, hoff⟩
  · refine fun p hp => N1 p ?_
    rcases List.mem_cons.mp hp with rfl | hp
    · exact mI
    rcases List.mem_cons.mp hp with rfl | hp
    · exact mw
    rcases List.mem_cons.mp hp with rfl | hp
    · exact mc
    rcases List.mem_cons.mp hp with rfl | hp
    · exact ms
    rcases List.mem_cons.mp hp with rfl | hp
    · exact md
    rcases List.mem_cons.mp hp with rfl | hp
    · exact mT
    rcases List.mem_cons.mp hp with rfl | hp
    · exact mX
    rcases List.mem_cons.mp hp with rfl | hp
    · exact mDx
    exact mt _ hp
  · simp only [ledL, List.forall_mem_cons] at hI ⊢
    obtain ⟨a1, a2, a3, a4, a5⟩ := hI
    exact ⟨a1, a2, a3, a4, aT.2.2.2, aX.2.2.2, aD.2.2.2, a5⟩
  · constructor
    case sp0 => exact hsp.1
    case sp1 => dsimp only; omega
    case st0 => exact hst.1
    case st1 => exact hst.2
    case tw => exact List.forall_mem_cons.mpr ⟨aT.1, List.forall_mem_cons.mpr ⟨aX.1, List.forall_mem_cons.mpr ⟨aD.1, tw⟩⟩⟩
    case tsg => exact List.forall_mem_cons.mpr ⟨aT.2.1, List.forall_mem_cons.mpr ⟨aX.2.1, List.forall_mem_cons.mpr ⟨aD.2.1, tsg⟩⟩⟩
    case tdu => exact List.forall_mem_cons.mpr ⟨aT.2.2.1, List.forall_mem_cons.mpr ⟨aX.2.2.1, List.forall_mem_cons.mpr ⟨aD.2.2.1, tdu⟩⟩⟩
    case d1 => exact hd1
    case d2 => exact hd2
    case ok =>
      refine oks.put (fun p hp => .tail _ (.tail _ (.tail _ hp))) ?_
      refine ⟨x, dx, kt, vt, gc, sc, nm, bc, tag, pa, td, _, _, rfl, .tail _ (.head _), .tail _ (.tail _ (.head _)), by rw [valueAt_stored, if_pos rfl], .head _, hgl, htag, .inr ⟨by omega, by omega, ⟨tg, hgm⟩, ⟨ts, hsm⟩, ?_⟩⟩
      intro k hk
      rw [hhp]
    case len1 => exact Nat.le_trans hl1 (Nat.succ_le_succ len1)
    case len2 => exact Nat.le_trans hl2 (Nat.succ_le_succ len2)
theorem loop2 {fa : Addr} {cd : Value} {wl cl sg du : Addr} {vs : List Value} {kk : Nat} {ns : List Int} {c0 : LSt} {r : Addr} {v : Int} {ta tb tc : Tok}
    (B : Below A₀ base outer h₀) (F : Fr h₀ L s.heap (frL wl sg du m))
    (N : News h₀ L s.heap (ledL wl cl sg du vs kk c0)) (fx : LFix wl cl sg du vs ns) (ok0 : LOk w wl sg du c0 5) (pos0 : 1 ≤ c0.kvs1.length)
    (hr : IsRange s.heap r 0 (1 + v) 1 ta tb tc) (hv0 : 0 ≤ v) (hv1 : v < 4)
    (X : (hd.heap_39 w.params).In h₀) (T : Top view (looseW view [Str.ofString "UniError"]) mean mg mb h₀)
    (hA : A = ⟨none, d, some (lawEnv L fa cd :: outer), some gs, u⟩) (hroom : d < 800) (hu : u < 8000)
    (hC : ∀ h' tk m' c, LOk w wl sg du c 9 → 1 ≤ c.kvs1.length → Fr h₀ L h' (frL wl sg du m') → News h₀ L h' (ledL wl cl sg du vs kk c) → Q .next { s with heap := h', toks := tk }) :
    wpAny (model PySem.Challenge.rw_on0362_01.row.prog w) A (pyIter (.ref r)) (fun it s₂ => LoopAtV PySem.Challenge.rw_on0362_01.row.prog w A h₀ (lawEnv L fa cd) (Str.ofString "turn") (lawFor 3) Q E it s₂) E s := by
  subst hA
  refine rangeK (σ := LSt) (n := (1 + v).toNat) (fun c => ledL wl cl sg du vs kk c) (fun _ => []) (fun i c => LOk w wl sg du c (5 + i) ∧ 1 ≤ c.kvs1.length) [Str.ofString "code", Str.ofString "gc", Str.ofString "near", Str.ofString "tag"] c0
    rfl hr (small_one (by omega) (by omega) (by omega) (by omega)) (by rw [rangeSize_one]; omega) F N (List.forall_mem_nil _) ⟨ok0, pos0⟩ ?_ ?_
  · clear F N ok0 hr
    rintro i k t ⟨sp, st, t1, t2, o1, o2, kvs1, kvs2, tail⟩ u hp tk I oI hi hk hne ⟨ok, hl⟩ F' N'
    dsimp only [kstB, ledL] at F' N' hne
    obtain ⟨sp0, sp1, st0, st1, tw, tsg, tdu, d1, d2, oks, len1, len2⟩ := ok
    obtain ⟨fhi, fhlen, fhns, fn1, fn2, fn3, fn4, fn5, fn6, fms, fmd⟩ := fx
    dsimp only at sp0 sp1 st0 st1 tw tsg tdu d1 d2 oks len1 len2
    have hb : sp < 900 := by omega
    have hlb1 : kvs1.length < 900 := by omega
    have hlb2 : kvs2.length < 900 := by omega
    have sp1h : Hid (_ : Prop) := ⟨sp1⟩
    clear sp1
    refine eta_env ?_
    refine eta_cons ?_
    have i1 : @Ne Nat I wl := Ne.symm (hne (wl, _) (.head _))
    have i2 : @Ne Nat I cl := Ne.symm (hne (cl, _) (.tail _ (.head _)))
    have i3 : @Ne Nat I sg := Ne.symm (hne (sg, _) (.tail _ (.tail _ (.head _))))
    have i4 : @Ne Nat I du := Ne.symm (hne (du, _) (.tail _ (.tail _ (.tail _ (.head _)))))
    k_steps
    all_goals rename Fr _ _ _ _ => F1
    all_goals rename News _ _ _ _ => N1
    all_goals rename Value.str _ _ ∈ itemsAt _ 194 => hgm
    all_goals rename Value.str _ _ ∈ itemsAt _ 195 => hsm
    all_goals rename Obj.IsDictOf _ _ (PySem.stored kvs1 _ _) => hd1
    all_goals rename Obj.IsDictOf _ _ (PySem.stored kvs2 _ _) => hd2
    all_goals refine turn2_end F1 N1 ⟨sp0, sp1h.out, st0, st1, tw, tsg, tdu, d1, d2, oks, len1, len2⟩ (by assumption) hgm hsm ?_ ?_ hd1 hd2 (by k_mem) (by k_mem) (by k_mem) (by k_mem) (by k_mem) (by k_mem) (by k_mem) (by k_mem) ?_ rfl rfl (by omega) (by constructor <;> assumption) (by refine ⟨?_, ?_, ?_, ?_⟩ <;> omega) (by refine ⟨?_, ?_, ?_, ?_⟩ <;> omega) (by refine ⟨?_, ?_, ?_, ?_⟩ <;> omega) hne ?_
    all_goals first
      | assumption
      | (walk_at "KJOFF")
      | (intro p hp; repeat (first | exact hp | refine .tail _ ?_))
  · clear F N ok0 hr
    rintro c u hp tk ⟨ok, hl⟩ F' N'
    dsimp only [kstB] at F' N'
    rw [frL_out (by decide)] at F'
    exact hC _ _ _ _ (ok.mono (by omega)) hl F' N'
theorem segC {fa : Addr} {cd : Value} {wl cl sg du : Addr} {vs : List Value} {kk : Nat} {ns : List Int} {c0 : LSt}
    (B : Below A₀ base outer h₀) (F : Fr h₀ L s.heap (frL wl sg du m))
    (N : News h₀ L s.heap (ledL wl cl sg du vs kk c0)) (fx : LFix wl cl sg du vs ns) (ok0 : LOk w wl sg du c0 4) (pos0 : 1 ≤ c0.kvs1.length)
    (X : (hd.heap_39 w.params).In h₀) (T : Top view (looseW view [Str.ofString "UniError"]) mean mg mb h₀)
    (hA : A = ⟨none, d, some (lawEnv L fa cd :: outer), some gs, u⟩) (hroom : d < 800) (hu : u < 8000)
    (hE : PassesOwn (model PySem.Challenge.rw_on0362_01.row.prog w) A (lawEnv L fa cd) E)
    (hC : ∀ h' tk m' c, LOk w wl sg du c 9 → 1 ≤ c.kvs1.length → Fr h₀ L h' (frL wl sg du m') → News h₀ L h' (ledL wl cl sg du vs kk c) →
      wpAny (model PySem.Challenge.rw_on0362_01.row.prog w) A (execs (lawBody.drop 4) (lawEnv L fa cd)) Q E { s with heap := h', toks := tk }) :
    wpAny (model PySem.Challenge.rw_on0362_01.row.prog w) A (execs (lawBody.drop 3) (lawEnv L fa cd)) Q E s := by
  subst hA
  refine eta_env2 hE ?_
  clear hE
  intro hE
  refine eta_cons ?_
  obtain ⟨sp, st, t1, t2, o1, o2, kvs1, kvs2, tail⟩ := c0
  have ok := ok0
  have fx0 := fx
  obtain ⟨sp0, sp1, st0, st1, tw, tsg, tdu, d1, d2, oks, len1, len2⟩ := ok
  obtain ⟨fhi, fhlen, fhns, fn1, fn2, fn3, fn4, fn5, fn6, fms, fmd⟩ := fx
  dsimp only at sp0 sp1 st0 st1 tw tsg tdu d1 d2 oks len1 len2 pos0
  dsimp only [ledL] at N
  k_steps
  refine StopG.out ?_
  rename Fr _ _ _ _ => F1
  rename News _ _ _ _ => N1
  rename IsRange _ _ _ _ _ _ _ _ => hr

  rename_i v' st' _ t1' t2' hv0 hv1 hst0 hst1 _ _ _ _ _ _ _ _
  refine loop2 (wl := wl) (cl := cl) (vs := vs) (kk := kk) (sg := sg) (du := du) (ns := ns) (c0 := ⟨sp + 1, st', t1', t2', o1, o2, kvs1, kvs2, tail⟩) B F1 N1 fx0 ?_ pos0 hr hv0 hv1 X T rfl hroom hu ?_
  · constructor
    case sp0 => dsimp only; omega
    case sp1 => dsimp only; omega
    case st0 => exact hst0
    case st1 => exact hst1
    case tw => exact tw
    case tsg => exact tsg
    case tdu => exact tdu
    case d1 => exact d1
    case d2 => exact d2
    case ok => exact oks
    case len1 => exact Nat.le_succ_of_le len1
    case len2 => exact Nat.le_succ_of_le len2
  · exact hC
end

end
section
theorem flushDS {M : Model} {A : Around} {env : Env} {Q : Flow → Shared → Prop} {E : Value → Shared → Prop} {s : Shared} (h : wpAny M A (execs [] env) Q E s) : wpAny M A (execs [] env) Q E s := by
  first | (walk1; fail "flush") | exact h
theorem ints_of : ∀ {vs : List Value} {ns : List Int}, vs.length = ns.length → (∀ (j : Nat) (v : Value), vs[j]? = some v → ∃ n t, ns[j]? = some n ∧ v = .int n t) → IntsAre vs ns
  | [], [], _, _ => .nil
  | [], _ :: _, h, _ => by cases h
  | _ :: _, [], h, _ => by cases h
  | v :: vs, n :: ns, hl, h => by
    obtain ⟨n', t, h1, rfl⟩ := h 0 v rfl
    have e : n = n' := by simpa using h1
    subst e
    exact .cons n t (ints_of (by simpa using hl) fun j u hu => by simpa using h (j + 1) u (by simpa using hu))
section
variable {prog : Program} {w : World} {A : Around} {E : Value → Shared → Prop} {s : Shared} {h₀ : Heap} {L d : Addr} {m : Str → Option Value} {news : List (Addr × Obj)} {o : Obj} {kvs : List (Int × Value)} {Q : Value → Shared → Prop}
theorem dsorted (hh : A.handled = none) (F : Fr h₀ L s.heap m) (N : News h₀ L s.heap news) (mD : (d, o) ∈ news) (hd : o.IsDictOf (intKind prog w) kvs) (lo : (d == sysModules) = false) (hlen : kvs.length < 64)
    (h : ∀ D h' tk vs' ns' e, Fr h₀ L h' m → News h₀ L h' ((D, PySem.W.listOf (List.toArray vs') e) :: news) → (∀ q ∈ news, q.1 < D) → IntsAre vs' ns' → ns'.Perm (kvs.map (·.1)) → ns'.Pairwise (· ≤ ·) → Q (.ref D) { s with heap := h', toks := tk }) :
    wpAny (model prog w) A (call (.builtin "sorted") [.ref d]) Q E s := by
  have hD : s.heap.DictOf (intKind prog w) d kvs := Heap.dictOf_iff.mpr ⟨o, (N _ mD).1, hd⟩
  obtain ⟨ep, hat⟩ := hD.dictAt
  refine kdu_sorted (kdl_dict (knd := intKind prog w) (kvs := kvs) (ep := ep) lo) hh F N hat (kdl_size (by omega)) fun B h' tk vs F' N' l1 hl hv => ?_
  have hI : IntsAre vs (kvs.map (·.1)) := by
    refine ints_of (by rw [hl, List.length_map]) fun j v hj => ?_
    obtain ⟨k, x, h1, h2⟩ := hv j v hj
    obtain ⟨t, rfl⟩ := Value.isInt_shape h2
    exact ⟨k, t, by rw [List.getElem?_map, h1]; rfl, rfl⟩
  have z := N' _ (.head _)
  refine wpAny_call_entry slot_list_sort ⟨_, z.1, rfl⟩ entry_list_sort (list_sort_tree (n := 0) (vs := vs) z.1 hI (by omega) fun out ns' a1 a2 a3 => ⟨.none, rfl, ?_⟩) (args_list_sort _)
  obtain ⟨e, he⟩ := sortedHeap_at (out := out) z.1
  have F2 : Fr h₀ L (sortedHeap h' B vs out) m := by
    have hBL : L ≠ B := Ne.symm z.2.1
    refine ⟨F'.ns.at' fun o' e' => ?_, fun b o' e' => ?_, F'.above⟩
    · rw [sortedHeap_old hBL (Heap.lt_size e')]; exact e'
    · have hb : b ≠ B := by
        rintro rfl
        have := z.2.2
        rw [e'] at this; cases this
      have e2 := F'.keep _ _ e'
      rw [sortedHeap_old hb (Heap.lt_size e2)]; exact e2
  have N2 : News h₀ L (sortedHeap h' B vs out) ((B, PySem.W.listOf out.toList.toArray e) :: news) := by
    intro p hp
    rcases List.mem_cons.mp hp with rfl | hp
    · exact ⟨by rw [Array.toArray_toList]; exact he, z.2⟩
    · have q := N' p (.tail _ hp)
      exact ⟨by rw [sortedHeap_old (Nat.ne_of_lt (l1 p hp)) (Heap.lt_size q.1)]; exact q.1, q.2⟩
  exact h B _ _ out.toList ns' e F2 N2 l1 a1 a2 a3
end

end
section
theorem flushAK {M : Model} {A : Around} {env : Env} {Q : Flow → Shared → Prop} {E : Value → Shared → Prop} {s : Shared} (h : wpAny M A (execs [] env) Q E s) : wpAny M A (execs [] env) Q E s := by
  first | (walk1; fail "flush") | exact h
theorem fillAK (P : Params) : PySem.Challenge.rw_on0362_01.prog = PySem.Challenge.rw_on0362_01.prog ∧ hd.heap_39 P = hd.heap_39 P := by
  k_fill
  exact ⟨rfl, rfl⟩
section
variable {w : World} {A A₀ : Around} {d u : Nat} {gs : List Code} {base h₀ : Heap} {outer : List Env} {env : Env} {mg mb : Str → Option Value} {mean : ExcName → Option Value}
    {L : Addr} {m : Str → Option Value} {news : List (Addr × Obj)} {s : Shared} {Q : Value → Shared → Prop} {E : Value → Shared → Prop}

noncomputable def fnAt (k : Nat) : Addr := match k with
  | 0 => 28
  | 1 => 35
  | 2 => 42
  | 3 => 49
  | _ => 56
theorem ask1 {k : Nat} {code : Int} {gc sc nm bc : Str} {kt vt : Nat → Tok} {tag : Value} {pa x dx la : Addr} {lo : Obj} {kvs : List (Int × Value)} {L0 : List (Int × Str)} (hk5 : k < 5) (B : Below A₀ base outer h₀) (F : Fr h₀ L s.heap m)
    (N : News h₀ L s.heap news)
    (X : (hd.heap_39 w.params).In h₀) (T : Top view (looseW view [Str.ofString "UniError"]) mean mg mb h₀)
    (hf : env.frame = some L) (hk : env.scope.kind = .function) (hA : A = ⟨none, d, some (env :: outer), some gs, u⟩) (hroom : d < 880) (hu : u < 8800)
    (mX : (x, instObj 139 dx) ∈ news) (mD : (dx, dictOf (signEs w kt vt code nm gc bc sc tag pa) 12) ∈ news) (mL : (la, lo) ∈ news)
    (hlo : lo.IsDictOf (PySem.intKind PySem.Challenge.rw_on0362_01.row.prog w) kvs) (hla : (la == sysModules) = false) (hrel : RelS kvs L0) (hg : gc.length = 2) (htg : handedIn tag = true)
    (h : ∀ r t h' tk, r = (lookS L0 code).getD (ruleAt k code gc sc (tag == Value.none)) → Fr h₀ L h' m → News h₀ L h' news → Q (.str r t) { s with heap := h', toks := tk }) :
    wpAny (model PySem.Challenge.rw_on0362_01.row.prog w) A (call (.ref (fnAt k)) [.ref x, .ref la]) Q E s := by
  have N2 : News h₀ L s.heap ((x, instObj 139 dx) :: (dx, dictOf (signEs w kt vt code nm gc bc sc tag pa) 12) :: (la, lo) :: news) := by
    intro p hp
    rcases List.mem_cons.mp hp with rfl | hp
    · exact N _ mX
    rcases List.mem_cons.mp hp with rfl | hp
    · exact N _ mD
    rcases List.mem_cons.mp hp with rfl | hp
    · exact N _ mL
    exact N _ hp
  have g1 : ∀ val h' tk, valueAt kvs code = some val → Fr h₀ L h' m → News h₀ L h' ((x, instObj 139 dx) :: (dx, dictOf (signEs w kt vt code nm gc bc sc tag pa) 12) :: (la, lo) :: news) → Q val { s with heap := h', toks := tk } := by
    intro val h' tk hv F' N'
    rcases hrel.look code with ⟨e1, _⟩ | ⟨r, t, e1, e2⟩
    · rw [e1] at hv; cases hv
    · rw [e1] at hv
      cases hv
      exact h r t h' tk (by rw [e2]; rfl) F' fun p hp => N' p (.tail _ (.tail _ (.tail _ hp)))
  have g2 : ∀ r t h' tk, valueAt kvs code = none → r = ruleAt k code gc sc (tag == Value.none) → Fr h₀ L h' m → News h₀ L h' ((x, instObj 139 dx) :: (dx, dictOf (signEs w kt vt code nm gc bc sc tag pa) 12) :: (la, lo) :: news) → Q (.str r t) { s with heap := h', toks := tk } := by
    intro r t h' tk hv hr F' N'
    rcases hrel.look code with ⟨_, e2⟩ | ⟨r', t', e1, _⟩
    · exact h r t h' tk (by rw [e2]; exact hr) F' fun p hp => N' p (.tail _ (.tail _ (.tail _ hp)))
    · rw [e1] at hv; cases hv
  have : k = 0 ∨ k = 1 ∨ k = 2 ∨ k = 3 ∨ k = 4 := by omega
  rcases this with e | e | e | e | e <;> subst e
  · exact line1 B F N2 hlo hla X T hf hk hA (by omega) (by omega) g1 g2
  · exact cluster1 B F N2 hlo hla X T hf hk hA (by omega) (by omega) g1 g2
  · exact word1 B F N2 hlo hla X T hf hk hA (by omega) (by omega) hg g1 g2
  · exact sent1 B F N2 hlo hla X T hf hk hA (by omega) (by omega) g1 g2
  · exact width1 B F N2 hlo hla X T hf hk hA (by omega) (by omega) htg g1 g2
end

end
section
theorem flushW4 {M : Model} {A : Around} {env : Env} {Q : Flow → Shared → Prop} {E : Value → Shared → Prop} {s : Shared} (h : wpAny M A (execs [] env) Q E s) : wpAny M A (execs [] env) Q E s := by
  first | (walk1; fail "flush") | exact h
theorem fillW4 (P : Params) : PySem.Challenge.rw_on0362_01.prog = PySem.Challenge.rw_on0362_01.prog ∧ hd.heap_39 P = hd.heap_39 P := by
  k_fill
  exact ⟨rfl, rfl⟩

noncomputable abbrev frE (k : Nat) (ta : Tok) (la : Addr) (m : Str → Option Value) : Str → Option Value := fun y =>
  if y = Str.ofString "listed" then some (.ref la) else if y = Str.ofString "asked" then some (.ref (fnAt k)) else if y = Str.ofString "at" then some (.int (k : Int) ta) else m y
local macro_rules | `(tactic| walk_at "exec For") => `(tactic| (
  k_here
  rename Fr _ _ _ _ => lF'
  with_unfolding_all refine' For_invVF lF' ?k1 ?k2 ?_ (hE := Hid.out (by assumption))
  case k1 | k2 => exact rfl
  k_whole))
local macro_rules | `(tactic| walk_at "pyIter ref") => `(tactic| (refine StopG.mk ?_))
local macro_rules | `(tactic| walk_at "call builtin:sorted") => `(tactic| (
  k_here
  refine' dsorted ?h ?F ?N ?m ?d ?lo ?z ?_
  case h => rfl
  case F | N => k_asm
  case m => k_dflt k_mem
  case d => k_asm
  case lo => assumption
  case z => omega
  k_whole
  intro D' h' tk' vs' ns' e' F' N' l1 hi' hp' hs'
  (try k_lt l1)))
local macro_rules | `(tactic| walk_at "call ref") => `(tactic| (
  k_here
  k_dflt (first | refine' ask1 (k := 0) ?k0 ?k1 ?k2 ?k3 ?k6 ?k7 ?k8 ?k9 rfl ?k10 ?k11 ?mX ?mD ?mL ?k12 ?k13 ?k14 ?k15 ?k16 ?_ | refine' ask1 (k := 1) ?k0 ?k1 ?k2 ?k3 ?k6 ?k7 ?k8 ?k9 rfl ?k10 ?k11 ?mX ?mD ?mL ?k12 ?k13 ?k14 ?k15 ?k16 ?_ | refine' ask1 (k := 2) ?k0 ?k1 ?k2 ?k3 ?k6 ?k7 ?k8 ?k9 rfl ?k10 ?k11 ?mX ?mD ?mL ?k12 ?k13 ?k14 ?k15 ?k16 ?_ | refine' ask1 (k := 3) ?k0 ?k1 ?k2 ?k3 ?k6 ?k7 ?k8 ?k9 rfl ?k10 ?k11 ?mX ?mD ?mL ?k12 ?k13 ?k14 ?k15 ?k16 ?_ | refine' ask1 (k := 4) ?k0 ?k1 ?k2 ?k3 ?k6 ?k7 ?k8 ?k9 rfl ?k10 ?k11 ?mX ?mD ?mL ?k12 ?k13 ?k14 ?k15 ?k16 ?_)
  case k0 => decide
  case k1 | k2 | k3 => k_asm
  case mX | mD | mL => k_dflt k_mem
  case k6 | k7 => k_asm
  case k8 | k9 => with_unfolding_all rfl
  case k10 | k11 => (first | omega | (simp only [Around.deeper, Around.in1, Around.mark, cLine] <;> omega))
  case k12 | k13 | k14 | k15 | k16 => assumption
  k_whole
  intro r' t' h' tk' hr' F' N'))
local macro_rules | `(tactic| walk_at "getItem ref int") => `(tactic| (k_here; refine' kdt_getItem (knd := PySem.intKind _ _) ?k1 ?k2 ?k3 ?k4 ?k5 ?_; (case k1 => k_asm); (case k2 => k_dflt k_mem); (case k3 => k_asm); (case k4 => exact intKind_is _ _ _ _); (case k5 => assumption); k_whole))
local macro_rules | `(tactic| walk_at "subscriptTail") => `(tactic| (k_here; (with_reducible show wpAny _ _ (subscriptTail _ _ (Value.ref _) (Value.int _ _)) _ _ _); refine' kda_item (knd := PySem.intKind _ _) ?k1 ?k2 ?k3 ?k4 ?k5 ?_; (case k1 => k_asm); (case k2 => k_dflt k_mem); (case k3 => k_asm); (case k4 => exact intKind_is _ _ _ _); (case k5 => assumption); k_whole))
section
variable {w : World} {A A₀ : Around} {d u : Nat} {gs : List Code} {base h₀ : Heap} {outer : List Env} {env : Env} {mg mb : Str → Option Value} {mean : ExcName → Option Value}
    {L : Addr} {m : Str → Option Value} {news : List (Addr × Obj)} {s : Shared} {Q : Flow → Shared → Prop} {E : Value → Shared → Prop}
theorem any_of {y r : Str} (h : y = S "" ∨ y = r) : ([Str.ofString "", r].any fun x => x == y) = true := by
  rcases h with h | h <;> subst h <;> simp
theorem keys_some {kvs : List (Int × Value)} {c : Int} (h : c ∈ kvs.map (·.1)) : ∃ v, valueAt kvs c = some v := by
  obtain ⟨p, hp, rfl⟩ := List.mem_map.mp h
  unfold valueAt
  cases hq : kvs.find? fun kv => decide (kv.1 = p.1) with
  | none =>
    have := List.find?_eq_none.mp hq p hp
    exact absurd (decide_eq_true rfl) this
  | some q => exact ⟨q.2, rfl⟩
theorem loop3 {fa : Addr} {cd : Value} {wl cl sg du la : Addr} {vs : List Value} {kk : Nat} {ns : List Int} {c0 : LSt} {lo : Obj} {kvsL : List (Int × Value)} {k : Nat} {ta : Tok} {D : Addr} {vs' : List Value} {ns' : List Int} {e : Nat}
    (hk : k < 5) (B : Below A₀ base outer h₀) (F : Fr h₀ L s.heap (frE k ta la (frL wl sg du m)))
    (N : News h₀ L s.heap ((D, PySem.W.listOf vs'.toArray e) :: (la, lo) :: ledL wl cl sg du vs kk c0)) (fx : LFix wl cl sg du vs ns) (ok0 : LOk w wl sg du c0 10)
    (hi : IntsAre vs' ns') (hp : ns'.Perm (c0.kvs1.map (·.1)))
    (hlo : lo.IsDictOf (PySem.intKind PySem.Challenge.rw_on0362_01.row.prog w) kvsL) (hla : (la == sysModules) = false) (hrel : RelS kvsL (listedF (textAt k)))
    (X : (hd.heap_39 w.params).In h₀) (T : Top view (looseW view [Str.ofString "UniError"]) mean mg mb h₀)
    (hA : A = ⟨none, d, some (lawEnv L fa cd :: outer), some gs, u⟩) (hroom : d < 800) (hu : u < 8000)
    (hC : ∀ h' tk m', Fr h₀ L h' (frL wl sg du m') → News h₀ L h' (ledL wl cl sg du vs kk c0) → Q .next { s with heap := h', toks := tk }) :
    wpAny (model PySem.Challenge.rw_on0362_01.row.prog w) A (pyIter (.ref D)) (fun it s₂ => LoopAtV PySem.Challenge.rw_on0362_01.row.prog w A h₀ (lawEnv L fa cd) (Str.ofString "code") (lawFor 7) Q E it s₂) E s := by
  subst hA
  refine listS rfl F N (.head _) ?_ ?_
  · clear F N
    intro i v h' tk I oI hv hne F' N'
    obtain ⟨sp, st, t1, t2, o1, o2, kvs1, kvs2, tail⟩ := c0
    obtain ⟨sp0, sp1, st0, st1, tw, tsg, tdu, d1, d2, oks, len1, len2⟩ := ok0
    obtain ⟨fhi, fhlen, fhns, fn1, fn2, fn3, fn4, fn5, fn6, fms, fmd⟩ := fx
    dsimp only at sp0 sp1 st0 st1 tw tsg tdu d1 d2 oks len1 len2 hp
    dsimp only [ledL] at N' hne
    obtain ⟨c, hc, tc, rfl⟩ := intsAt hi ((List.getElem?_toArray ..).symm.trans hv)
    obtain ⟨v1, hv1⟩ := keys_some (hp.mem_iff.mp (List.mem_of_getElem? hc))
    obtain ⟨x, dx, kt, vt, gc, sc, nm, bc, tag, pa, td, dd, tt, rfl, mX, mD, hv2, mT, hgood⟩ := oks c v1 hv1
    have hpl := plain hk hgood
    obtain ⟨hg, htag, _⟩ := hgood
    have N2 : News h₀ (lawEnv L fa cd).locals h' ((td, tupO dd tt) :: (x, instObj 139 dx) :: (dx, dictOf (signEs w kt vt c nm gc bc sc tag pa) 12) :: (I, oI) :: (D, PySem.W.listOf vs'.toArray e) :: (la, lo) :: (wl, wellO cl sp st t1 t2) :: (cl, PySem.W.listOf vs.toArray kk) :: (sg, o1) :: (du, o2) :: tail) := by
      intro p hp
      rcases List.mem_cons.mp hp with rfl | hp
      · exact N' _ (.tail _ (.tail _ (.tail _ (.tail _ (.tail _ (.tail _ (.tail _ mT)))))))
      rcases List.mem_cons.mp hp with rfl | hp
      · exact N' _ (.tail _ (.tail _ (.tail _ (.tail _ (.tail _ (.tail _ (.tail _ mX)))))))
      rcases List.mem_cons.mp hp with rfl | hp
      · exact N' _ (.tail _ (.tail _ (.tail _ (.tail _ (.tail _ (.tail _ (.tail _ mD)))))))
      exact N' _ hp
    clear N'
    refine eta_env ?_
    refine eta_cons ?_
    have hcs : k = 0 ∨ k = 1 ∨ k = 2 ∨ k = 3 ∨ k = 4 := by omega
    clear hk
    rcases hcs with e1 | e1 | e1 | e1 | e1 <;> subst e1
    all_goals dsimp only [frE, fnAt] at F'
    all_goals k_steps
    all_goals rename Fr _ _ _ _ => F1
    all_goals rename News _ _ _ _ => N1
    all_goals rename _ = Option.getD _ _ => hr1
    all_goals rename List.any _ _ = _ => ha
    all_goals first
      | exact Bool.noConfusion (ha.symm.trans (any_of (hr1 ▸ hpl)))
      | (refine EndI.intro F1 (fun p hp => N1 p (by repeat (first | exact hp | refine .tail _ ?_))) hne ⟨rfl, ?_⟩
         intro z hz
         exact if_neg hz)
  · clear F N
    intro u hp tk F' N'
    have e : (fun y => if y = Str.ofString "code" then u y else frE k ta la (frL wl sg du m) y) = frL wl sg du (fun y => if y = Str.ofString "code" then u y else frE k ta la m y) := by
      funext y
      simp only [frE, frL]
      by_cases e1 : y = Str.ofString "signs"
      · rw [e1]; rfl
      · by_cases e2 : y = Str.ofString "due"
        · rw [e2]; rfl
        · by_cases e3 : y = Str.ofString "well"
          · rw [e3]; rfl
          · simp only [if_neg e1, if_neg e2, if_neg e3]
    rw [e] at F'
    exact hC _ _ _ F' (fun p hp => N' p (.tail _ (.tail _ hp)))
noncomputable def lawSt1 (i : Nat) : Stmt := (lawBody.drop i).headD (.Pass default)
theorem eta_for {M : Model} {A : Around} {t i : Expr} {b o : List Stmt} {p : Pos} {n : Str} {k : ScopeKind} {nm : List (Str × NameKind)} {g c : Bool} {mo : List (Str × Const)} {L f : Addr} {cd : Value} {Q : Flow → Shared → Prop} {E : Value → Shared → Prop} {s : Shared}
    (hE : PassesOwn M A (envOf n ⟨k, nm, g, c, mo⟩ L f cd) E) (h : Hid (PassesOwn M A (envOf n ⟨k, nm, g, c, mo⟩ L f cd) E) → wpAny M A (exec (.For t i b o p) (envOf n ⟨k, nm, g, c, mo⟩ L f cd)) Q E s) : wpAny M A (exec (.For t i b o p) (envOf n ⟨k, nm, g, c, mo⟩ L f cd)) Q E s := h ⟨hE⟩
theorem segE {fa : Addr} {cd : Value} {wl cl sg du la : Addr} {vs : List Value} {kk : Nat} {ns : List Int} {c0 : LSt} {lo : Obj} {kvsL : List (Int × Value)} {k : Nat} {ta : Tok}
    (hk : k < 5) (B : Below A₀ base outer h₀) (F : Fr h₀ L s.heap (frE k ta la (frL wl sg du m)))
    (N : News h₀ L s.heap ((la, lo) :: ledL wl cl sg du vs kk c0)) (fx : LFix wl cl sg du vs ns) (ok0 : LOk w wl sg du c0 10)
    (hlo : lo.IsDictOf (PySem.intKind PySem.Challenge.rw_on0362_01.row.prog w) kvsL) (hla : (la == sysModules) = false) (hrel : RelS kvsL (listedF (textAt k)))
    (X : (hd.heap_39 w.params).In h₀) (T : Top view (looseW view [Str.ofString "UniError"]) mean mg mb h₀)
    (hA : A = ⟨none, d, some (lawEnv L fa cd :: outer), some gs, u⟩) (hroom : d < 800) (hu : u < 8000)
    (hE : PassesOwn (model PySem.Challenge.rw_on0362_01.row.prog w) A (lawEnv L fa cd) E)
    (hC : ∀ h' tk m', Fr h₀ L h' (frL wl sg du m') → News h₀ L h' (ledL wl cl sg du vs kk c0) →
      Q .next { s with heap := h', toks := tk }) :
    wpAny (model PySem.Challenge.rw_on0362_01.row.prog w) A (exec (lawSt1 7) (lawEnv L fa cd)) Q E s := by
  subst hA
  refine eta_for hE ?_
  clear hE
  intro hE
  have fx0 := fx
  have ok := ok0
  obtain ⟨fhi, fhlen, fhns, fn1, fn2, fn3, fn4, fn5, fn6, fms, fmd⟩ := fx
  obtain ⟨sp, st, t1, t2, o1, o2, kvs1, kvs2, tail⟩ := c0
  obtain ⟨sp0, sp1, st0, st1, tw, tsg, tdu, d1, d2, oks, len1, len2⟩ := ok
  dsimp only at sp0 sp1 st0 st1 tw tsg tdu d1 d2 oks len1 len2
  dsimp only [ledL] at N
  try dsimp only [frE] at F
  k_steps
  refine StopG.out ?_
  rename Fr _ _ _ _ => F1
  rename News _ _ _ _ => N1
  rename IntsAre _ _ => hi
  rename List.Perm _ _ => hp
  exact loop3 hk B F1 N1 fx0 ok0 hi hp hlo hla hrel X T rfl hroom hu hC
end

end
section
theorem flushW5 {M : Model} {A : Around} {env : Env} {Q : Flow → Shared → Prop} {E : Value → Shared → Prop} {s : Shared} (h : wpAny M A (execs [] env) Q E s) : wpAny M A (execs [] env) Q E s := by
  first | (walk1; fail "flush") | exact h
theorem fillW5 (P : Params) : PySem.Challenge.rw_on0362_01.prog = PySem.Challenge.rw_on0362_01.prog ∧ hd.heap_39 P = hd.heap_39 P := by
  k_fill
  exact ⟨rfl, rfl⟩

theorem five {v : Int} (h0 : 0 ≤ v) (h1 : v < 5) : v = 0 ∨ v = 1 ∨ v = 2 ∨ v = 3 ∨ v = 4 := by omega
local macro_rules | `(tactic| walk_at "exec For") => `(tactic| (refine StopG.mk ?_))
local macro_rules | `(tactic| walk_at "call ref") => `(tactic| (refine StopG.mk ?_))
local macro_rules | `(tactic| walk_at "call ref") => `(tactic| (
  k_here
  refine' draw2 ?k1 ?k2 ?k3 ?k4 ?k5 ?k6 ?k7 rfl ?k8 ?k9 ?k10 ?k11 ?k12 ?k13 ?k14 ?k15 ?k16 ?k17 ?k18 ?_
  case k1 | k2 | k3 => k_asm
  case k4 => k_updF
  case k5 => k_dflt k_mem
  case k6 | k7 => k_asm
  case k8 | k9 => with_unfolding_all rfl
  case k10 | k11 => (first | omega | (simp only [Around.deeper, Around.in1, Around.mark, cLine] <;> omega))
  case k12 | k13 | k14 => assumption
  case k15 | k16 => omega
  case k17 => (first | omega | (simp only [List.size_toArray]; omega))
  case k18 => assumption
  k_whole
  intro h' tk' v' st' t' t1' t2' hv0' hv1' hst0' hst1' F' N'
  (try dsimp only at N')
  rcases five hv0' hv1' with q1' | q1' | q1' | q1' | q1' <;> subst q1'))
local macro_rules | `(tactic| walk_at "call ref") => `(tactic| (
  k_here
  k_dflt (refine' lw1 ?k1 ?k2 ?k3 ?k6 ?k7 ?k8 ?k9 rfl ?k10 ?k11  ?_)
  case k1 | k2 | k3 | k6 | k7 => k_asm
  case k8 | k9 => with_unfolding_all rfl
  case k10 | k11 => (first | omega | (simp only [Around.deeper, Around.in1, Around.mark, cLine] <;> omega))
  k_whole
  intro h' tk' x' t' q' F' N'
  subst q'))
local macro_rules | `(tactic| walk_at "call ref") => `(tactic| (
  k_here
  k_dflt (refine' bw1 ?k1 ?k2 ?k3 ?k6 ?k7 ?k8 ?k9 rfl ?k10 ?k11  ?_)
  case k1 | k2 | k3 | k6 | k7 => k_asm
  case k8 | k9 => with_unfolding_all rfl
  case k10 | k11 => (first | omega | (simp only [Around.deeper, Around.in1, Around.mark, cLine] <;> omega))
  k_whole
  intro h' tk' x' x1' x2' x3' x4' t1' t2' t3' t4' hx' q1' q2' q3' q4' F' N'
  subst q1' q2' q3' q4'
  (try k_lt hx')))
local macro_rules | `(tactic| walk_at "call ref") => `(tactic| (
  k_here
  k_dflt (refine' listed1 ?k1 ?k2 ?k3 ?k6 ?k7 ?k8 ?k9 rfl ?k10 ?k11 ?e0 ?e1 ?e2 ?_)
  case k1 | k2 | k3 | k6 | k7 => k_asm
  case k8 | k9 => with_unfolding_all rfl
  case k10 | k11 => (first | omega | (simp only [Around.deeper, Around.in1, Around.mark, cLine] <;> omega))
  case e0 => exact (goodWsB_ok (textAt_good _ (by decide)).1).len
  case e1 => exact (goodWsB_ok (textAt_good _ (by decide)).1).num
  case e2 => exact (goodWsB_ok (textAt_good _ (by decide)).1).rows
  k_whole
  intro h' tk' x' o' kvs' hne' hmod' hd' hrel' F' N'))
section
variable {w : World} {A A₀ : Around} {d u : Nat} {gs : List Code} {base h₀ : Heap} {outer : List Env} {env : Env} {mg mb : Str → Option Value} {mean : ExcName → Option Value}
    {L : Addr} {m : Str → Option Value} {news : List (Addr × Obj)} {s : Shared} {Q : Flow → Shared → Prop} {E : Value → Shared → Prop}
theorem segD_end {fa : Addr} {cd : Value} {wl cl sg du la : Addr} {vs : List Value} {kk : Nat} {ns : List Int} {sp st sp' st' : Int} {t1 t2 t1' t2' : Tok} {o1 o2 : Obj} {kvs1 kvs2 : List (Int × Value)} {tail led : List (Addr × Obj)} {lo : Obj} {kvsL : List (Int × Value)} {k : Nat} {ta : Tok}
    (hk : k < 5) (B : Below A₀ base outer h₀) (F : Fr h₀ L s.heap (frE k ta la (frL wl sg du m)))
    (N : News h₀ L s.heap led) (ml : (la, lo) ∈ led) (mw : (wl, wellO cl sp' st' t1' t2') ∈ led) (mc : (cl, PySem.W.listOf vs.toArray kk) ∈ led) (ms : (sg, o1) ∈ led) (md : (du, o2) ∈ led) (mt : ∀ p ∈ tail, p ∈ led)
    (fx : LFix wl cl sg du vs ns) (ok0 : LOk w wl sg du ⟨sp, st, t1, t2, o1, o2, kvs1, kvs2, tail⟩ 9) (pos0 : 1 ≤ kvs1.length) (hsp : sp' = sp + 1) (hst : 0 ≤ st' ∧ st' < 2147483647)
    (hlo : lo.IsDictOf (PySem.intKind PySem.Challenge.rw_on0362_01.row.prog w) kvsL) (hla : (la == sysModules) = false) (hrel : RelS kvsL (listedF (textAt k)))
    (X : (hd.heap_39 w.params).In h₀) (T : Top view (looseW view [Str.ofString "UniError"]) mean mg mb h₀)
    (hA : A = ⟨none, d, some (lawEnv L fa cd :: outer), some gs, u⟩) (hroom : d < 800) (hu : u < 8000)
    (hE : PassesOwn (model PySem.Challenge.rw_on0362_01.row.prog w) A (lawEnv L fa cd) E)
    (hC : ∀ h' tk m' c, LOk w wl sg du c 10 → 1 ≤ c.kvs1.length → Fr h₀ L h' (frL wl sg du m') → News h₀ L h' (ledL wl cl sg du vs kk c) → Q .next { s with heap := h', toks := tk }) :
    wpAny (model PySem.Challenge.rw_on0362_01.row.prog w) A (exec (lawSt1 7) (lawEnv L fa cd)) Q E s := by
  have ok' : LOk w wl sg du ⟨sp', st', t1', t2', o1, o2, kvs1, kvs2, tail⟩ 10 := by
    obtain ⟨q1, q2, q3, q4, tw, tsg, tdu, d1, d2, oks, len1, len2⟩ := ok0
    dsimp only at q1 q2
    constructor
    case sp0 => dsimp only; omega
    case sp1 => dsimp only; omega
    case st0 => exact hst.1
    case st1 => exact hst.2
    case tw => exact tw
    case tsg => exact tsg
    case tdu => exact tdu
    case d1 => exact d1
    case d2 => exact d2
    case ok => exact oks
    case len1 => exact Nat.le_succ_of_le len1
    case len2 => exact Nat.le_succ_of_le len2
  refine segE (kk := kk) hk B F ?_ fx ok' hlo hla hrel X T hA hroom hu hE ?_
  · intro p hp
    refine N p ?_
    rcases List.mem_cons.mp hp with rfl | hp
    · exact ml
    rcases List.mem_cons.mp hp with rfl | hp
    · exact mw
    rcases List.mem_cons.mp hp with rfl | hp
    · exact mc
    rcases List.mem_cons.mp hp with rfl | hp
    · exact ms
    rcases List.mem_cons.mp hp with rfl | hp
    · exact md
    exact mt _ hp
  · intro h' tk m' F' N'
    exact hC h' tk m' _ ok' pos0 F' N'
theorem segD {fa : Addr} {cd : Value} {wl cl sg du : Addr} {vs : List Value} {kk : Nat} {ns : List Int} {c0 : LSt}
    (B : Below A₀ base outer h₀) (F : Fr h₀ L s.heap (frL wl sg du m))
    (N : News h₀ L s.heap (ledL wl cl sg du vs kk c0)) (fx : LFix wl cl sg du vs ns) (ok0 : LOk w wl sg du c0 9) (pos0 : 1 ≤ c0.kvs1.length)
    (X : (hd.heap_39 w.params).In h₀) (T : Top view (looseW view [Str.ofString "UniError"]) mean mg mb h₀)
    (hA : A = ⟨none, d, some (lawEnv L fa cd :: outer), some gs, u⟩) (hroom : d < 800) (hu : u < 8000)
    (hE : PassesOwn (model PySem.Challenge.rw_on0362_01.row.prog w) A (lawEnv L fa cd) E)
    (hC : ∀ h' tk m' c, LOk w wl sg du c 10 → 1 ≤ c.kvs1.length → Fr h₀ L h' (frL wl sg du m') → News h₀ L h' (ledL wl cl sg du vs kk c) →
      wpAny (model PySem.Challenge.rw_on0362_01.row.prog w) A (execs (lawBody.drop 8) (lawEnv L fa cd)) Q E { s with heap := h', toks := tk }) :
    wpAny (model PySem.Challenge.rw_on0362_01.row.prog w) A (execs (lawBody.drop 4) (lawEnv L fa cd)) Q E s := by
  subst hA
  have hE0 : Hid (PassesOwn (model PySem.Challenge.rw_on0362_01.row.prog w) ⟨none, d, some (lawEnv L fa cd :: outer), some gs, u⟩ (lawEnv L fa cd) E) := ⟨hE⟩
  clear hE
  refine eta_env ?_
  refine eta_cons ?_
  obtain ⟨sp, st, t1, t2, o1, o2, kvs1, kvs2, tail⟩ := c0
  have ok := ok0
  have fx0 := fx
  obtain ⟨sp0, sp1, st0, st1, tw, tsg, tdu, d1, d2, oks, len1, len2⟩ := ok
  obtain ⟨fhi, fhlen, fhns, fn1, fn2, fn3, fn4, fn5, fn6, fms, fmd⟩ := fx
  dsimp only at sp0 sp1 st0 st1 tw tsg tdu d1 d2 oks len1 len2 pos0
  dsimp only [ledL] at N
  k_steps
  all_goals refine StopG.out ?_
  all_goals rename Fr _ _ _ _ => F1
  all_goals rename News _ _ _ _ => N1
  all_goals rename RelS _ _ => hrel
  all_goals rename Obj.IsDictOf _ _ _ => hlo
  all_goals rename (_ == sysModules) = false => hmod
  · exact segD_end (k := 0) (by decide) B F1 N1 (by k_mem) (by k_mem) (by k_mem) (by k_mem) (by k_mem) (by intro p hp; repeat (first | exact hp | refine .tail _ ?_)) fx0 ok0 pos0 rfl (by constructor <;> assumption) hlo hmod hrel X T rfl hroom hu hE0.out hC
  · exact segD_end (k := 1) (by decide) B F1 N1 (by k_mem) (by k_mem) (by k_mem) (by k_mem) (by k_mem) (by intro p hp; repeat (first | exact hp | refine .tail _ ?_)) fx0 ok0 pos0 rfl (by constructor <;> assumption) hlo hmod hrel X T rfl hroom hu hE0.out hC
  · exact segD_end (k := 2) (by decide) B F1 N1 (by k_mem) (by k_mem) (by k_mem) (by k_mem) (by k_mem) (by intro p hp; repeat (first | exact hp | refine .tail _ ?_)) fx0 ok0 pos0 rfl (by constructor <;> assumption) hlo hmod hrel X T rfl hroom hu hE0.out hC
  · exact segD_end (k := 3) (by decide) B F1 N1 (by k_mem) (by k_mem) (by k_mem) (by k_mem) (by k_mem) (by intro p hp; repeat (first | exact hp | refine .tail _ ?_)) fx0 ok0 pos0 rfl (by constructor <;> assumption) hlo hmod hrel X T rfl hroom hu hE0.out hC
  · exact segD_end (k := 4) (by decide) B F1 N1 (by k_mem) (by k_mem) (by k_mem) (by k_mem) (by k_mem) (by intro p hp; repeat (first | exact hp | refine .tail _ ?_)) fx0 ok0 pos0 rfl (by constructor <;> assumption) hlo hmod hrel X T rfl hroom hu hE0.out hC
end

end
section
theorem flushW6 {M : Model} {A : Around} {env : Env} {Q : Flow → Shared → Prop} {E : Value → Shared → Prop} {s : Shared} (h : wpAny M A (execs [] env) Q E s) : wpAny M A (execs [] env) Q E s := by
  first | (walk1; fail "flush") | exact h
theorem fillW6 (P : Params) : PySem.Challenge.rw_on0362_01.prog = PySem.Challenge.rw_on0362_01.prog ∧ hd.heap_39 P = hd.heap_39 P := by
  k_fill
  exact ⟨rfl, rfl⟩

section
variable {prog : Program} {w : World} {A : Around} {h₀ : Heap} {L : Addr} {m : Str → Option Value} {news : List (Addr × Obj)} {s : Shared} {Q : Value → Shared → Prop} {E : Value → Shared → Prop}
theorem item_sorted {value slice : Expr} {D : Addr} {vs' : List Value} {ns' : List Int} {e : Nat} {kvs : List (Int × Value)} {v : Int} {tv : Tok} (N : News h₀ L s.heap news) (mD : (D, PySem.W.listOf (List.toArray vs') e) ∈ news) (hi : IntsAre vs' ns') (hp : ns'.Perm (kvs.map (·.1)))
    (h0 : 0 ≤ v) (h1 : v < (kvs.length : Int)) (hl : kvs.length < 1000) (h : ∀ c t, c ∈ kvs.map (·.1) → Q (.int c t) s)
    (hs : subscripted slice false (.ref D) (.int v tv) = operate [.ref D, .int v tv] (getItem (.ref D) (.int v tv))) :
    wpAny (model prog w) A (subscriptTail value slice (.ref D) (.int v tv)) Q E s := by
  have e1 : ns'.length = kvs.length := by rw [hp.length_eq, List.length_map]
  have e2 := hi.length
  have hlt : v.toNat < ns'.length := by omega
  obtain ⟨t, hx⟩ := hi.get v.toNat ns'[v.toNat] (by simp [hlt])
  exact tail_any (News.isList N mD).typeIs slot_list_getitem.lookup (wpAny_getItem_list (News.isList N mD) h0 (by omega) (by simpa using hx) (h _ _ (hp.mem_iff.mp (List.getElem_mem hlt)))) hs
theorem mul5 {l : Addr} {v : Value} {k : Nat} {u : Tok} (F : Fr h₀ L s.heap m) (N : News h₀ L s.heap news) (ml : (l, PySem.W.listOf #[v] k) ∈ news)
    (h : ∀ D h', Fr h₀ L h' m → News h₀ L h' ((D, PySem.W.listOf #[v, v, v, v, v] 0) :: news) → (∀ p ∈ news, p.1 < D) → Q (.ref D) { s with heap := h' }) : wpAny (model prog w) A (binaryOp .Mult (.ref l) (.int 5 u)) Q E s :=
  mul_list F N (N _ ml).1 (by decide) (by decide) (by show 1 * 5 ≤ 16777216; decide) fun h' F' N' => h _ h' F' N' (fun p hp => Heap.lt_size (N p hp).1)
end
theorem rel_cons {kvs : List (Int × Value)} {a : Int} {r : Str} {pk : List (Int × Str)} (h : RelS kvs ((a, r) :: pk)) : ∃ t kvs', kvs = (a, .str r t) :: kvs' ∧ RelS kvs' pk := by
  obtain ⟨h1, h2⟩ := h
  cases kvs with
  | nil => cases h2
  | cons p kvs' =>
    obtain ⟨b, v⟩ := p
    obtain ⟨r', t, hv⟩ := h1 _ (.head _)
    dsimp only at hv
    subst hv
    rw [List.map_cons] at h2
    injection h2 with h3 h4
    injection h3 with h5 h6
    subst h5
    have : r' = r := h6
    subst this
    exact ⟨t, kvs', rfl, fun q hq => h1 q (.tail _ hq), h4⟩
theorem rel_nil {kvs : List (Int × Value)} (h : RelS kvs []) : kvs = [] := List.map_eq_nil_iff.mp h.2
theorem rel5 {kvs : List (Int × Value)} {pk : List (Int × Str)} {a1 a2 a3 a4 a5 : Int} {s1 s2 s3 s4 s5 : Str} (h : RelS kvs pk) (e : pk = [(a1, s1), (a2, s2), (a3, s3), (a4, s4), (a5, s5)]) :
    ∃ t1 t2 t3 t4 t5, kvs = [(a1, .str s1 t1), (a2, .str s2 t2), (a3, .str s3 t3), (a4, .str s4 t4), (a5, .str s5 t5)] := by
  subst e
  obtain ⟨t1, k1, e1, h1⟩ := rel_cons h
  obtain ⟨t2, k2, e2, h2⟩ := rel_cons h1
  obtain ⟨t3, k3, e3, h3⟩ := rel_cons h2
  obtain ⟨t4, k4, e4, h4⟩ := rel_cons h3
  obtain ⟨t5, k5, e5, h5⟩ := rel_cons h4
  have e6 := rel_nil h5
  subst e6 e5 e4 e3 e2 e1
  exact ⟨t1, t2, t3, t4, t5, rfl⟩
theorem relOne {c : Int} {r : Str} {t : Tok} : RelS [(c, .str r t)] [(c, r)] := ⟨fun p hp => by rw [List.mem_singleton.mp hp]; exact ⟨r, t, rfl⟩, rfl⟩
theorem lookOne {c : Int} {r : Str} {x : Str} : (lookS [(c, r)] c).getD x = r := by simp [lookS]
theorem SgnsOK.at {w : World} {tail : List (Addr × Obj)} {kvs1 kvs2 : List (Int × Value)} {c : Int} {v : Value} (h : SgnsOK w tail kvs1 kvs2) (hv : valueAt kvs1 c = some v) : SgnAt w tail kvs2 c v := h c v hv
local macro_rules | `(tactic| walk_at "call ref") => `(tactic| (refine StopG.mk ?_))
local macro_rules | `(tactic| walk_at "call builtin:sorted") => `(tactic| (
  k_here
  refine' dsorted ?h ?F ?N ?m ?d ?lo ?z ?_
  case h => rfl
  case F | N => k_asm
  case m => k_dflt k_mem
  case d => k_asm
  case lo => assumption
  case z => omega
  k_whole
  intro D' h' tk' vs' ns' e' F' N' l1 hi' hp' hs'
  (try k_lt l1)))
local macro_rules | `(tactic| walk_at "call builtin:len") => `(tactic| (
  k_here
  (with_reducible show wpAny _ _ (call (Value.builtin "len") [Value.ref _]) _ _ _)
  k_dflt (refine' kda_len (knd := PySem.intKind _ _) ?N ?m ?d ?lo ?z ?_)
  case N => k_asm
  case m => k_dflt k_mem
  case d => k_asm
  case lo => assumption
  case z => omega
  k_whole))
local macro_rules | `(tactic| walk_at "subscriptTail") => `(tactic| (
  k_here
  (with_reducible show wpAny _ _ (subscriptTail _ _ (Value.ref _) (Value.int _ _)) _ _ _)
  first
  | (k_dflt (refine' item_sorted ?N ?m ?i ?p ?v0 ?v1 ?l ?_ ?s)
     case N => k_asm
     case m => k_dflt k_mem
     case i => assumption
     case p => assumption
     case v0 => omega
     case v1 => omega
     case l => omega
     case s => with_unfolding_all rfl
     intro c' tc' hc'
     obtain ⟨v1', hv1'⟩ := keys_some hc'
     obtain ⟨x', dx', kt', vt', gc', sc', nm', bc', tag', pa', td', dd', tt', q', mX', mD', hv2', mT', hgood'⟩ := SgnsOK.at (by assumption) hv1'
     subst q'
     obtain ⟨hg', htag', hkd'⟩ := hgood')
  | (refine' kda_item (knd := PySem.intKind _ _) ?k1 ?k2 ?k3 ?k4 ?k5 ?_; (case k1 => k_asm); (case k2 => k_dflt k_mem); (case k3 => k_asm); (case k4 => exact intKind_is _ _ _ _); (case k5 => assumption); k_whole)))
local macro_rules | `(tactic| walk_at "getItem ref int") => `(tactic| (k_here; refine' kdt_getItem (knd := PySem.intKind _ _) ?k1 ?k2 ?k3 ?k4 ?k5 ?_; (case k1 => k_asm); (case k2 => k_dflt k_mem); (case k3 => k_asm); (case k4 => exact intKind_is _ _ _ _); (case k5 => assumption); k_whole))
local macro_rules | `(tactic| walk_at "call ref") => `(tactic| (
  k_here
  (with_reducible show wpAny _ _ (call _ [Value.str (_ ++ Str.ofString "RR" ++ _) _]) _ _ _)
  k_dflt (refine' listed1 ?k1 ?k2 ?k3 ?k6 ?k7 ?k8 ?k9 rfl ?k10 ?k11 ?e0 ?e1 ?e2 ?_)
  case k1 | k2 | k3 | k6 | k7 => k_asm
  case k8 | k9 => with_unfolding_all rfl
  case k10 | k11 => (first | omega | (simp only [Around.deeper, Around.in1, Around.mark, cLine] <;> omega))
  case e0 => exact (goodWsB_ok (by decide +kernel)).len
  case e1 => exact (goodWsB_ok (by decide +kernel)).num
  case e2 => exact (goodWsB_ok (by decide +kernel)).rows
  k_whole
  intro h' tk' x' o' kvs' hne' hmod' hd' hrel' F' N'
  rw [listedE_eq] at hrel'
  obtain ⟨u1', u2', u3', u4', u5', q'⟩ := rel5 hrel' (show _ = [(1, S "QQ"), (2, S "QQ"), (3, S "QQ"), (1114111, S "QQ"), (5, S "RR")] from by decide +kernel)
  subst q'
  clear hrel'))
local macro_rules | `(tactic| walk_at "call ref") => `(tactic| (
  k_here
  (with_reducible show wpAny _ _ (call _ [Value.str (_ ++ Str.ofString "Other" ++ _) _]) _ _ _)
  k_dflt (refine' listed1 ?k1 ?k2 ?k3 ?k6 ?k7 ?k8 ?k9 rfl ?k10 ?k11 ?e0 ?e1 ?e2 ?_)
  case k1 | k2 | k3 | k6 | k7 => k_asm
  case k8 | k9 => with_unfolding_all rfl
  case k10 | k11 => (first | omega | (simp only [Around.deeper, Around.in1, Around.mark, cLine] <;> omega))
  case e0 => exact (goodWsB_ok (by decide +kernel)).len
  case e1 => exact (goodWsB_ok (by decide +kernel)).num
  case e2 => exact (goodWsB_ok (by decide +kernel)).rows
  k_whole
  intro h' tk' x' o' kvs' hne' hmod' hd' hrel' F' N'
  rw [listedE_eq] at hrel'
  obtain ⟨u1', u2', u3', u4', u5', q'⟩ := rel5 hrel' (show _ = [(1, S "QQ"), (2, S "QQ"), (3, S "QQ"), (1114111, S "QQ"), (5, S "Other")] from by decide +kernel)
  subst q'
  clear hrel'))
local macro_rules | `(tactic| walk_at "binaryOp Mult ref int") => `(tactic| (
  k_here
  k_dflt (refine' mul5 ?F ?N ?m ?_)
  case F | N => k_asm
  case m => k_dflt k_mem
  intro D' h' F' N' l1
  (try k_lt l1)))
local macro_rules | `(tactic| walk_at "eval Dict") => `(tactic| (
  k_here
  (with_reducible show wpAny _ _ (eval (Expr.Dict [some (Expr.Name _ _)] _ _) _) _ _ _)
  k_dflt (refine' kdn_eval (knd := PySem.intKind _ _) ?F ?N ?b ?a ?l ?e ?n ?_)
  case F | N => k_asm
  case b => exact Top.nolimit (by k_asm)
  case a | l => rfl
  case e => exact List.cons_ne_nil _ _
  case n => exact Nat.le_of_ble_eq_true rfl
  intro d' h' o' F' N' l1 lo' hd'
  (try k_lt l1)))
local macro_rules | `(tactic| walk_at "KdnMade") => `(tactic| (
  k_here
  k_dflt (refine' kdn_made_int ?F ?N ?U ?d ?k ?n ?_)
  case F | N => k_asm
  case U => k_updF
  case d => k_asm
  case k => rfl
  case n => simp [intKeyPairs]
  intro h' o' F' N' hd'
  (try dsimp only at N')
  (try simp only [intKeyPairs] at hd')))
local macro_rules | `(tactic| walk_at "call ref") => `(tactic| (
  k_here
  k_dflt (first | refine' ask1 (k := 0) ?k0 ?k1 ?k2 ?k3 ?k6 ?k7 ?k8 ?k9 rfl ?k10 ?k11 ?mX ?mD ?mL ?k12 ?k13 ?k14 ?k15 ?k16 ?_ | refine' ask1 (k := 1) ?k0 ?k1 ?k2 ?k3 ?k6 ?k7 ?k8 ?k9 rfl ?k10 ?k11 ?mX ?mD ?mL ?k12 ?k13 ?k14 ?k15 ?k16 ?_ | refine' ask1 (k := 2) ?k0 ?k1 ?k2 ?k3 ?k6 ?k7 ?k8 ?k9 rfl ?k10 ?k11 ?mX ?mD ?mL ?k12 ?k13 ?k14 ?k15 ?k16 ?_ | refine' ask1 (k := 3) ?k0 ?k1 ?k2 ?k3 ?k6 ?k7 ?k8 ?k9 rfl ?k10 ?k11 ?mX ?mD ?mL ?k12 ?k13 ?k14 ?k15 ?k16 ?_ | refine' ask1 (k := 4) ?k0 ?k1 ?k2 ?k3 ?k6 ?k7 ?k8 ?k9 rfl ?k10 ?k11 ?mX ?mD ?mL ?k12 ?k13 ?k14 ?k15 ?k16 ?_)
  case k0 => decide
  case k1 | k2 | k3 => k_asm
  case mX | mD => k_dflt (repeat (first | assumption | refine List.Mem.tail _ ?_))
  case mL => k_dflt k_mem
  case k6 | k7 => k_asm
  case k8 | k9 => with_unfolding_all rfl
  case k10 | k11 => (first | omega | (simp only [Around.deeper, Around.in1, Around.mark, cLine] <;> omega))
  case k12 | k13 => assumption
  case k14 => k_dflt (exact relOne)
  case k15 | k16 => assumption
  k_whole
  intro r' t' h' tk' hr' F' N'
  rw [lookOne] at hr'
  subst hr'))
local macro_rules | `(tactic| walk_at "call ref") => `(tactic| (
  k_here
  refine' draw2 ?k1 ?k2 ?k3 ?k4 ?k5 ?k6 ?k7 rfl ?k8 ?k9 ?k10 ?k11 ?k12 ?k13 ?k14 ?k15 ?k16 ?k17 ?k18 ?_
  case k1 | k2 | k3 => k_asm
  case k4 => k_updF
  case k5 => k_dflt k_mem
  case k6 | k7 => k_asm
  case k8 | k9 => with_unfolding_all rfl
  case k10 | k11 => (first | omega | (simp only [Around.deeper, Around.in1, Around.mark, cLine] <;> omega))
  case k12 | k13 | k14 => assumption
  case k15 | k16 => omega
  case k17 => (first | omega | (simp only [List.size_toArray]; omega))
  case k18 => assumption
  k_whole
  intro h' tk' v' st' t' t1' t2' hv0' hv1' hst0' hst1' F' N'
  try dsimp only at N'))
local macro_rules | `(tactic| walk_at "call ref") => `(tactic| (
  k_here
  refine' pick_N2 ?k1 ?k2 ?k3 ?k4 ?k5 ?k6 ?k7 rfl ?k8 ?k9 ?k10 ?k11 ?k12 ?k13 ?k14 ?k15 ?k16 ?k17 ?k18 ?k19 ?_
  case k1 | k2 | k3 => k_asm
  case k18 => k_dflt k_mem
  case k4 => k_updF
  case k5 => k_dflt k_mem
  case k6 | k7 => k_asm
  case k8 | k9 => with_unfolding_all rfl
  case k10 | k11 => (first | omega | (simp only [Around.deeper, Around.in1, Around.mark, cLine] <;> omega))
  case k12 | k13 | k14 => assumption
  case k15 | k16 => omega
  case k17 => assumption
  case k19 => (simp only [List.length_cons, List.length_nil]; omega)
  k_whole
  intro h' tk' v' st' t1' t2' hmem' hst0' hst1' F' N'
  (try dsimp only at N')
  simp only [List.mem_cons, List.not_mem_nil, or_false] at hmem'
  rcases hmem' with q1' | q1' <;> subst q1'))
section
variable {w : World} {A A₀ : Around} {d u : Nat} {gs : List Code} {base h₀ : Heap} {outer : List Env} {env : Env} {mg mb : Str → Option Value} {mean : ExcName → Option Value}
    {L : Addr} {m : Str → Option Value} {news : List (Addr × Obj)} {s : Shared} {Q : Flow → Shared → Prop} {E : Value → Shared → Prop}
theorem segF {fa : Addr} {cd : Value} {wl cl sg du : Addr} {vs : List Value} {kk : Nat} {ns : List Int} {c0 : LSt}
    (B : Below A₀ base outer h₀) (F : Fr h₀ L s.heap (frL wl sg du m))
    (N : News h₀ L s.heap (ledL wl cl sg du vs kk c0)) (fx : LFix wl cl sg du vs ns) (ok0 : LOk w wl sg du c0 10) (pos0 : 1 ≤ c0.kvs1.length)
    (X : (hd.heap_39 w.params).In h₀) (T : Top view (looseW view [Str.ofString "UniError"]) mean mg mb h₀)
    (hA : A = ⟨none, d, some (lawEnv L fa cd :: outer), some gs, u⟩) (hroom : d < 800) (hu : u < 8000)
    (hQ : ∀ h' tk m' news', Fr h₀ L h' m' → News h₀ L h' news' → Q (.ret (.bool true)) { s with heap := h', toks := tk }) :
    wpAny (model PySem.Challenge.rw_on0362_01.row.prog w) A (execs (lawBody.drop 8) (lawEnv L fa cd)) Q E s := by
  subst hA
  refine eta_env ?_
  refine eta_cons ?_
  obtain ⟨sp, st, t1, t2, o1, o2, kvs1, kvs2, tail⟩ := c0
  obtain ⟨sp0, sp1, st0, st1, tw, tsg, tdu, d1, d2, oks, len1, len2⟩ := ok0
  obtain ⟨fhi, fhlen, fhns, fn1, fn2, fn3, fn4, fn5, fn6, fms, fmd⟩ := fx
  dsimp only at sp0 sp1 st0 st1 tw tsg tdu d1 d2 oks len1 len2 pos0
  dsimp only [ledL] at N
  k_steps
  all_goals rename Fr _ _ _ _ => F1
  all_goals rename News _ _ _ _ => N1
  all_goals exact hQ _ _ _ _ F1 N1
end

end
section
theorem flushW7 {M : Model} {A : Around} {env : Env} {Q : Flow → Shared → Prop} {E : Value → Shared → Prop} {s : Shared} (h : wpAny M A (execs [] env) Q E s) : wpAny M A (execs [] env) Q E s := by
  first | (walk1; fail "flush") | exact h
theorem fillW7 (P : Params) : PySem.Challenge.rw_on0362_01.prog = PySem.Challenge.rw_on0362_01.prog ∧ hd.heap_39 P = hd.heap_39 P := by
  k_fill
  exact ⟨rfl, rfl⟩
noncomputable def W1P (g : Heap) (L : Addr) (m : Str → Option Value) (s : Shared) (f : Flow) (s' : Shared) : Prop :=
  f = .next ∧ ∃ h' tk wl cl vs kk ns t1 t2 news, s' = { s with heap := h', toks := tk } ∧ Fr g L h' (fun y => if y = Str.ofString "well" then some (.ref wl) else m y) ∧ News g L h' ((wl, wellO cl 0 1157 t1 t2) :: (cl, PySem.W.listOf vs.toArray kk) :: news) ∧
    IntsAre vs ns ∧ ns.length ≤ 63 ∧ (∀ n ∈ ns, 0 ≤ n ∧ n < 2147483647) ∧ (@Ne Nat wl cl) ∧ (∀ p ∈ news, p.1 ≠ wl)
theorem seqW1 {M : Model} {A : Around} {st : Stmt} {rest : List Stmt} {env : Env} {g h : Heap} {L : Addr} {m : Str → Option Value} {Q : Flow → Shared → Prop} {E : Value → Shared → Prop} {s : Shared} (F : Fr g L h m)
    (ha : wpAny M A (exec st env) (W1P g L m s) E s)
    (hb : ∀ h' tk wl cl vs kk ns t1 t2 news, Fr g L h' (fun y => if y = Str.ofString "well" then some (.ref wl) else m y) → News g L h' ((wl, wellO cl 0 1157 t1 t2) :: (cl, PySem.W.listOf vs.toArray kk) :: news) →
      IntsAre vs ns → ns.length ≤ 63 → (∀ n ∈ ns, 0 ≤ n ∧ n < 2147483647) → (@Ne Nat wl cl) → (∀ p ∈ news, p.1 ≠ wl) → wpAny M A (execs rest env) Q E { s with heap := h', toks := tk }) : wpAny M A (execs (st :: rest) env) Q E s := by
  refine wpAny_execs_cons (wpAny_mono ha ?_ (fun _ _ e => e))
  rintro f s' ⟨rfl, h', tk, wl, cl, vs, kk, ns, t1, t2, news, rfl, F', N', hi, hlen, hns, hne, hwn⟩
  exact hb h' tk wl cl vs kk ns t1 t2 news F' N' hi hlen hns hne hwn
theorem main : PySem.Challenge.rw_on0362_01.Holds := hd (by
  k_go0
  rename Fr _ _ _ _ => F0
  rename Below _ _ _ _ => K0
  rename Frag.In _ _ => KX
  rename Top _ _ _ _ _ _ => T
  refine seqW1 F0 ?_ ?_
  · k_steps
    rename Fr _ _ _ _ => F1
    rename News _ _ _ _ => N1
    rename IntsAre _ (List.map _ _) => hi
    rename @Ne Nat _ _ => hne1
    rename _ ∧ _ < _ => hlt
    refine ⟨rfl, _, _, _, _, _, _, _, _, _, _, rfl, F1, N1, hi, ?_, ?_, ?_, ?_⟩
    · simp only [List.length_map, List.length_take]; omega
    · intro n hn
      obtain ⟨k, _, rfl⟩ := List.mem_map.mp hn
      rw [Int.fmod_eq_emod_of_nonneg _ (by decide)]
      exact ⟨Int.emod_nonneg _ (by decide), Int.emod_lt_of_pos _ (by decide)⟩
    · omega
    · intro p hp
      rw [List.mem_singleton.mp hp]
      exact Nat.ne_of_lt hlt.2
  · intro h' tk wl cl vs kk ns t1 t2 news F' N' hi hlen hns hne hwn
    refine segB K0 F' N' KX T rfl ?_ ?_ hi hlen hns hne hwn ?_ ?_
    · decide
    · decide
    · passes_own
    · intro h' tk m' sg du c fx ok pos F' N'
      refine segC K0 F' N' fx ok pos KX T rfl ?_ ?_ ?_ ?_
      · decide
      · decide
      · passes_own
      · intro h' tk m' c ok pos F' N'
        refine segD K0 F' N' fx ok pos KX T rfl ?_ ?_ ?_ ?_
        · decide
        · decide
        · passes_own
        · intro h' tk m' c ok pos F' N'
          refine segF K0 F' N' fx ok pos KX T rfl ?_ ?_ ?_
          · decide
          · decide
          · intro h' tk m' news' F' N'
            dsimp only
            k_steps)

end
end Mine

theorem PySem.Challenge.cw_on0362_01_holds : PySem.Challenge.rw_on0362_01.Holds :=
  Mine.main
