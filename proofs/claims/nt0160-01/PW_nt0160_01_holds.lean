import PyProof.Rows.All
import Wide.All
import OpenK.AllK
import Wide.FinOn
import PySem.Challenge.RW_nt0160_01
open PySem PySem.W PyProof.Rows PySem.Spec PySem.Calls PyProof.V
set_option Elab.async false
namespace Mine
section
set_option maxRecDepth 100000 in
set_option maxHeartbeats 8000000 in
open_top hd for PySem.Challenge.rw_nt0160_01
end
section
def looksL (k : Int) : List Bool :=
  [k.fmod 8 == 0, k.fmod 8 == 1, k.fmod 8 == 2, k.fmod 8 == 3, if k.fmod 8 = 4 then decide (16 ≤ k.fdiv 8) else k.fmod 8 == 4,
   k.fmod 8 == 5, k.fmod 8 == 6, if k.fmod 8 = 7 then (k.fdiv 8).fmod 2 == 0 else k.fmod 8 == 7, if k.fmod 8 = 7 then (k.fdiv 8).fmod 2 == 1 else k.fmod 8 == 7]
def onlyL (p : Int) : List Bool := (rangeKs 0 9).map fun k => k == p
/-- what a call of a def at f with vs comes to, for every caller that is a plain def called from the outside -/
def Tell (w : World) (loose : List Str) (mean : ExcName → Option Value) (mg mb : Str → Option Value) (f : Addr) (vs : List Value) (news : List (Addr × Obj))
    (Ret : Heap → Addr → (Str → Option Value) → Shared → (Value → Shared → Prop) → Prop) : Prop :=
  ∀ (gd : Option (List Code)) (cn : Str) (nm : List (Str × NameKind)) (ig ic : Bool) (mr : List (Str × Const)) (a : Addr) (ccd : Value) (cl : List (Str × Addr)) (outer : List Env) (A₀ : Around) (base h₀ : Heap) (L : Addr) (m : Str → Option Value) (s : Shared) (Q E : Value → Shared → Prop),
    Below A₀ base outer h₀ → Fr h₀ L s.heap m → (hd.heap_39 w.params).In h₀ → News h₀ L s.heap news → Top hd.view_39 loose mean mg mb h₀ → Ret h₀ L m s Q →
      wpAny (model PySem.Challenge.rw_nt0160_01.row.prog w) (ktrTop 302 7 gd cn { kind := .function, names := nm, isGenerator := ig, isCoroutine := ic, more := mr } L a ccd cl outer) (call (.ref f) vs) Q E s

abbrev RetNew (news : List (Addr × Obj)) (o : Obj → Prop) (h₀ : Heap) (L : Addr) (m : Str → Option Value) (s : Shared) (Q : Value → Shared → Prop) : Prop :=
  ∀ (b : Addr) (ob : Obj) (h' : Heap) (tk' : Nat), Fr h₀ L h' m → News h₀ L h' ((b, ob) :: news) → LCg.Off1 b news → o ob → Q (.ref b) { s with heap := h', toks := tk' }

theorem off1_mem {b : Addr} : ∀ {l : List (Addr × Obj)}, LCg.Off1 b l → ∀ p ∈ l, p.1 ≠ b
  | [], _, _, hp => nomatch hp
  | q :: r, h, p, hp => by
    rcases List.mem_cons.mp hp with e | hp
    · rw [e]; exact h.1
    · exact off1_mem h.2 p hp
theorem off1_of {b : Addr} : ∀ {l : List (Addr × Obj)}, (∀ p ∈ l, p.1 ≠ b) → LCg.Off1 b l
  | [], _ => trivial
  | _ :: _, h => ⟨h _ List.mem_cons_self, off1_of fun p hp => h p (List.mem_cons_of_mem _ hp)⟩
theorem off1_own {b : Addr} {l : List (Addr × Obj)} (h : LCg.Off1 b l) : OwnOff l [b] := fun p hp x hx => by
  rw [List.mem_singleton.mp hx]; exact off1_mem h p hp
theorem off1_lt {b : Addr} : ∀ {l : List (Addr × Obj)}, AllLt b l → LCg.Off1 b l
  | [], _ => trivial
  | _ :: _, h => ⟨Nat.ne_of_lt h.1, off1_lt h.2⟩
section
variable {h₀ h' : Heap} {L b : Addr} {m : Str → Option Value} {news news' : List (Addr × Obj)} {s : Shared} {Q : Value → Shared → Prop} {ob : Obj} {o : Obj → Prop} {tk' : Nat}
theorem ret_new (hret : RetNew news o h₀ L m s Q) (F : Fr h₀ L h' m) (N : News h₀ L h' ((b, ob) :: news')) (hs : ∀ p ∈ news, p ∈ news') (hl : LCg.Off1 b news) (ho : o ob) :
    Q (.ref b) { s with heap := h', toks := tk' } :=
  hret b ob h' tk' F (fun p hp => N p (by
    rcases List.mem_cons.mp hp with e | hp
    · rw [e]; exact List.Mem.head _
    · exact List.Mem.tail _ (hs p hp))) hl ho
end
def TupIn (extra : List (Addr × Obj)) (v : Value) (wp : Int × Int) : Prop :=
  ∃ (a : Addr) (n : Nat) (t u : Tok), v = .ref a ∧ (a, ({ cls := .type "tuple", data := .seq #[.int wp.1 t, .int wp.2 u] n } : Obj)) ∈ extra
def TupsIn (extra : List (Addr × Obj)) : List Value → List (Int × Int) → Prop
  | [], [] => True
  | v :: vs, p :: ps => TupIn extra v p ∧ TupsIn extra vs ps
  | _, _ => False
def madeL (a b c : Int) : List (Int × Int) :=
  [(a * 8 + 0, a), (b * 8 + 1, b), (b * 8 + 2, b), (b * 8 + 3, b), ((16 + b) * 8 + 4, 16 + b), ((c * 16 + b.fmod 16) * 8 + 5, c * 16 + b.fmod 16),
   (b * 8 + 6, b), (2 * b * 8 + 7, 2 * b), ((2 * b.fmod 4 + 1) * 8 + 7, 2 * b.fmod 4 + 1)]
abbrev RetMade (news : List (Addr × Obj)) (a b c : Int) (h₀ : Heap) (L : Addr) (m : Str → Option Value) (s : Shared) (Q : Value → Shared → Prop) : Prop :=
  ∀ (r : Addr) (its : List Value) (k : Nat) (extra : List (Addr × Obj)) (h' : Heap) (tk' : Nat), Fr h₀ L h' m → News h₀ L h' ((r, listOf its.toArray k) :: (extra ++ news)) →
    (∀ q ∈ extra, AllLt q.1 news) → AllLt r news → TupsIn extra its (madeL a b c) → Q (.ref r) { s with heap := h', toks := tk' }
section
variable {h₀ h' : Heap} {L r : Addr} {m : Str → Option Value} {news E : List (Addr × Obj)} {s : Shared} {Q : Value → Shared → Prop} {tk' k : Nat} {a b c : Int} {its : List Value}
theorem ret_made (hret : RetMade news a b c h₀ L m s Q) (extra : List (Addr × Obj)) (hE : E = extra ++ news) (F : Fr h₀ L h' m) (N : News h₀ L h' ((r, listOf its.toArray k) :: E))
    (ho : ∀ q ∈ extra, AllLt q.1 news) (hr : AllLt r news) (hT : TupsIn extra its (madeL a b c)) : Q (.ref r) { s with heap := h', toks := tk' } := by
  subst hE
  exact hret r its k extra h' tk' F N ho hr hT
end
def KbEl (news : List (Addr × Obj)) (r : Bool) (y : Value) (news' : List (Addr × Obj)) : Prop := news' = news ∧ y = .bool r
section
variable {prog : Program} {w : World} {A : Around} {h₀ : Heap} {L : Addr} {m : Str → Option Value} {env : Env} {elt : Expr} {x : Str} {scope : Scope} {cl : List (Str × Addr)} {s : Shared} {S : List (Addr × Obj) → Prop} {P : Nat → Value → Prop} {Fin : List Value → List (Addr × Obj) → Prop} {news : List (Addr × Obj)}
theorem kb_rest {n : Nat} {ks : List Int} (g : Int → Bool) (hks : ks.length = n) (hP : ∀ i v, i < n → P i v → ∃ k t, ks[i]? = some k ∧ v = .int k t)
    (turn : ∀ k t I oI C oC D m₂ ys h tk (E' : Value → Shared → Prop), k ∈ ks → LCg.NsObj oC m₂ → m₂ x = some (.int k t) → Fr h₀ L h m → News h₀ L h ((I, oI) :: (C, oC) :: (D, LCg.lst ys) :: news) → LCg.Off3 I C D news → ((@Ne Nat I C) ∧ (@Ne Nat I D) ∧ (@Ne Nat C D)) →
      wpAny (model prog w) A (eval elt (compEnvC scope cl C env)) (LCg.CompEnd h₀ L m { s with heap := h, toks := tk } I oI C oC D (LCg.lst ys) S (fun y news' => KbEl news (g k) y news')) E' { s with heap := h, toks := tk })
    (fin : Fin (ks.map fun k => Value.bool (g k)) news) : LCg.CompRest prog w A h₀ L m env elt x scope cl s S P Fin n 0 [] news := by
  have key : ∀ (j i : Nat) (ys : List Value), i + j = n → ys = ((ks.take i).map fun k => Value.bool (g k)) → LCg.CompRest prog w A h₀ L m env elt x scope cl s S P Fin j i ys news := by
    intro j
    induction j with
    | zero =>
      intro i ys hi hy
      have e : i = ks.length := by omega
      subst e
      rw [List.take_length] at hy
      exact LCg.CompRest.zero (hy ▸ fin)
    | succ j ih =>
      intro i ys hi hy
      refine LCg.CompRest.succ ?_
      intro v I oI C oC D m₂ h tk E' hv hC hx F N off ne
      obtain ⟨k, t, hk, hv'⟩ := hP i v (by omega) hv
      rw [hv'] at hx
      refine wpAny_mono (turn k t I oI C oC D m₂ ys h tk E' (List.mem_of_getElem? hk) hC hx F N off ne) (fun y s₂ hq => ?_) fun _ _ e => e
      obtain ⟨h', tk', nw, e, F', N', off', hS, hn, hy'⟩ := hq
      rw [hn] at N' off' hS
      refine ⟨h', tk', news, e, F', N', off', hS, ?_⟩
      rw [hy']
      refine ih (i + 1) _ (by omega) ?_
      rw [List.take_add_one, hk, hy]
      simp
  exact key n 0 [] (by omega) (by simp)
theorem kb_range {n : Nat} {a : Int} (g : Int → Bool)
    (turn : ∀ k t I oI C oC D m₂ ys h tk (E' : Value → Shared → Prop), LCg.NsObj oC m₂ → m₂ x = some (.int k t) → Fr h₀ L h m → News h₀ L h ((I, oI) :: (C, oC) :: (D, LCg.lst ys) :: news) → LCg.Off3 I C D news → ((@Ne Nat I C) ∧ (@Ne Nat I D) ∧ (@Ne Nat C D)) →
      wpAny (model prog w) A (eval elt (compEnvC scope cl C env)) (LCg.CompEnd h₀ L m { s with heap := h, toks := tk } I oI C oC D (LCg.lst ys) S (fun y news' => KbEl news (g k) y news')) E' { s with heap := h, toks := tk })
    (fin : Fin ((rangeKs a n).map fun k => Value.bool (g k)) news) : LCg.CompRest prog w A h₀ L m env elt x scope cl s S (fun i v => ∃ t, v = .int (a + (i : Int)) t) Fin n 0 [] news :=
  kb_rest (ks := rangeKs a n) g (rangeKs_length a n) (fun i v hi hv => by
    obtain ⟨t, e⟩ := hv
    exact ⟨a + (i : Int), t, by simp [rangeKs, hi], e⟩)
    (fun k t I oI C oC D m₂ ys h tk E' hk hC hx F N off ne => turn k t I oI C oC D m₂ ys h tk E' hC hx F N off ne) fin
end
theorem allLt_sub {l l' : List (Addr × Obj)} {d : Addr} (h : AllLt d l) (hs : ∀ p ∈ l', p ∈ l) : AllLt d l' := allLt_of fun p hp => ktn_ltOf h p (hs p hp)
theorem my_tuple {M : Model} {A : Around} {E : Value → Shared → Prop} {s : Shared} {h₀ : Heap} {L : Addr} {m : Str → Option Value} {news : List (Addr × Obj)} {vs : List Value} {Q : Value → Shared → Prop} (F : Fr h₀ L s.heap m) (N : News h₀ L s.heap news)
    (h : ∀ D h', Fr h₀ L h' m → News h₀ L h' ((D, { cls := .type "tuple", data := .seq vs.toArray }) :: news) → AllLt D news → Q (.ref D) { s with heap := h' }) (hsz : vs.length ≤ sizeLine) : wpAny M A (newTuple vs) Q E s :=
  newTuple_N F N (fun h' F' N' => h _ h' F' N' (allLt_of fun p hp => Heap.lt_size (N p hp).1)) hsz
theorem allLt_ne {d a : Addr} {o : Obj} {l : List (Addr × Obj)} (h : AllLt d l) (hm : (a, o) ∈ l) : @Ne Nat d a := Nat.ne_of_gt (ktn_ltOf h _ hm)
theorem allLt_all {d : Addr} {l : List (Addr × Obj)} (h : AllLt d l) : ∀ p ∈ l, p.1 ≠ d := fun p hp => Nat.ne_of_lt (ktn_ltOf h p hp)
end
local macro_rules | `(tactic| walk_at $s:str) => `(tactic| (k_here; k_extra $s))
local macro_rules | `(tactic| k_all) => `(tactic| exact allLt_all (by assumption))
local macro_rules | `(tactic| k_ne) => `(tactic| ((try dsimp only); exact allLt_ne (by assumption) (by k_mem)))
section
set_option maxRecDepth 100000 in
set_option maxHeartbeats 8000000 in
theorem looks_tell (w : World) (loose : List Str) (mean : ExcName → Option Value) (mg mb : Str → Option Value) (k : Int) (t : Tok) (news : List (Addr × Obj)) :
    Tell w loose mean mg mb 224 [.int k t] news (RetNew news fun o => ∃ n, o = listOf ((looksL k).map Value.bool).toArray n) := by
  unfold Tell
  k_fill
  intros
  rename_i hret
  w_on
  refine wpAny_call ?_
  k_enter
  k_with_none
  k_with "newTuple" => (k_dflt (refine' my_tuple ?F ?N ?_ ?z; (case F => k_asm); (case N => k_asm); (case z => exact Nat.le_of_ble_eq_true rfl)); intro D' h' F' N' l1; (try k_sweep))
  k_with "newList" => (k_dflt (refine' newList_K ?k1 ?k2 ?_; (case k1 => k_asm); (case k2 => k_asm); k_whole); intro l' h' F' N' l1; (replace l1 := allLt_of l1); (try k_sweep))
  k_with "binaryOp Add ref ref" => ((with_reducible show wpAny _ _ (binaryOp _ (Value.ref _) (Value.ref _)) _ _ _); k_dflt (refine' kmk_add_lit ?F ?N ?a ?b ?e ?_ ?z; (case F => k_asm); (case N => k_asm); (case a => kmk_list); (case b => kmk_list); (case e => kl_lit); (case z => kl_room)); intro D' h' F' N' l1; (replace l1 := allLt_of l1); (try k_sweep))
  k_steps
  all_goals (refine' ret_new hret ?F ?N ?S ?L ?O; (case F => k_asm); (case N => k_asm); (case S => (intro p hp; repeat (first | exact hp | refine List.Mem.tail _ ?_))); (case L => exact off1_lt (allLt_sub (by assumption) (by intro p hp; repeat (first | exact hp | refine List.mem_cons_of_mem _ ?_)))); (case O => exact ⟨0, rfl⟩))
end
section
set_option maxRecDepth 100000 in
set_option maxHeartbeats 8000000 in
theorem only_tell (w : World) (loose : List Str) (mean : ExcName → Option Value) (mg mb : Str → Option Value) (k : Int) (t : Tok) (news : List (Addr × Obj)) :
    Tell w loose mean mg mb 229 [.int k t] news (RetNew news fun o => ∃ n, o = listOf ((onlyL k).map Value.bool).toArray n) := by
  unfold Tell
  k_fill
  intros
  rename_i hret
  w_on
  refine wpAny_call ?_
  k_enter
  k_with_none
  k_with "CompEnd" => (refine LCg.CompEnd.intro (by assumption) (by assumption) _ (fun _ hp => hp) (by first | assumption | (simp only [LCg.Off3, and_true]; assumption)) (by first | lcg_src | assumption) (And.intro rfl rfl))
  k_with "CompSrc" => (k_here; k_dflt (refine LCg.CompSrc.range (by rfl) (by k_asm) (by k_asm) (by assumption) (by decide) (by exact rangeSize_nat _ _) (by exact Nat.le_of_ble_eq_true rfl) ?_; intro g'; (refine' kb_range (fun z => z == k) (fun k' t' I' oI' C' oC' D' m' ys' h' tk' E' hC' hx' F' N' off' ne' => ?_) ?_); (all_goals (try (simp only [LCg.Off3, and_true] at off'))); kcf_last))
  k_steps
  all_goals (refine' ret_new hret ?F ?N ?S ?L ?O; (case F => k_asm); (case N => k_asm); (case S => (intro p hp; repeat (first | exact hp | refine List.Mem.tail _ ?_))); (case L => (repeat (first | assumption | exact off1_lt (by assumption) | (rename (_ ∧ _) => hc; obtain ⟨_, _⟩ := hc)))); (case O => exact ⟨_, rfl⟩))
end
section
set_option maxRecDepth 100000 in
set_option maxHeartbeats 8000000 in
theorem draw_tell (w : World) (loose : List Str) (mean : ExcName → Option Value) (mg mb : Str → Option Value) (D DL : Addr) (c many : Int) (t u : Tok) (n : Nat) (vs : List Value) (ns : List Int) (rest : List (Addr × Obj))
    (hi : IntsAre vs ns) (hlen : ns.length ≤ 63) (h0 : 0 ≤ c) (hc : c ≤ 100) (hm0 : 0 < many) (hm1 : many ≤ 100) (hne : @Ne Nat DL D) (hoff : LCg.Off1 D rest) :
    Tell w loose mean mg mb 217 [.ref D, .int many u] ((D, listOf #[.ref DL, .int c t] n) :: (DL, LCg.lst vs) :: rest)
      (fun h₀ L m s Q => ∀ (r : Int) (t' t'' : Tok) (h' : Heap) (tk' : Nat), 0 ≤ r → r < many → Fr h₀ L h' m → News h₀ L h' ((D, listOf #[.ref DL, .int (c + 1) t'] n) :: (DL, LCg.lst vs) :: rest) → Q (.int r t'') { s with heap := h', toks := tk' }) := by
  have hown := off1_own hoff
  unfold Tell
  k_fill
  intros
  rename_i hret
  w_on
  refine wpAny_call ?_
  k_enter
  k_steps
  all_goals (refine' hret _ _ _ _ _ (Int.fmod_nonneg_of_pos _ hm0) (Int.fmod_lt_of_pos _ hm0) ?F ?N; (case F => k_asm); (case N => k_asm))
end
section
set_option maxRecDepth 100000 in
set_option maxHeartbeats 8000000 in
theorem made_tell (w : World) (loose : List Str) (mean : ExcName → Option Value) (mg mb : Str → Option Value) (a b c : Int) (t u v : Tok) (news : List (Addr × Obj))
    (hb0 : 0 ≤ b) (hb : b < 70) (hc0 : 0 ≤ c) (hc : c < 9) :
    Tell w loose mean mg mb 236 [.int a t, .int b u, .int c v] news
      (RetMade news a b c) := by
  unfold Tell
  k_fill
  intros
  rename_i hret
  w_on
  refine wpAny_call ?_
  k_enter
  k_with_none
  k_with "newTuple" => (k_dflt (refine' my_tuple ?F ?N ?_ ?z; (case F => k_asm); (case N => k_asm); (case z => exact Nat.le_of_ble_eq_true rfl)); intro D' h' F' N' l1; (try k_sweep))
  k_with "newList" => (k_dflt (refine' newList_K ?k1 ?k2 ?_; (case k1 => k_asm); (case k2 => k_asm); k_whole); intro l' h' F' N' l1; (replace l1 := allLt_of l1); (try k_sweep))
  k_with "binaryOp Add ref ref" => ((with_reducible show wpAny _ _ (binaryOp _ (Value.ref _) (Value.ref _)) _ _ _); k_dflt (refine' kmk_add_lit ?F ?N ?a ?b ?e ?_ ?z; (case F => k_asm); (case N => k_asm); (case a => kmk_list); (case b => kmk_list); (case e => kl_lit); (case z => kl_room)); intro D' h' F' N' l1; (replace l1 := allLt_of l1); (try k_sweep))
  k_with "eval Call" => (k_gentoks)
  k_with "eval Tuple" => (k_gentoks)
  k_with "eval BinOp" => (k_gentoks)
  k_with "eval Name" => (k_gentoks)
  k_steps
  all_goals (
    refine' ret_made hret [_, _, _, _, _, _, _, _, _, _, _, _, _] rfl ?F ?N ?O ?R ?T
    (case F => k_asm)
    (case N => k_asm)
    (case R => exact allLt_sub (by assumption) (by intro p hp; repeat (first | exact hp | refine List.mem_cons_of_mem _ ?_)))
    (case O => (repeat (refine List.forall_mem_cons.mpr ⟨(by (exact allLt_sub (by assumption) (by intro p hp; repeat (first | exact hp | refine List.mem_cons_of_mem _ ?_)))), ?_⟩)); exact List.forall_mem_nil _)
    (case T => (unfold madeL; repeat (refine ⟨⟨_, _, _, _, rfl, by k_mem⟩, ?_⟩)); exact True.intro))
end
section
def valueL (k : Int) : Bool := decide (k.fmod 8 ≠ 5 ∧ k.fmod 8 ≠ 6)
abbrev RetB (news : List (Addr × Obj)) (b : Bool) (h₀ : Heap) (L : Addr) (m : Str → Option Value) (s : Shared) (Q : Value → Shared → Prop) : Prop :=
  ∀ (h' : Heap) (tk' : Nat), Fr h₀ L h' m → News h₀ L h' news → Q (.bool b) { s with heap := h', toks := tk' }
theorem ret_b {news : List (Addr × Obj)} {b b' : Bool} {h₀ h' : Heap} {L : Addr} {m : Str → Option Value} {s : Shared} {Q : Value → Shared → Prop} {tk' : Nat} (hret : RetB news b h₀ L m s Q) (e : b' = b) (F : Fr h₀ L h' m) (N : News h₀ L h' news) : Q (.bool b') { s with heap := h', toks := tk' } := by
  subst e; exact hret h' tk' F N
set_option maxRecDepth 100000 in
set_option maxHeartbeats 8000000 in
theorem value_tell (w : World) (loose : List Str) (mean : ExcName → Option Value) (mg mb : Str → Option Value) (k : Int) (t : Tok) (news : List (Addr × Obj)) :
    Tell w loose mean mg mb 210 [.int k t] news (RetB news (valueL k)) := by
  unfold Tell
  k_fill
  intros
  rename_i hret
  w_on
  refine wpAny_call ?_
  k_enter
  k_steps
  all_goals (refine' ret_b hret ?e ?F ?N; (case F => k_asm); (case N => k_asm); (case e => (unfold valueL; rw [Bool.eq_iff_iff]; simp only [bne_iff_ne, decide_eq_true_eq, ne_eq]; omega)))
end
section
section
variable {prog : Program} {w : World} {A : Around} {E : Value → Shared → Prop} {s : Shared} {env : Env} {h₀ : Heap} {x : Str} {body : List Stmt} {Q : Flow → Shared → Prop}
/-- a loop over range(n) by a word over the whole ledger: it may grow -/
theorem my_range {r : Addr} {b₀ : Int} {t₀ u₀ v₀ : Tok} {n : Nat} {m₀ : Str → Option Value} {news : List (Addr × Obj)} (ps : List (Str × Value)) (J : Nat → List (Addr × Obj) → Prop)
    (hh : A.handled = none) (hr : IsRange s.heap r 0 b₀ 1 t₀ u₀ v₀) (hsmall : Builtin.Range.small 0 b₀ 1 = true) (hn : Builtin.Range.rangeSize 0 b₀ 1 = (n : Int)) (F : Fr h₀ env.locals s.heap m₀) (N : News h₀ env.locals s.heap news)
    (hk : ∀ p ∈ ps, m₀ p.1 = some p.2) (hj : J 0 news) (hx : ∀ p ∈ ps, p.1 ≠ x)
    (turn : ∀ (i : Nat) t (m₁ : Str → Option Value) nx h tk own, i < n → OwnOff own (nx.map (·.1)) → J i nx → Fr h₀ env.locals h (fun y => if y = x then some (.int (i : Int) t) else kstB m₁ ps y) → News h₀ env.locals h (nx ++ own) →
      wpAny (model prog w) A (execs body env) (InvPostG h₀ env.locals (fun m' nx' => (∀ p ∈ ps, m' p.1 = some p.2) ∧ J (i + 1) nx') own { s with heap := h, toks := tk } Q) E { s with heap := h, toks := tk })
    (done : ∀ (m₁ : Str → Option Value) nx h tk, J n nx → Fr h₀ env.locals h (fun y => kstB m₁ ps y) → News h₀ env.locals h nx → Q .next { s with heap := h, toks := tk }) :
    wpAny (model prog w) A (pyIter (.ref r)) (fun it s₂ => LoopAtV prog w A h₀ env x body Q E it s₂) E s := by
  refine wpAny_pyIter_range hr hsmall ?_
  have W : Walks prog w A s.heap.objs.size [s.heap.objs.size] [s.heap.objs.size] n (fun i v => i < n ∧ ∃ t, v = .int (0 + i * 1) t)
      (fun i h => IsRangeIter h s.heap.objs.size (0 + (i : Nat) * 1) ((n : Int) - (i : Nat)) 1) := (Walks.range hh _ 0 1 n).bound
  let J' : Nat → (Str → Option Value) → List (Addr × Obj) → Prop := fun i m nx => (∀ p ∈ ps, m p.1 = some p.2) ∧ J i nx
  refine ⟨_, _, _, n, _, _, m₀, news, J', rfl, W, ?_, ?_, ?_, (by show IsRangeIter _ _ _ _ _; rw [hn]; simpa using Heap.get?_push_size _ rfl), F.push _, (fun p hp => ⟨Heap.get?_push_of_some _ (N p hp).1, (N p hp).2⟩), ⟨hk, hj⟩, ?_, ?_⟩
  · intro hm
    exact absurd F.ns.lt ((List.mem_singleton.mp hm) ▸ Nat.lt_irrefl _)
  · intro b hb
    rw [List.mem_singleton.mp hb]
    exact next_is_new F
  · intro p hp hI
    exact absurd (Heap.lt_size (N p hp).1) ((List.mem_singleton.mp hI) ▸ Nat.lt_irrefl _)
  · rintro i v m₁ news₁ s₁ own ⟨hh', tk', rfl⟩ hin ⟨_, t, rfl⟩ ⟨hps, hJ⟩ hoff hown hown2 hfp hst F₁ N₁
    have hI0 : h₀.get? s.heap.objs.size = none := next_is_new F
    have hoI : ∃ oI, hh'.get? s.heap.objs.size = some oI := ⟨_, hst⟩
    obtain ⟨oI, hoI⟩ := hoI
    have hIown : (s.heap.objs.size, oI) ∈ own := hfp _ (List.mem_singleton.mpr rfl) hI0 _ hoI
    have hsep : OwnOff own (news₁.map (·.1)) := by
      intro p hp b hb e
      obtain ⟨q, hq, rfl⟩ := List.mem_map.mp hb
      exact hoff q hq (e ▸ hown p hp)
    have e1 : (0 : Int) + (i : Int) * 1 = (i : Int) := by omega
    rw [e1] at F₁
    have em : (fun y => if y = x then some (Value.int (i : Int) t) else m₁ y) = fun y => if y = x then some (Value.int (i : Int) t) else kstB m₁ ps y := by
      funext y
      by_cases hy : y = x
      · rw [if_pos hy, if_pos hy]
      · rw [if_neg hy, if_neg hy]
        exact (kstB_eq hps fun _ => rfl).symm
    rw [em] at F₁
    have N₂ : News h₀ env.locals hh' (news₁ ++ own) := fun p hp => N₁ p ((List.mem_append.mp hp).elim (fun h => List.mem_append.mpr (.inr h)) fun h => List.mem_append.mpr (.inl h))
    refine wpAny_mono (turn i t m₁ news₁ hh' tk' own hin hsep hJ F₁ N₂) (fun f s₂ p => ?_) fun _ _ e => e
    have fin : InvEndG h₀ env.locals (fun m' nx' => (∀ p ∈ ps, m' p.1 = some p.2) ∧ J (i + 1) nx') own { s with heap := hh', toks := tk' } s₂ → LoopStepU h₀ env.locals [s.heap.objs.size] own (J' (i + 1)) { s with heap := hh', toks := tk' } .next s₂ := by
      rintro ⟨h', tk, m', news', nx, e, F', N', hn, ho, ha, hm⟩
      refine ⟨rfl, h', tk, m', nx, e, F', fun p hp => N' p ((List.mem_append.mp hp).elim (ho p) (hn p)), fun p hp hq => ?_, hm⟩
      exact ha _ hIown p.1 (List.mem_map.mpr ⟨p, hp, rfl⟩) (List.mem_singleton.mp hq).symm
    cases f with
    | ret v => exact .ret p
    | brk => exact .brk p
    | next => exact .next (fin p)
    | cont => exact .cont (fin p)
  · rintro h' tk m' news' F' N' _ ⟨hps, hJ⟩
    have em : (fun y => kstB m' ps y) = m' := by
      funext y
      exact kstB_eq hps fun _ => rfl
    exact done m' news' h' tk hJ (by rw [em]; exact F') N'
end
end
section
abbrev tupO (x : Int) (t : Tok) (y : Int) (u : Tok) (n : Nat) : Obj := { cls := .type "tuple", data := .seq #[.int x t, .int y u] n }
def placeOf (k : Int) : Int := if k.fmod 8 = 7 then 7 + (k.fdiv 8).fmod 2 else k.fmod 8
def IsConst (k : Int) : Prop := k.fmod 8 = 4 ∧ k.fdiv 8 < 16
def Good (tups : List (Addr × Obj)) (kvs : List (Int × Value)) : Prop := ∀ kv ∈ kvs, (kv.2 = .bool true ∧ IsConst kv.1) ∨ TupIn tups kv.2 (placeOf kv.1, kv.1.fdiv 8)
structure WordOk (i k p : Int) : Prop where
  looks : looksL k = onlyL i
  pay : k.fdiv 8 = p
  tag : k.fmod 8 = k - 8 * p
  val : valueL k = decide (i ≠ 5 ∧ i ≠ 6)
  place : placeOf k = i
  free : ¬ IsConst k
theorem div8 (q r : Int) (h0 : 0 ≤ r) (h1 : r < 8) : (q * 8 + r).fdiv 8 = q ∧ (q * 8 + r).fmod 8 = r := by
  rw [Int.fdiv_eq_ediv_of_nonneg _ (by decide), Int.fmod_eq_emod_of_nonneg _ (by decide)]
  omega
theorem mk_word {q r i : Int} (h0 : 0 ≤ r) (h1 : r < 8)
    (hl : [r == 0, r == 1, r == 2, r == 3, if r = 4 then decide (16 ≤ q) else r == 4, r == 5, r == 6, if r = 7 then q.fmod 2 == 0 else r == 7, if r = 7 then q.fmod 2 == 1 else r == 7] = onlyL i)
    (hv : decide (r ≠ 5 ∧ r ≠ 6) = decide (i ≠ 5 ∧ i ≠ 6)) (hp : (if r = 7 then 7 + q.fmod 2 else r) = i) (hf : ¬ (r = 4 ∧ q < 16)) : WordOk i (q * 8 + r) q := by
  obtain ⟨hd, hm⟩ := div8 q r h0 h1
  refine ⟨?_, hd, ?_, ?_, ?_, ?_⟩
  · unfold looksL; rw [hd, hm]; exact hl
  · rw [hm]; omega
  · unfold valueL; rw [hm]; exact hv
  · unfold placeOf; rw [hd, hm]; exact hp
  · unfold IsConst; rw [hd, hm]; exact hf
theorem two_mod (b : Int) : (2 * b).fmod 2 = 0 ∧ (2 * b + 1).fmod 2 = 1 := by
  rw [Int.fmod_eq_emod_of_nonneg _ (by decide), Int.fmod_eq_emod_of_nonneg _ (by decide)]
  omega
theorem made_ok (a b c : Int) (hb0 : 0 ≤ b) (hbU : b < 70) (hc0U : 0 ≤ c) (hcU : c < 9) : ∀ j : Nat, j < 9 → ∃ k p, (madeL a b c)[j]? = some (k, p) ∧ WordOk (j : Int) k p
  | 0, _ => ⟨_, _, rfl, mk_word (by decide) (by decide) (by simp [onlyL, rangeKs]; decide) (by decide) (by simp) (by omega)⟩
  | 1, _ => ⟨_, _, rfl, mk_word (by decide) (by decide) (by simp [onlyL, rangeKs]; decide) (by decide) (by simp) (by omega)⟩
  | 2, _ => ⟨_, _, rfl, mk_word (by decide) (by decide) (by simp [onlyL, rangeKs]; decide) (by decide) (by simp) (by omega)⟩
  | 3, _ => ⟨_, _, rfl, mk_word (by decide) (by decide) (by simp [onlyL, rangeKs]; decide) (by decide) (by simp) (by omega)⟩
  | 4, _ => ⟨_, _, rfl, mk_word (by decide) (by decide) (by (have h : 16 ≤ 16 + b := (by omega)); simp [onlyL, rangeKs, h]; decide) (by decide) (by simp) (by omega)⟩
  | 5, _ => ⟨_, _, rfl, mk_word (by decide) (by decide) (by simp [onlyL, rangeKs]; decide) (by decide) (by simp) (by omega)⟩
  | 6, _ => ⟨_, _, rfl, mk_word (by decide) (by decide) (by simp [onlyL, rangeKs]; decide) (by decide) (by simp) (by omega)⟩
  | 7, _ => ⟨_, _, rfl, mk_word (by decide) (by decide) (by rw [(two_mod b).1]; simp [onlyL, rangeKs]; decide) (by decide) (by rw [(two_mod b).1]; decide) (by omega)⟩
  | 8, _ => ⟨_, _, rfl, mk_word (by decide) (by decide) (by rw [(two_mod (b.fmod 4)).2]; simp [onlyL, rangeKs]; decide) (by decide) (by rw [(two_mod (b.fmod 4)).2]; decide) (by omega)⟩
  | j + 9, h => absurd h (by omega)
theorem TupIn.mono {l l' : List (Addr × Obj)} {v : Value} {wp : Int × Int} (h : TupIn l v wp) (hs : ∀ p ∈ l, p ∈ l') : TupIn l' v wp := by
  obtain ⟨a, n, t, u, e, hm⟩ := h
  exact ⟨a, n, t, u, e, hs _ hm⟩
theorem valueAt_mem {kvs : List (Int × Value)} {k : Int} {v : Value} (h : valueAt kvs k = some v) : (k, v) ∈ kvs := by
  unfold valueAt at h
  obtain ⟨kv, hf, e⟩ := Option.map_eq_some_iff.mp h
  have h1 := List.mem_of_find?_eq_some hf
  have h2 := List.find?_some hf
  have h3 : kv.1 = k := by simpa using h2
  rw [← h3, ← e]; exact h1
theorem good_get {tups : List (Addr × Obj)} {kvs : List (Int × Value)} {i k p : Int} {v : Value} (G : Good tups kvs) (W : WordOk i k p) (h : valueAt kvs k = some v) : TupIn tups v (i, p) := by
  rcases G _ (valueAt_mem h) with ⟨_, hc⟩ | ht
  · exact absurd hc W.free
  · rw [W.place, W.pay] at ht; exact ht
theorem stored_mem {kvs : List (Int × Value)} {k : Int} {v : Value} {kv : Int × Value} (h : kv ∈ stored kvs k v) : kv ∈ kvs ∨ kv = (k, v) := by
  unfold stored at h
  split at h
  · obtain ⟨kv', hm, e⟩ := List.mem_map.mp h
    by_cases hk : kv'.1 = k
    · rw [if_pos hk, hk] at e; exact .inr e.symm
    · rw [if_neg hk] at e; rw [← e]; exact .inl hm
  · rcases List.mem_append.mp h with h | h
    · exact .inl h
    · exact .inr (List.mem_singleton.mp h)
theorem stored_len (kvs : List (Int × Value)) (k : Int) (v : Value) : (stored kvs k v).length ≤ kvs.length + 1 := by
  unfold stored
  split
  · rw [List.length_map]; omega
  · rw [List.length_append]; simp
theorem good_store {tups : List (Addr × Obj)} {kvs : List (Int × Value)} {i k p : Int} {a : Addr} {t u : Tok} {n : Nat} (G : Good tups kvs) (W : WordOk i k p) : Good ((a, tupO i t p u n) :: tups) (stored kvs k (.ref a)) := by
  intro kv hkv
  rcases stored_mem hkv with h | rfl
  · rcases G _ h with h | h
    · exact .inl h
    · exact .inr (h.mono fun p hp => List.mem_cons_of_mem _ hp)
  · refine .inr ⟨a, n, t, u, rfl, ?_⟩
    show (a, tupO (placeOf k) t (k.fdiv 8) u n) ∈ _
    rw [W.place, W.pay]
    exact List.mem_cons_self
theorem tups_cons {extra : List (Addr × Obj)} {its : List Value} {wp : Int × Int} {wps : List (Int × Int)} (h : TupsIn extra its (wp :: wps)) : ∃ v vs, its = v :: vs ∧ TupIn extra v wp ∧ TupsIn extra vs wps := by
  cases its with
  | nil => exact h.elim
  | cons v vs => exact ⟨v, vs, rfl, h.1, h.2⟩
theorem tups_nil {extra : List (Addr × Obj)} {its : List Value} (h : TupsIn extra its []) : its = [] := by
  cases its with
  | nil => rfl
  | cons v vs => exact h.elim
theorem tups_get {extra : List (Addr × Obj)} : ∀ {its : List Value} {wps : List (Int × Int)} {j : Nat} {wp : Int × Int}, TupsIn extra its wps → wps[j]? = some wp → ∃ v, its[j]? = some v ∧ TupIn extra v wp
  | [], [], _, _, _, e => by simp at e
  | [], _ :: _, _, _, h, _ => h.elim
  | _ :: _, [], _, _, h, _ => h.elim
  | v :: _, _ :: _, 0, _, h, e => ⟨v, rfl, by simp at e; rw [← e]; exact h.1⟩
  | _ :: vs, _ :: ws, j + 1, _, h, e => by
    obtain ⟨v, e1, e2⟩ := tups_get (its := vs) (wps := ws) (j := j) h.2 (by simpa using e)
    exact ⟨v, by simpa using e1, e2⟩

section
variable {prog : Program} {w : World} {A : Around} {E : Value → Shared → Prop} {s : Shared} {env : Env} {h₀ : Heap} {x : Str} {body : List Stmt} {Q : Flow → Shared → Prop}
def JIn (prog : Program) (w : World) (K : Addr) (fixed : List (Addr × Obj)) (B : Nat) (j : Nat) (nx : List (Addr × Obj)) : Prop :=
  ∃ o kvs tups, nx = (K, o) :: (tups ++ fixed) ∧ o.IsDictOf (PySem.intKind prog w) kvs ∧ Good tups kvs ∧ kvs.length ≤ B + j ∧ (∀ p ∈ tups, K < p.1) ∧ OwnOff fixed (tups.map (·.1))
theorem inner_loop {r : Addr} {t₀ u₀ v₀ : Tok} {m₀ : Str → Option Value} {K : Addr} {o : Obj} {kvs : List (Int × Value)} {tups : List (Addr × Obj)} {B : Nat} (fixed : List (Addr × Obj)) (ps : List (Str × Value))
    (hh : A.handled = none) (hr : IsRange s.heap r 0 9 1 t₀ u₀ v₀) (F : Fr h₀ env.locals s.heap m₀) (hk : ∀ p ∈ ps, m₀ p.1 = some p.2) (hx : ∀ p ∈ ps, p.1 ≠ x)
    (N : News h₀ env.locals s.heap ((K, o) :: (tups ++ fixed))) (hd : o.IsDictOf (PySem.intKind prog w) kvs) (hG : Good tups kvs) (hl : kvs.length ≤ B) (hK : ∀ p ∈ tups, K < p.1) (ho : OwnOff fixed (tups.map (·.1)))
    (turn : ∀ (j : Nat) t (m₁ : Str → Option Value) o kvs tups h tk own, j < 9 → OwnOff own (((K, o) :: (tups ++ fixed)).map (·.1)) → o.IsDictOf (PySem.intKind prog w) kvs → Good tups kvs → kvs.length ≤ B + j → (∀ p ∈ tups, K < p.1) → OwnOff fixed (tups.map (·.1)) →
      Fr h₀ env.locals h (fun y => if y = x then some (.int (j : Int) t) else kstB m₁ ps y) → News h₀ env.locals h ((K, o) :: ((tups ++ fixed) ++ own)) →
      wpAny (model prog w) A (execs body env) (InvPostG h₀ env.locals (fun m' nx' => (∀ p ∈ ps, m' p.1 = some p.2) ∧ JIn prog w K fixed B (j + 1) nx') own { s with heap := h, toks := tk } Q) E { s with heap := h, toks := tk })
    (done : ∀ (m₁ : Str → Option Value) o kvs tups h tk, o.IsDictOf (PySem.intKind prog w) kvs → Good tups kvs → kvs.length ≤ B + 9 → (∀ p ∈ tups, K < p.1) → OwnOff fixed (tups.map (·.1)) → Fr h₀ env.locals h (fun y => kstB m₁ ps y) → News h₀ env.locals h ((K, o) :: (tups ++ fixed)) → Q .next { s with heap := h, toks := tk }) :
    wpAny (model prog w) A (pyIter (.ref r)) (fun it s₂ => LoopAtV prog w A h₀ env x body Q E it s₂) E s := by
  refine my_range (n := 9) ps (JIn prog w K fixed B) hh hr (by decide) (by rfl) F N hk ⟨o, kvs, tups, rfl, hd, hG, by omega, hK, ho⟩ hx ?_ ?_
  · rintro i t m₁ nx h tk own hi hoff ⟨o', kvs', tups', rfl, hd', hG', hl', hK', ho'⟩ F' N'
    exact turn i t m₁ o' kvs' tups' h tk own hi hoff hd' hG' hl' hK' ho' F' N'
  · rintro m₁ nx h tk ⟨o', kvs', tups', rfl, hd', hG', hl', hK', ho'⟩ F' N'
    exact done m₁ o' kvs' tups' h tk hd' hG' hl' hK' ho' F' N'
/-- the end of an inner turn: the word's tuple is the newest of the ledger -/
theorem inner_end {K a L : Addr} {o o' : Obj} {kvs : List (Int × Value)} {tups fixed own led R : List (Addr × Obj)} {B j n : Nat} {i k p : Int} {t u : Tok} {m' : Str → Option Value} {ps : List (Str × Value)} {s₁ : Shared} {h' : Heap} {tk : Nat}
    (F : Fr h₀ L h' m') (hps : ∀ p ∈ ps, m' p.1 = some p.2) (N : News h₀ L h' led) (hK : (K, o') ∈ led) (hT : (a, tupO i t p u n) ∈ led) (hR : ∀ q ∈ R, q ∈ led) (eR : R = (tups ++ fixed) ++ own) (hoff : OwnOff own (((K, o) :: (tups ++ fixed)).map (·.1)))
    (hd : o'.IsDictOf (PySem.intKind prog w) (stored kvs k (.ref a))) (hG : Good tups kvs) (W : WordOk i k p) (hl : kvs.length ≤ B + j) (hKt : ∀ p ∈ tups, K < p.1) (ho : OwnOff fixed (tups.map (·.1))) (hKa : @LT.lt Nat _ K a) (hRa : AllLt a R) :
    InvEndG h₀ L (fun m' nx' => (∀ p ∈ ps, m' p.1 = some p.2) ∧ JIn prog w K fixed B (j + 1) nx') own s₁ { s₁ with heap := h', toks := tk } := by
  have lt : ∀ q ∈ R, q.1 < a := ktn_ltOf hRa
  refine InvEndG.intro (nx := (K, o') :: (((a, tupO i t p u n) :: tups) ++ fixed)) F N ⟨hps, o', _, (a, tupO i t p u n) :: tups, rfl, hd, good_store hG W, ?_, ?_, ?_⟩ ?_ ?_ ?_
  · have := stored_len kvs k (.ref a); omega
  · intro q hq
    rcases List.mem_cons.mp hq with rfl | hq
    · exact hKa
    · exact hKt q hq
  · intro q hq b hb
    rw [List.map_cons] at hb
    rcases List.mem_cons.mp hb with rfl | hb
    · exact Nat.ne_of_lt (lt q (by rw [eR]; simp [hq]))
    · exact ho q hq b hb
  · intro q hq b hb
    simp only [List.map_cons, List.map_append, List.cons_append, List.mem_cons, List.mem_append] at hb
    rcases hb with rfl | rfl | hb | hb
    · exact hoff q hq _ (by simp)
    · exact Nat.ne_of_lt (lt q (by rw [eR]; simp [hq]))
    · exact hoff q hq b (by simp only [List.map_cons, List.map_append, List.mem_cons, List.mem_append]; exact .inr (.inl hb))
    · exact hoff q hq b (by simp only [List.map_cons, List.map_append, List.mem_cons, List.mem_append]; exact .inr (.inr hb))
  · intro q hq
    simp only [List.cons_append, List.mem_cons, List.mem_append] at hq
    rcases hq with rfl | rfl | hq | hq
    · exact hK
    · exact hT
    · exact hR q (by rw [eR]; simp [hq])
    · exact hR q (by rw [eR]; simp [hq])
  · intro q hq
    exact hR q (by rw [eR]; simp [hq])
abbrev names6 (v1 v2 v3 v4 v5 v6 : Value) : List (Str × Value) := [(Str.ofString "script", v1), (Str.ofString "deck", v2), (Str.ofString "known", v3), (Str.ofString "sorts", v4), (Str.ofString "small", v5), (Str.ofString "size", v6)]
theorem ps6 {m : Str → Option Value} {v1 v2 v3 v4 v5 v6 : Value} (h1 : m (Str.ofString "script") = some v1) (h2 : m (Str.ofString "deck") = some v2) (h3 : m (Str.ofString "known") = some v3) (h4 : m (Str.ofString "sorts") = some v4) (h5 : m (Str.ofString "small") = some v5) (h6 : m (Str.ofString "size") = some v6) :
    ∀ p ∈ [(Str.ofString "script", v1), (Str.ofString "deck", v2), (Str.ofString "known", v3), (Str.ofString "sorts", v4), (Str.ofString "small", v5), (Str.ofString "size", v6)], m p.1 = some p.2 := by
  intro p hp
  simp only [List.mem_cons, List.not_mem_nil, or_false] at hp
  rcases hp with rfl | rfl | rfl | rfl | rfl | rfl <;> assumption
theorem ps3 {m : Str → Option Value} {v1 v2 v3 : Value} (h1 : m (Str.ofString "script") = some v1) (h2 : m (Str.ofString "deck") = some v2) (h3 : m (Str.ofString "known") = some v3) :
    ∀ p ∈ [(Str.ofString "script", v1), (Str.ofString "deck", v2), (Str.ofString "known", v3)], m p.1 = some p.2 := by
  intro p hp
  simp only [List.mem_cons, List.not_mem_nil, or_false] at hp
  rcases hp with rfl | rfl | rfl <;> assumption
theorem inner_loop6 {r : Addr} {t₀ u₀ v₀ : Tok} {m₀ : Str → Option Value} {K : Addr} {o : Obj} {kvs : List (Int × Value)} {tups : List (Addr × Obj)} {B : Nat} {v1 v2 v3 v4 v5 v6 : Value} (fixed : List (Addr × Obj))
    (hh : A.handled = none) (hr : IsRange s.heap r 0 9 1 t₀ u₀ v₀) (F : Fr h₀ env.locals s.heap m₀) (hx : x = Str.ofString "place")
    (h1 : m₀ (Str.ofString "script") = some v1) (h2 : m₀ (Str.ofString "deck") = some v2) (h3 : m₀ (Str.ofString "known") = some v3) (h4 : m₀ (Str.ofString "sorts") = some v4) (h5 : m₀ (Str.ofString "small") = some v5) (h6 : m₀ (Str.ofString "size") = some v6)
    (N : News h₀ env.locals s.heap ((K, o) :: (tups ++ fixed))) (hd : o.IsDictOf (PySem.intKind prog w) kvs) (hG : Good tups kvs) (hl : kvs.length ≤ B) (hK : ∀ p ∈ tups, K < p.1) (ho : OwnOff fixed (tups.map (·.1)))
    (turn : ∀ (j : Nat) t (m₁ : Str → Option Value) o kvs tups h tk own, j < 9 → OwnOff own (((K, o) :: (tups ++ fixed)).map (·.1)) → o.IsDictOf (PySem.intKind prog w) kvs → Good tups kvs → kvs.length ≤ B + j → (∀ p ∈ tups, K < p.1) → OwnOff fixed (tups.map (·.1)) →
      Fr h₀ env.locals h (fun y => if y = x then some (.int (j : Int) t) else kstB m₁ [(Str.ofString "script", v1), (Str.ofString "deck", v2), (Str.ofString "known", v3), (Str.ofString "sorts", v4), (Str.ofString "small", v5), (Str.ofString "size", v6)] y) → News h₀ env.locals h ((K, o) :: ((tups ++ fixed) ++ own)) →
      wpAny (model prog w) A (execs body env) (InvPostG h₀ env.locals (fun m' nx' => (∀ p ∈ [(Str.ofString "script", v1), (Str.ofString "deck", v2), (Str.ofString "known", v3), (Str.ofString "sorts", v4), (Str.ofString "small", v5), (Str.ofString "size", v6)], m' p.1 = some p.2) ∧ JIn prog w K fixed B (j + 1) nx') own { s with heap := h, toks := tk } Q) E { s with heap := h, toks := tk })
    (done : ∀ (m₁ : Str → Option Value) o kvs tups h tk, o.IsDictOf (PySem.intKind prog w) kvs → Good tups kvs → kvs.length ≤ B + 9 → (∀ p ∈ tups, K < p.1) → OwnOff fixed (tups.map (·.1)) → Fr h₀ env.locals h (fun y => kstB m₁ [(Str.ofString "script", v1), (Str.ofString "deck", v2), (Str.ofString "known", v3), (Str.ofString "sorts", v4), (Str.ofString "small", v5), (Str.ofString "size", v6)] y) → News h₀ env.locals h ((K, o) :: (tups ++ fixed)) → Q .next { s with heap := h, toks := tk }) :
    wpAny (model prog w) A (pyIter (.ref r)) (fun it s₂ => LoopAtV prog w A h₀ env x body Q E it s₂) E s := by
  refine inner_loop fixed _ hh hr F (ps6 h1 h2 h3 h4 h5 h6) ?_ N hd hG hl hK ho turn done
  subst hx
  intro p hp
  simp only [List.mem_cons, List.not_mem_nil, or_false] at hp
  rcases hp with rfl | rfl | rfl | rfl | rfl | rfl <;> (dsimp only; decide)
def JOut (prog : Program) (w : World) (K D DL : Addr) (ys : List Value) (i : Nat) (nx : List (Addr × Obj)) : Prop :=
  ∃ o kvs c tc tups, nx = (K, o) :: (D, listOf #[.ref DL, .int c tc] 0) :: (DL, LCg.lst ys) :: tups ∧ o.IsDictOf (PySem.intKind prog w) kvs ∧ Good tups kvs ∧ kvs.length ≤ 7 + 9 * i ∧ 0 ≤ c ∧ c ≤ 2 * (i : Int) ∧ (∀ p ∈ tups, K < p.1)
theorem outer_loop {r : Addr} {t₀ u₀ v₀ tc : Tok} {m₀ : Str → Option Value} {K D DL S : Addr} {o : Obj} {ys : List Value} {ns : List Int} {kvs : List (Int × Value)} {news : List (Addr × Obj)}
    (hh : A.handled = none) (hr : IsRange s.heap r 0 4 1 t₀ u₀ v₀) (F : Fr h₀ env.locals s.heap m₀) (h1 : m₀ "script" = some (.ref S)) (h2 : m₀ "deck" = some (.ref D)) (h3 : m₀ "known" = some (.ref K))
    (hx1 : (Str.ofString "script") ≠ x) (hx2 : (Str.ofString "deck") ≠ x) (hx3 : (Str.ofString "known") ≠ x)
    (N : News h₀ env.locals s.heap news) (hmK : (K, o) ∈ news) (hmD : (D, listOf #[.ref DL, .int 0 tc] 0) ∈ news) (hmDL : (DL, LCg.lst ys) ∈ news)
    (hd : o.IsDictOf (PySem.intKind prog w) kvs) (hG : ∀ kv ∈ kvs, kv.2 = .bool true ∧ IsConst kv.1) (hl : kvs.length ≤ 7) (hDK : @LT.lt Nat _ D K) (hDLD : @LT.lt Nat _ DL D) (hlo : (K == sysModules) = false) (hy : IntsAre ys ns) (hyl : ns.length ≤ 63)
    (turn : ∀ (K D DL : Addr) (ys : List Value) (ns : List Int), @LT.lt Nat _ D K → @LT.lt Nat _ DL D → (K == sysModules) = false → IntsAre ys ns → ns.length ≤ 63 → ∀ (i : Nat) t (m₁ : Str → Option Value) o kvs c tc tups h tk own, i < 4 → OwnOff own (((K, o) :: (D, listOf #[.ref DL, .int c tc] 0) :: (DL, LCg.lst ys) :: tups).map (·.1)) → o.IsDictOf (PySem.intKind prog w) kvs → Good tups kvs → kvs.length ≤ 7 + 9 * i → 0 ≤ c → c ≤ 2 * (i : Int) → (∀ p ∈ tups, K < p.1) →
      Fr h₀ env.locals h (fun y => if y = x then some (.int (i : Int) t) else kstB m₁ [(Str.ofString "script", .ref S), (Str.ofString "deck", .ref D), (Str.ofString "known", .ref K)] y) → News h₀ env.locals h ((K, o) :: (D, listOf #[.ref DL, .int c tc] 0) :: (DL, LCg.lst ys) :: (tups ++ own)) →
      wpAny (model prog w) A (execs body env) (InvPostG h₀ env.locals (fun m' nx' => (∀ p ∈ [(Str.ofString "script", Value.ref S), (Str.ofString "deck", .ref D), (Str.ofString "known", .ref K)], m' p.1 = some p.2) ∧ JOut prog w K D DL ys (i + 1) nx') own { s with heap := h, toks := tk } Q) E { s with heap := h, toks := tk })
    (done : ∀ (K D : Addr) (m₁ : Str → Option Value) nx h tk, Fr h₀ env.locals h (fun y => kstB m₁ [(Str.ofString "script", .ref S), (Str.ofString "deck", .ref D), (Str.ofString "known", .ref K)] y) → News h₀ env.locals h nx → Q .next { s with heap := h, toks := tk }) :
    wpAny (model prog w) A (pyIter (.ref r)) (fun it s₂ => LoopAtV prog w A h₀ env x body Q E it s₂) E s := by
  have N0 : News h₀ env.locals s.heap [(K, o), (D, listOf #[.ref DL, .int 0 tc] 0), (DL, LCg.lst ys)] := by
    intro p hp
    simp only [List.mem_cons, List.not_mem_nil, or_false] at hp
    rcases hp with rfl | rfl | rfl
    · exact N _ hmK
    · exact N _ hmD
    · exact N _ hmDL
  refine my_range (n := 4) [(Str.ofString "script", .ref S), (Str.ofString "deck", .ref D), (Str.ofString "known", .ref K)] (JOut prog w K D DL ys) hh hr (by decide) (by rfl) F N0 ?_ ⟨o, kvs, 0, tc, [], rfl, hd, fun kv hkv => .inl (hG kv hkv), by omega, by omega, by omega, fun _ hp => nomatch hp⟩ ?_ ?_ ?_
  · intro p hp
    simp only [List.mem_cons, List.not_mem_nil, or_false] at hp
    rcases hp with rfl | rfl | rfl
    · exact h1
    · exact h2
    · exact h3
  · intro p hp
    simp only [List.mem_cons, List.not_mem_nil, or_false] at hp
    rcases hp with rfl | rfl | rfl
    · exact hx1
    · exact hx2
    · exact hx3
  · rintro i t m₁ nx h tk own hi hoff ⟨o', kvs', c', tc', tups', rfl, hd', hG', hl', h0', hc', hK'⟩ F' N'
    exact turn K D DL ys ns hDK hDLD hlo hy hyl i t m₁ o' kvs' c' tc' tups' h tk own hi hoff hd' hG' hl' h0' hc' hK' F' N'
  · rintro m₁ nx h tk _ F' N'
    exact done K D m₁ nx h tk F' N'
theorem inner_end6 {K a L : Addr} {o o' : Obj} {kvs : List (Int × Value)} {tups fixed own led R : List (Addr × Obj)} {B j n : Nat} {i k p : Int} {t u : Tok} {m' : Str → Option Value} {v1 v2 v3 v4 v5 v6 : Value} {s₁ : Shared} {h' : Heap} {tk : Nat}
    (F : Fr h₀ L h' m') (h1 : m' (Str.ofString "script") = some v1) (h2 : m' (Str.ofString "deck") = some v2) (h3 : m' (Str.ofString "known") = some v3) (h4 : m' (Str.ofString "sorts") = some v4) (h5 : m' (Str.ofString "small") = some v5) (h6 : m' (Str.ofString "size") = some v6) (N : News h₀ L h' led) (hK : (K, o') ∈ led) (hT : (a, tupO i t p u n) ∈ led) (hR : ∀ q ∈ R, q ∈ led) (eR : R = (tups ++ fixed) ++ own) (hoff : OwnOff own (((K, o) :: (tups ++ fixed)).map (·.1)))
    (hd : o'.IsDictOf (PySem.intKind prog w) (stored kvs k (.ref a))) (hG : Good tups kvs) (W : WordOk i k p) (hl : kvs.length ≤ B + j) (hKt : ∀ p ∈ tups, K < p.1) (ho : OwnOff fixed (tups.map (·.1))) (hKa : @LT.lt Nat _ K a) (hRa : AllLt a R) :
    InvEndG h₀ L (fun m' nx' => (∀ p ∈ [(Str.ofString "script", v1), (Str.ofString "deck", v2), (Str.ofString "known", v3), (Str.ofString "sorts", v4), (Str.ofString "small", v5), (Str.ofString "size", v6)], m' p.1 = some p.2) ∧ JIn prog w K fixed B (j + 1) nx') own s₁ { s₁ with heap := h', toks := tk } :=
  inner_end F (ps6 h1 h2 h3 h4 h5 h6) N hK hT hR eR hoff hd hG W hl hKt ho hKa hRa
/-- the end of an outer turn -/
theorem outer_end {K D DL L : Addr} {o o' : Obj} {ys : List Value} {kvs : List (Int × Value)} {c c₀ : Int} {tc tc₀ : Tok} {tups tups' fixed own led : List (Addr × Obj)} {i : Nat} {m' : Str → Option Value} {ps : List (Str × Value)} {s₁ : Shared} {h' : Heap} {tk : Nat}
    (F : Fr h₀ L h' m') (hps : ∀ p ∈ ps, m' p.1 = some p.2) (N : News h₀ L h' led) (hK : (K, o') ∈ led) (hD : (D, listOf #[.ref DL, .int c tc] 0) ∈ led) (hDL : (DL, LCg.lst ys) ∈ led) (hT : ∀ q ∈ tups', q ∈ led) (hO : ∀ q ∈ own, q ∈ led)
    (hoff : OwnOff own (((K, o) :: (D, listOf #[.ref DL, .int c₀ tc₀] 0) :: (DL, LCg.lst ys) :: tups).map (·.1))) (hfix : ∀ q ∈ own, q ∈ fixed) (ho : OwnOff fixed (tups'.map (·.1)))
    (hd : o'.IsDictOf (PySem.intKind prog w) kvs) (hG : Good tups' kvs) (hl : kvs.length ≤ 7 + 9 * i + 9) (h0 : 0 ≤ c) (hc : c ≤ 2 * (i : Int) + 2) (hKt : ∀ p ∈ tups', K < p.1) :
    InvEndG h₀ L (fun m' nx' => (∀ p ∈ ps, m' p.1 = some p.2) ∧ JOut prog w K D DL ys (i + 1) nx') own s₁ { s₁ with heap := h', toks := tk } := by
  refine InvEndG.intro (nx := (K, o') :: (D, listOf #[.ref DL, .int c tc] 0) :: (DL, LCg.lst ys) :: tups') F N ⟨hps, o', kvs, c, tc, tups', rfl, hd, hG, by omega, h0, by omega, hKt⟩ ?_ ?_ hO
  · intro q hq b hb
    simp only [List.map_cons, List.mem_cons] at hb
    rcases hb with rfl | rfl | rfl | hb
    · exact hoff q hq _ (by simp)
    · exact hoff q hq _ (by simp)
    · exact hoff q hq _ (by simp)
    · exact ho q (hfix q hq) b hb
  · intro q hq
    simp only [List.mem_cons] at hq
    rcases hq with rfl | rfl | rfl | hq
    · exact hK
    · exact hD
    · exact hDL
    · exact hT q hq
theorem outer_end3 {K D DL L : Addr} {o o' : Obj} {ys : List Value} {kvs : List (Int × Value)} {c c₀ : Int} {tc tc₀ : Tok} {tups tups' fixed own led : List (Addr × Obj)} {i : Nat} {m' : Str → Option Value} {v1 v2 v3 : Value} {s₁ : Shared} {h' : Heap} {tk : Nat}
    (F : Fr h₀ L h' m') (h1 : m' (Str.ofString "script") = some v1) (h2 : m' (Str.ofString "deck") = some v2) (h3 : m' (Str.ofString "known") = some v3) (N : News h₀ L h' led) (hK : (K, o') ∈ led) (hD : (D, listOf #[.ref DL, .int c tc] 0) ∈ led) (hDL : (DL, LCg.lst ys) ∈ led) (hT : ∀ q ∈ tups', q ∈ led) (hO : ∀ q ∈ own, q ∈ led)
    (hoff : OwnOff own (((K, o) :: (D, listOf #[.ref DL, .int c₀ tc₀] 0) :: (DL, LCg.lst ys) :: tups).map (·.1))) (hfix : ∀ q ∈ own, q ∈ fixed) (ho : OwnOff fixed (tups'.map (·.1)))
    (hd : o'.IsDictOf (PySem.intKind prog w) kvs) (hG : Good tups' kvs) (hl : kvs.length ≤ 7 + 9 * i + 9) (h0 : 0 ≤ c) (hc : c ≤ 2 * (i : Int) + 2) (hKt : ∀ p ∈ tups', K < p.1) :
    InvEndG h₀ L (fun m' nx' => (∀ p ∈ [(Str.ofString "script", v1), (Str.ofString "deck", v2), (Str.ofString "known", v3)], m' p.1 = some p.2) ∧ JOut prog w K D DL ys (i + 1) nx') own s₁ { s₁ with heap := h', toks := tk } :=
  outer_end F (ps3 h1 h2 h3) N hK hD hDL hT hO hoff hfix ho hd hG hl h0 hc hKt
end
section
variable {prog : Program} {w : World} {A : Around} {E : Value → Shared → Prop} {s : Shared} {h₀ : Heap} {L : Addr} {m : Str → Option Value} {news : List (Addr × Obj)}
theorem my_item {Q : Value → Shared → Prop} {l : Addr} {vs : List Value} {n : Nat} {k : Int} {u : Tok} {v : Value} {value slice : PySem.Expr} (N : News h₀ L s.heap news) (hm : (l, listOf vs.toArray n) ∈ news) (h0 : 0 ≤ k) (hhi : k < 2 ^ 63) (hx : vs[k.toNat]? = some v) (h : Q v s)
    (hs : subscripted slice false (.ref l) (.int k u) = operate [.ref l, .int k u] (getItem (.ref l) (.int k u)) := by with_unfolding_all rfl) :
    wpAny (model prog w) A (subscriptTail value slice (.ref l) (.int k u)) Q E s :=
  have hl : s.heap.IsList l vs.toArray := ⟨_, N.get hm, rfl, _, rfl⟩
  tail_any hl.typeIs slot_list_getitem.lookup (wpAny_getItem_list hl h0 hhi (by simpa using hx) h) hs
theorem my_get {Q : Value → Shared → Prop} {d a : Addr} {o : Obj} {kvs : List (Int × Value)} {k i p : Int} {tk t u : Tok} {n : Nat} {tups : List (Addr × Obj)} (N : News h₀ L s.heap news) (hp : (d, o) ∈ news) (hd : o.IsDictOf (PySem.intKind prog w) kvs) (lo : (d == sysModules) = false) (ha : (a, tupO i t p u n) ∈ news)
    (hg : ∀ v, valueAt kvs k = some v → TupIn tups v (i, p)) (hs : ∀ q ∈ tups, q ∈ news) (hlt : ∀ q ∈ tups, d < q.1) (hda : @LT.lt Nat _ d a)
    (h : ∀ b n' t' u', @LT.lt Nat _ d b → News h₀ L s.heap ((b, tupO i t' p u' n') :: news) → Q (.ref b) { s with toks := s.toks + 1 }) :
    wpAny (model prog w) A (call (.builtin "dict.get") [.ref d, .int k tk, .ref a]) Q E s := by
  refine kdg_get2 (knd := PySem.intKind prog w) N hp hd lo (intKind_is _ _ _ _) (valueAt kvs k) rfl ?_
  have add : ∀ p : Addr × Obj, p ∈ news → News h₀ L s.heap (p :: news) := fun p hp q hq => (List.mem_cons.mp hq).elim (fun e => e ▸ N p hp) (N q)
  cases hv : valueAt kvs k with
  | none => exact h a n t u hda (add _ ha)
  | some v =>
    obtain ⟨b, n', t', u', e, hm⟩ := hg v hv
    rw [e]
    exact h b n' t' u' (hlt _ hm) (add _ (hs _ hm))
theorem ne_bool_false {Q : Value → Shared → Prop} {b b' : Bool} (e : b = b') (h : Q (.bool false) s) : wpAny (model prog w) A (compareOp .NotEq (.bool b) (.bool b')) Q E s := by
  subst e
  exact ne_bool (by rw [bne_self_eq_false]; exact h)
def AnyInt (h₀ : Heap) (L : Addr) (m : Str → Option Value) (news : List (Addr × Obj)) (s : Shared) (v : Value) (s' : Shared) : Prop :=
  ∃ (z : Int) (t : Tok) (h : Heap) (tk : Nat), v = .int z t ∧ s' = { s with heap := h, toks := tk } ∧ Fr h₀ L h m ∧ News h₀ L h news
structure MyMark : Prop where
def BoolIs (h₀ : Heap) (L : Addr) (m : Str → Option Value) (news : List (Addr × Obj)) (s : Shared) (b : Bool) (v : Value) (s' : Shared) : Prop :=
  ∃ (h : Heap) (tk : Nat), v = .bool b ∧ s' = { s with heap := h, toks := tk } ∧ Fr h₀ L h m ∧ News h₀ L h news
theorem boolIs_end {b b' : Bool} {v : Value} {s' : Shared} {h : Heap} {tk : Nat} (e : b' = b) (hv : v = .bool b') (hs : s' = { s with heap := h, toks := tk }) (F : Fr h₀ L h m) (N : News h₀ L h news) : BoolIs h₀ L m news s b v s' := ⟨h, tk, by rw [hv, e], hs, F, N⟩
theorem any_bool {M : Model} {Q : Value → Shared → Prop} {c : Sem Value} (b : Bool) (FU : Fr h₀ L s.heap m) (NU : News h₀ L s.heap news)
    (hc : MyMark → wpAny M A c (fun v s₂ => BoolIs h₀ L m news s b v s₂) E s) (h : ∀ (h' : Heap) (tk : Nat), Fr h₀ L h' m → News h₀ L h' news → Q (.bool b) { s with heap := h', toks := tk }) : wpAny M A c Q E s := by
  refine wpAny_mono (hc ⟨⟩) (fun v s₂ hq => ?_) fun _ _ h => h
  obtain ⟨h', tk, rfl, rfl, F, N⟩ := hq
  exact h h' tk F N
theorem any_int {M : Model} {Q : Value → Shared → Prop} {c : Sem Value} (FU : Fr h₀ L s.heap m) (NU : News h₀ L s.heap news)
    (hc : MyMark → wpAny M A c (fun v s₂ => AnyInt h₀ L m news s v s₂) E s) (h : ∀ (z : Int) (t : Tok) (h' : Heap) (tk : Nat), Fr h₀ L h' m → News h₀ L h' news → Q (.int z t) { s with heap := h', toks := tk }) : wpAny M A c Q E s := by
  refine wpAny_mono (hc ⟨⟩) (fun v s₂ hq => ?_) fun _ _ h => h
  obtain ⟨z, t, h', tk, rfl, rfl, F, N⟩ := hq
  exact h z t h' tk F N
end

section
variable {h₀ h : Heap} {L K D DL r a : Addr} {o so dob dlo ob : Obj} {led tups own own2 extra R0 : List (Addr × Obj)} {p : Addr × Obj}
theorem outer_start (N : News h₀ L h ((K, o) :: (D, dob) :: (DL, dlo) :: (tups ++ own))) (hoff : OwnOff own (((K, o) :: (D, dob) :: (DL, dlo) :: tups).map (·.1))) (hDK : @LT.lt Nat _ D K) (hK : ∀ p ∈ tups, K < p.1) :
    ∃ R, R = tups ++ own ∧ News h₀ L h ((K, o) :: (D, dob) :: (DL, dlo) :: R) ∧ OwnOff R [K, D] := by
  refine ⟨_, rfl, N, ?_⟩
  intro q hq b hb
  simp only [List.mem_cons, List.not_mem_nil, or_false] at hb
  rcases List.mem_append.mp hq with hq | hq
  · have := hK q hq
    rcases hb with rfl | rfl
    · exact Nat.ne_of_gt this
    · exact Nat.ne_of_gt (Nat.lt_trans hDK this)
  · rcases hb with rfl | rfl
    · exact hoff q hq _ (by simp)
    · exact hoff q hq _ (by simp)
theorem news_one (N : News h₀ L h led) (hm : p ∈ led) : News h₀ L h [p] := fun q hq => by rw [List.mem_singleton.mp hq]; exact N p hm
theorem news_cat {l l' : List (Addr × Obj)} (N : News h₀ L h l) (N' : News h₀ L h l') : News h₀ L h (l ++ l') := fun q hq => (List.mem_append.mp hq).elim (N q) (N' q)
theorem inner_off (hr : AllLt r tups) (hO : ∀ q ∈ extra, AllLt q.1 tups) (hDK : @LT.lt Nat _ D K) (hDLD : @LT.lt Nat _ DL D) (hK : ∀ p ∈ tups, K < p.1) {K' : Addr} {o' dob' dlo' : Obj} {D' DL' : Addr} (hoff : OwnOff own (((K', o') :: (D', dob') :: (DL', dlo') :: tups).map (·.1))) :
    OwnOff ((r, so) :: (D, dob) :: (DL, dlo) :: (extra ++ own)) (tups.map (·.1)) := by
  intro q hq b hb
  obtain ⟨x, hx, rfl⟩ := List.mem_map.mp hb
  have hKx := hK x hx
  simp only [List.mem_cons, List.mem_append] at hq
  rcases hq with rfl | rfl | rfl | hq | hq
  · exact Nat.ne_of_gt (ktn_ltOf hr x hx)
  · exact Nat.ne_of_lt (Nat.lt_trans hDK hKx)
  · exact Nat.ne_of_lt (Nat.lt_trans (Nat.lt_trans hDLD hDK) hKx)
  · exact Nat.ne_of_gt (ktn_ltOf (hO q hq) x hx)
  · exact hoff q hq _ (by simp only [List.map_cons, List.mem_cons]; exact .inr (.inr (.inr (List.mem_map.mpr ⟨x, hx, rfl⟩))))
theorem inner_start (N : News h₀ L h ((K, o) :: ((tups ++ ((r, so) :: (D, dob) :: (DL, dlo) :: (extra ++ own))) ++ own2))) (hmem : (a, ob) ∈ extra)
    (hK : ∀ p ∈ tups, K < p.1) (hKr : @LT.lt Nat _ K r) (hDK : @LT.lt Nat _ D K) (hDLD : @LT.lt Nat _ DL D) (hKe : ∀ q ∈ extra, K < q.1) (hown : ∀ q ∈ own, q.1 ≠ K) (hoff : OwnOff own2 (((K, o) :: (tups ++ ((r, so) :: (D, dob) :: (DL, dlo) :: (extra ++ own)))).map (·.1))) :
    ∃ R, R = (tups ++ ((r, so) :: (D, dob) :: (DL, dlo) :: (extra ++ own))) ++ own2 ∧ News h₀ L h ((K, o) :: (r, so) :: (a, ob) :: R) ∧ OwnOff R [K] := by
  refine ⟨_, rfl, ?_, ?_⟩
  · intro q hq
    simp only [List.mem_cons] at hq
    rcases hq with rfl | rfl | rfl | hq
    · exact N _ (by simp)
    · exact N _ (by simp)
    · exact N _ (by simp [hmem])
    · exact N _ (List.mem_cons_of_mem _ hq)
  · intro q hq b hb
    rw [List.mem_singleton.mp hb]
    simp only [List.mem_cons, List.mem_append] at hq
    rcases hq with (hq | rfl | rfl | rfl | hq | hq) | hq
    · exact Nat.ne_of_gt (hK q hq)
    · exact Nat.ne_of_gt hKr
    · exact Nat.ne_of_lt hDK
    · exact Nat.ne_of_lt (Nat.lt_trans hDLD hDK)
    · exact Nat.ne_of_gt (hKe q hq)
    · exact hown q hq
    · exact hoff q hq _ (by simp)
theorem inner_after {a5 a7 a8 : Addr} {o5 o7 o8 : Obj} (N : News h₀ L h ((K, o) :: (tups ++ ((r, so) :: (D, dob) :: (DL, dlo) :: (extra ++ own))))) (h5 : (a5, o5) ∈ extra) (h7 : (a7, o7) ∈ extra) (h8 : (a8, o8) ∈ extra) :
    ∃ R, R = tups ++ (extra ++ own) ∧ News h₀ L h ((K, o) :: (r, so) :: (a5, o5) :: (a7, o7) :: (a8, o8) :: (D, dob) :: (DL, dlo) :: R) := by
  refine ⟨_, rfl, ?_⟩
  intro q hq
  simp only [List.mem_cons, List.mem_append] at hq
  rcases hq with rfl | rfl | rfl | rfl | rfl | rfl | rfl | hq | hq | hq
  · exact N _ (by simp)
  · exact N _ (by simp)
  · exact N _ (by simp [h5])
  · exact N _ (by simp [h7])
  · exact N _ (by simp [h8])
  · exact N _ (by simp)
  · exact N _ (by simp)
  · exact N _ (by simp [hq])
  · exact N _ (by simp [hq])
  · exact N _ (by simp [hq])
theorem led_move (N : News h₀ L h ((r, so) :: (extra ++ led))) : News h₀ L h ((r, so) :: led) := fun q hq => N q (by
  rcases List.mem_cons.mp hq with rfl | hq
  · exact List.mem_cons_self
  · exact List.mem_cons_of_mem _ (List.mem_append_right _ hq))
theorem led_extra (N : News h₀ L h ((r, so) :: (extra ++ led))) : News h₀ L h extra := fun q hq => N q (List.mem_cons_of_mem _ (List.mem_append_left _ hq))
end
theorem made_get {extra : List (Addr × Obj)} {its : List Value} {a b c : Int} (hT : TupsIn extra its (madeL a b c)) (hb0 : 0 ≤ b) (hb : b < 70) (hc0 : 0 ≤ c) (hc : c < 9) (j : Nat) (hj : j < 9) :
    ∃ (a' : Addr) (n : Nat) (t u : Tok) (k p : Int), its[((j : Int)).toNat]? = some (.ref a') ∧ (a', tupO k t p u n) ∈ extra ∧ WordOk (j : Int) k p := by
  obtain ⟨k, p, e, W⟩ := made_ok a b c hb0 hb hc0 hc j hj
  obtain ⟨v, hv, a', n, t, u, rfl, hm⟩ := tups_get hT e
  exact ⟨a', n, t, u, k, p, by rw [Int.toNat_natCast]; exact hv, hm, W⟩
theorem made_facts {extra : List (Addr × Obj)} {its : List Value} {a b c : Int} (hTU : TupsIn extra its (madeL a b c)) (hb0 : 0 ≤ b) (hb : b < 70) (hc0U : 0 ≤ c) (hcU : c < 9) :
    ((((c * 16 + b.fmod 16) * 8 + 5).fdiv 8).fmod 16 = b.fmod 16 ∧ (((c * 16 + b.fmod 16) * 8 + 5).fdiv 8).fdiv 16 = c) ∧ (((2 * b * 8 + 7).fdiv 8).fdiv 2 = b ∧ (((2 * b.fmod 4 + 1) * 8 + 7).fdiv 8).fdiv 2 = b.fmod 4) ∧
      ((c * 65536 + (65535 - b)).fdiv 65536 = c ∧ (c * 65536 + (65535 - b)).fmod 65536 = 65535 - b) := by
  repeat rw [Int.fdiv_eq_ediv_of_nonneg _ (by decide)]
  repeat rw [Int.fmod_eq_emod_of_nonneg _ (by decide)]
  omega
theorem cons_eq2 {x y z w : Int} (h1 : x = z) (h2 : y = w) : [x, y] = [z, w] := by rw [h1, h2]
theorem news_top {h₀ h : Heap} {L : Addr} {p q : Addr × Obj} {r : List (Addr × Obj)} (N : News h₀ L h (p :: q :: r)) : News h₀ L h r := fun x hx => N x (List.mem_cons_of_mem _ (List.mem_cons_of_mem _ hx))
theorem ne_ints_false {prog : Program} {w : World} {A : Around} {E : Value → Shared → Prop} {s : Shared} {a b : Addr} {xs ys : List Value} {ns ms : List Int} {Q : Value → Shared → Prop} (ha : s.heap.IsList a xs.toArray) (hb : s.heap.IsList b ys.toArray) (hi : IntsAre xs ns) (hj : IntsAre ys ms) (hu : A.units + 64 < cLine) (e : ns = ms) (h : Q (.bool false) s) :
    wpAny (model prog w) A (compareOp .NotEq (.ref a) (.ref b)) Q E s := ke_ne_ints ha hb hi hj hu (by rw [decide_eq_true e]; exact h)
theorem led_tail {h₀ h : Heap} {L r : Addr} {so : Obj} {led extra : List (Addr × Obj)} (N : News h₀ L h ((r, so) :: (extra ++ led))) : News h₀ L h ((r, so) :: (led ++ extra)) := fun q hq => N q (by
  rcases List.mem_cons.mp hq with rfl | hq
  · exact List.mem_cons_self
  · exact List.mem_cons_of_mem _ (List.mem_append.mpr ((List.mem_append.mp hq).symm)))
end
section
section
variable {w : World} {loose : List Str} {mean : ExcName → Option Value} {mg mb : Str → Option Value} {gd : Option (List Code)} {cn : Str} {nm : List (Str × NameKind)} {ig ic : Bool} {mr : List (Str × Const)} {a : Addr} {ccd : Value} {cl : List (Str × Addr)} {outer : List Env} {A₀ : Around} {base h₀ : Heap} {L : Addr} {m : Str → Option Value} {s : Shared} {Q E : Value → Shared → Prop} {news : List (Addr × Obj)}
theorem looks_use {k : Int} {t : Tok} (B : Below A₀ base outer h₀) (F : Fr h₀ L s.heap m) (X : (hd.heap_39 w.params).In h₀) (N : News h₀ L s.heap news) (T : Top hd.view_39 loose mean mg mb h₀)
    (R : RetNew news (fun o => ∃ n, o = listOf ((looksL k).map Value.bool).toArray n) h₀ L m s Q) :
    wpAny (model PySem.Challenge.rw_nt0160_01.row.prog w) (ktrTop 302 7 gd cn { kind := .function, names := nm, isGenerator := ig, isCoroutine := ic, more := mr } L a ccd cl outer) (call (.ref 224) [.int k t]) Q E s :=
  looks_tell w loose mean mg mb k t news gd cn nm ig ic mr a ccd cl outer A₀ base h₀ L m s Q E B F X N T R
theorem only_use {k : Int} {t : Tok} (B : Below A₀ base outer h₀) (F : Fr h₀ L s.heap m) (X : (hd.heap_39 w.params).In h₀) (N : News h₀ L s.heap news) (T : Top hd.view_39 loose mean mg mb h₀)
    (R : RetNew news (fun o => ∃ n, o = listOf ((onlyL k).map Value.bool).toArray n) h₀ L m s Q) :
    wpAny (model PySem.Challenge.rw_nt0160_01.row.prog w) (ktrTop 302 7 gd cn { kind := .function, names := nm, isGenerator := ig, isCoroutine := ic, more := mr } L a ccd cl outer) (call (.ref 229) [.int k t]) Q E s :=
  only_tell w loose mean mg mb k t news gd cn nm ig ic mr a ccd cl outer A₀ base h₀ L m s Q E B F X N T R
theorem value_use {k : Int} {t : Tok} (b : Bool) (B : Below A₀ base outer h₀) (F : Fr h₀ L s.heap m) (X : (hd.heap_39 w.params).In h₀) (N : News h₀ L s.heap news) (T : Top hd.view_39 loose mean mg mb h₀) (e : valueL k = b)
    (R : RetB news b h₀ L m s Q) :
    wpAny (model PySem.Challenge.rw_nt0160_01.row.prog w) (ktrTop 302 7 gd cn { kind := .function, names := nm, isGenerator := ig, isCoroutine := ic, more := mr } L a ccd cl outer) (call (.ref 210) [.int k t]) Q E s := by
  subst e
  exact value_tell w loose mean mg mb k t news gd cn nm ig ic mr a ccd cl outer A₀ base h₀ L m s Q E B F X N T R
theorem made_use {x y z : Int} {t u v : Tok} (B : Below A₀ base outer h₀) (F : Fr h₀ L s.heap m) (X : (hd.heap_39 w.params).In h₀) (N : News h₀ L s.heap news) (T : Top hd.view_39 loose mean mg mb h₀)
    (hb0 : 0 ≤ y) (hb : y < 70) (hc0 : 0 ≤ z) (hc : z < 9) (R : RetMade news x y z h₀ L m s Q) :
    wpAny (model PySem.Challenge.rw_nt0160_01.row.prog w) (ktrTop 302 7 gd cn { kind := .function, names := nm, isGenerator := ig, isCoroutine := ic, more := mr } L a ccd cl outer) (call (.ref 236) [.int x t, .int y u, .int z v]) Q E s :=
  made_tell w loose mean mg mb x y z t u v news hb0 hb hc0 hc gd cn nm ig ic mr a ccd cl outer A₀ base h₀ L m s Q E B F X N T R
theorem draw_use {D DL : Addr} {c many : Int} {t u : Tok} {n : Nat} {vs : List Value} {ns : List Int} {g : Obj → List (Addr × Obj)} (B : Below A₀ base outer h₀) (F : Fr h₀ L s.heap m) (X : (hd.heap_39 w.params).In h₀) (N : News h₀ L s.heap news) (T : Top hd.view_39 loose mean mg mb h₀)
    (U : UpdF D (listOf #[.ref DL, .int c t] n) news g) (hDL : (DL, LCg.lst vs) ∈ news) (hi : IntsAre vs ns) (hlen : ns.length ≤ 63) (h0 : 0 ≤ c) (hc : c ≤ 100) (hm0 : 0 < many) (hm1 : many ≤ 100) (hne : @Ne Nat DL D)
    (R : ∀ (r : Int) (t' t'' : Tok) (h' : Heap) (tk' : Nat), 0 ≤ r → r < many → Fr h₀ L h' m → News h₀ L h' (g (listOf #[.ref DL, .int (c + 1) t'] n)) → Q (.int r t'') { s with heap := h', toks := tk' }) :
    wpAny (model PySem.Challenge.rw_nt0160_01.row.prog w) (ktrTop 302 7 gd cn { kind := .function, names := nm, isGenerator := ig, isCoroutine := ic, more := mr } L a ccd cl outer) (call (.ref 217) [.ref D, .int many u]) Q E s := by
  obtain ⟨pre, post, rfl, hg, ha, hb⟩ := U.split
  refine draw_tell w loose mean mg mb D DL c many t u n vs ns (pre ++ post) hi hlen h0 hc hm0 hm1 hne (off1_of fun p hp => (List.mem_append.mp hp).elim (ha p) (hb p)) gd cn nm ig ic mr a ccd cl outer A₀ base h₀ L m s Q E B F X ?_ T ?_
  · intro p hp
    rcases List.mem_cons.mp hp with rfl | hp
    · exact N _ (List.mem_append_right _ List.mem_cons_self)
    rcases List.mem_cons.mp hp with rfl | hp
    · exact N _ hDL
    · exact N p ((List.mem_append.mp hp).elim (List.mem_append_left _) fun h => List.mem_append_right _ (List.mem_cons_of_mem _ h))
  · intro r t' t'' h' tk' r0 r1 F' N'
    refine R r t' t'' h' tk' r0 r1 F' ?_
    rw [hg]
    intro p hp
    rcases List.mem_append.mp hp with hp | hp
    · exact N' p (List.mem_cons_of_mem _ (List.mem_cons_of_mem _ (List.mem_append_left _ hp)))
    rcases List.mem_cons.mp hp with rfl | hp
    · exact N' _ List.mem_cons_self
    · exact N' p (List.mem_cons_of_mem _ (List.mem_cons_of_mem _ (List.mem_append_right _ hp)))
end
theorem news_drop2 {h₀ h : Heap} {L : Addr} {p q : Addr × Obj} {r : List (Addr × Obj)} (N : News h₀ L h (p :: q :: r)) : News h₀ L h r := fun x hx => N x (List.mem_cons_of_mem _ (List.mem_cons_of_mem _ hx))
theorem nb_canLay : ∀ bs : List Bool, PyData.canLayAll0 (bs.map PyData.bool) = true
  | [] => rfl
  | _ :: r => by simp [PyData.canLayAll0, PyData.canLay0, nb_canLay r]
theorem nb_depth : ∀ bs : List Bool, PyData.depthAll (bs.map PyData.bool) = 0
  | [] => rfl
  | _ :: r => by simp [PyData.depthAll, PyData.depth, nb_depth r]
theorem nb_shaped (bs : List Bool) : SeqAt.shaped (.list (bs.map PyData.bool)) = true := by
  simp [SeqAt.shaped, PyData.canLay0, PyData.depth, nb_canLay, nb_depth]
theorem nb_sameAll : ∀ bs : List Bool, PySem.Spec.sameAll (bs.map PyData.bool) (bs.map PyData.bool) = true
  | [] => by simp [PySem.Spec.sameAll]
  | a :: r => by simp [PySem.Spec.sameAll, PySem.Spec.same, nb_sameAll r]
theorem nb_same (bs : List Bool) : PySem.Spec.same (.list (bs.map PyData.bool)) (.list (bs.map PyData.bool)) = true := by
  simp only [PySem.Spec.same]; exact nb_sameAll bs
theorem nb_carried : ∀ bs : List Bool, CarriedAll (bs.map Value.bool) (bs.map PyData.bool)
  | [] => .nil
  | b :: r => .cons (.bool b) (nb_carried r)
theorem ne_bools {prog : Program} {w : World} {A : Around} {E : Value → Shared → Prop} {s : Shared} {h₀ : Heap} {L a b : Addr} {news : List (Addr × Obj)} {bs bs' : List Bool} {n k : Nat} {Q : Value → Shared → Prop}
    (N : News h₀ L s.heap news) (ha : (a, listOf (bs.map Value.bool).toArray n) ∈ news) (hb : (b, listOf (bs'.map Value.bool).toArray k) ∈ news) (e : bs = bs') (hu : A.units + 64 < cLine) (h : Q (.bool false) s) :
    wpAny (model prog w) A (compareOp .NotEq (.ref a) (.ref b)) Q E s := by
  subst e
  have la : s.heap.IsList a (bs.map Value.bool).toArray := ⟨_, N.get ha, rfl, _, rfl⟩
  have lb : s.heap.IsList b (bs.map Value.bool).toArray := ⟨_, N.get hb, rfl, _, rfl⟩
  exact ne_dataH_same (reads_newData la (nb_carried bs)) (reads_newData lb (nb_carried bs)) (nb_shaped _) (nb_shaped _) hu (SeqAt.noMix_of_shape (.list .bool) rfl _ _ (list_map_has fun _ => rfl) (list_map_has fun _ => rfl)) (by rw [nb_same]; exact h)
end
section
set_option maxRecDepth 100000 in
set_option maxHeartbeats 8000000 in
theorem main0 : PySem.Challenge.rw_nt0160_01.Holds := by
  refine Mine.hd ?_
  k_with_none
  k_with "eval Call" => (k_gentoks)
  k_with "eval Tuple" => (k_gentoks)
  k_with "eval BinOp" => (k_gentoks)
  k_with "eval Name" => (k_gentoks)
  k_with "call ref" => ((k_dflt (with_reducible show wpAny _ _ (call (Value.ref 224) _) _ _ _)); (k_dflt ((refine' looks_use ?Br5 ?Fr5 ?Xr5 ?Nr5 ?Tr5 ?_; (case Br5 => k_asm); (case Fr5 => k_asm); (case Xr5 => k_asm); (case Nr5 => k_asm); (case Tr5 => k_asm); intro b' ob' h' tk' F' N' o1' ho'; obtain ⟨n', ho'⟩ := ho'; subst ho'; clear o1'; (try k_sweep)))))
  k_with "call ref" => ((k_dflt (with_reducible show wpAny _ _ (call (Value.ref 229) _) _ _ _)); (k_dflt ((refine' only_use ?Br6 ?Fr6 ?Xr6 ?Nr6 ?Tr6 ?_; (case Br6 => k_asm); (case Fr6 => k_asm); (case Xr6 => k_asm); (case Nr6 => k_asm); (case Tr6 => k_asm); intro b' ob' h' tk' F' N' o1' ho'; obtain ⟨n', ho'⟩ := ho'; subst ho'; clear o1'; (try k_sweep)))))
  k_with "call ref" => ((k_dflt (with_reducible show wpAny _ _ (call (Value.ref 210) _) _ _ _)); (k_dflt ((first | (refine' value_use true ?Br7 ?Fr7 ?Xr7 ?Nr7 ?Tr7 ?er7 ?_; (case er7 => first | assumption | decide +kernel)) | (refine' value_use false ?Br7 ?Fr7 ?Xr7 ?Nr7 ?Tr7 ?er7 ?_; (case er7 => first | assumption | decide +kernel)) | (refine' value_use _ ?Br7 ?Fr7 ?Xr7 ?Nr7 ?Tr7 ?er7 ?_; (case er7 => assumption))); (case Br7 => k_asm); (case Fr7 => k_asm); (case Xr7 => k_asm); (case Nr7 => k_asm); (case Tr7 => k_asm); intro h' tk' F' N'; (try k_sweep))))
  k_with "eval Call" => ((with_reducible show wpAny _ _ (PySem.eval (PySem.Expr.Call (PySem.Expr.Name (Str.ofString "is_value_word") _) _ _ _) _) _ _ _); (k_dflt (refine Call_ ?_)))
  k_with "compareOp NotEq ref ref" => (k_dflt (refine ne_ints_false (by is_list) (by is_list) (by l_ints) (by l_ints) (by ke_room) (cons_eq2 (by first | rfl | assumption) (by first | rfl | assumption)) ?_))
  k_with "InvEndG" => (k_extra "my end")
  k_with "newTuple" => (k_dflt (refine' my_tuple ?Fr11 ?Nr11 ?_ ?zr11; (case Fr11 => k_asm); (case Nr11 => k_asm); (case zr11 => exact Nat.le_of_ble_eq_true rfl)); intro D' h' F' N' l1; (try k_sweep))
  k_with "BoolIs" => (refine boolIs_end (by rw [Bool.eq_iff_iff]; simp only [bne_iff_ne, decide_eq_true_eq, ne_eq]; omega) rfl rfl (by k_asm) (by k_asm))
  k_with "eval BoolOp" => (k_extra "my and")
  k_with "AnyInt" => (exact ⟨_, _, _, _, rfl, rfl, by k_asm, by k_asm⟩)
  k_with "eval IfExp" => (k_extra "my IfExp")
  k_with "subscriptTail" => (k_extra "my sub")
  k_with "getMethod ref" => (k_dflt (refine kdg_method (knd := PySem.intKind _ _) (by k_asm) (by k_mem) (by k_asm) ?_))
  k_with "call builtin:dict.get" => (k_extra "my get")
  k_with "compareOp NotEq bool bool" => (k_extra "my nb")
  k_with "call ref" => ((k_dflt (with_reducible show wpAny _ _ (call (Value.ref 236) _) _ _ _)); k_dflt ((refine' made_use ?Br20 ?Fr20 ?Xr20 ?Nr20 ?Tr20 ?h1r20 ?h2r20 ?h3r20 ?h4r20 ?_; (case Br20 => k_asm); (case Fr20 => k_asm); (case Xr20 => k_asm); (case Nr20 => k_asm); (case Tr20 => k_asm); (case h1r20 => omega); (case h2r20 => omega); (case h3r20 => omega); (case h4r20 => omega); k_extra "my made")))
  k_with "call ref" => ((k_dflt (with_reducible show wpAny _ _ (call (Value.ref 217) _) _ _ _)); k_dflt ((refine' draw_use ?Br21 ?Fr21 ?Xr21 ?Nr21 ?Tr21 ?Ur21 ?hDLr21 ?hir21 ?hlenr21 ?h0r21 ?hcr21 ?hm0r21 ?hm1r21 ?hner21 ?_; (case Br21 => k_asm); (case Fr21 => k_asm); (case Xr21 => k_asm); (case Nr21 => k_asm); (case Tr21 => k_asm); (case Ur21 => k_updF); (case hDLr21 => k_mem); (case hir21 => assumption); (case hlenr21 => assumption); (case h0r21 => omega); (case hcr21 => omega); (case hm0r21 => decide); (case hm1r21 => decide); (case hner21 => (refine neN ?_; omega)); intro r' t' t2' h' tk' r0' r1' F' N'; (try dsimp only at N'); (try k_sweep))))
  k_with "pyIter ref" => ((with_reducible show wpAny _ _ (pyIter (Value.ref _)) (fun it s₂ => LoopAtV _ _ _ _ _ _ _ _ _ it s₂) _ _); k_extra "my pyIter")
  k_with "compareOp NotEq ref ref" => (k_dflt (refine ne_bools (by k_asm) (by k_mem) (by k_mem) (by first | assumption | decide +kernel) (by ke_room) ?_); (rename News _ _ _ _ => lN; have N' := news_drop2 lN; clear lN))
  k_with "compareOp In int ref" => ((k_dflt (refine kda_in (knd := PySem.intKind _ _) (by k_asm) (by k_mem) (by k_asm) (by k_asm) (intKind_is _ _ _ _) false (by decide +kernel) ?_)))
  k_with "setItem ref int" => ((k_dflt (refine' kda_set (knd := PySem.intKind _ _) ?Fr25 ?Nr25 ?Ur25 ?dr25 (intKind_is _ _ _ _) ?zr25 ?_; (case Fr25 => k_asm); (case Nr25 => k_asm); (case Ur25 => k_updF); (case dr25 => k_asm); (case zr25 => first | decide +kernel | (rw [sizeLine_eq]; omega)))); intro h' o' F' N' hd'; (first | k_extra "inner" | (try simp [stored] at hd')); (try dsimp only at N'); (try k_sweep))
  k_with "my pyIter" =>
    first
    | k_of "turn" =>
      k_dflt (
        rename IntsAre _ (List.map _ _) => hy0
        refine' outer_loop ?hh ?hr ?F ?h1 ?h2 ?h3 ?x1 ?x2 ?x3 ?N ?mK ?mD ?mDL ?hd ?hG ?hl ?hDK ?hDLD ?hlo hy0 ?hyl (fun K D DL ys ns hDK hDLD hlo hy hyl i t m1 o kvs c tc tups h tk own hi hoff hd hG hl h0 hc hK F1 N1 => ?turn) (fun K D m1 nx h tk F1 N1 => ?done)
        case hh => rfl
        case hr => assumption
        case F => assumption
        case h1 => rfl
        case h2 => rfl
        case h3 => rfl
        case x1 => decide
        case x2 => decide
        case x3 => decide
        case N => assumption
        case mK => k_mem
        case mD => k_mem
        case mDL => k_mem
        case hd => assumption
        case hG => (simp only [List.forall_mem_cons]; unfold IsConst; decide +kernel)
        case hl => decide +kernel
        case hDK => omega
        case hDLD => omega
        case hlo => assumption
        case hyl => (rw [List.length_map, List.length_take]; omega)
        case' turn =>
          obtain ⟨R0, eR0, N2, hoffR⟩ := outer_start N1 hoff hDK hK
          clear N1
        (all_goals try k_fold))
    | k_of "place" =>
      k_dflt (
        k_with "inner" => skip
        rename News _ _ _ _ => N5
        obtain ⟨tc2, nD⟩ : ∃ tc2, News _ _ _ [(D, listOf #[.ref DL, .int (c + 1 + 1) tc2] 0)] := ⟨_, news_one N5 (by k_mem)⟩
        have nK := news_one (p := (K, o)) N5 (by k_mem)
        have nS := news_one (p := (r, listOf [Value.ref a0, Value.ref a1, Value.ref a2, Value.ref a3, Value.ref a4, Value.ref a5, Value.ref a6, Value.ref a7, Value.ref a8].toArray kk)) N5 (by k_mem)
        have nDL := news_one (p := (DL, LCg.lst ys)) N5 (by k_mem)
        have nR : News _ _ _ R1 := fun p hp => N5 p (by repeat (first | exact hp | refine List.mem_cons_of_mem _ ?_))
        have nT : News _ _ _ tups := fun p hp => nR p (by rw [eR1, eR0]; simp [hp])
        have nO : News _ _ _ own := fun p hp => nR p (by rw [eR1, eR0]; simp [hp])
        have nE : News _ _ _ extra := fun p hp => nR p (by rw [eR1]; simp [hp])
        have hownK : ∀ q ∈ own, q.1 ≠ K := fun q hq => hoff q hq _ (by simp)
        have hrT : AllLt r tups := allLt_sub hrR (fun p hp => by rw [eR0]; simp [hp])
        have hOT : ∀ q ∈ extra, AllLt q.1 tups := fun q hq => allLt_sub (hOR q hq) (fun p hp => by rw [eR0]; simp [hp])
        refine' inner_loop6 (K := K) (o := o) (kvs := kvs) (tups := tups) (B := 7 + 9 * i) ((r, _) :: (D, _) :: (DL, _) :: (extra ++ own)) ?hh2 ?hr2 ?F2 ?hx2 ?h21 ?h22 ?h23 ?h24 ?h25 ?h26 (news_cat nK (news_cat nT (news_cat nS (news_cat nD (news_cat nDL (news_cat nE nO)))))) hd hG hl hK (inner_off hrT hOT hDK hDLD hK hoff) (fun j t2 m2 o2 kvs2 tups2 h2 tk2 own2 hj hoff2 hd2 hG2 hl2 hK2 ho2 F6 N6 => ?turn2) (fun m2 o2 kvs2 tups2 h2 tk2 hd2 hG2 hl2 hK2 ho2 F6 N6 => ?done2)
        case hh2 => rfl
        case hr2 => assumption
        case F2 => assumption
        case hx2 => rfl
        case h21 => rfl
        case h22 => rfl
        case h23 => rfl
        case h24 => rfl
        case h25 => rfl
        case h26 => rfl
        case' turn2 =>
          obtain ⟨a, na, ta, ua, k, p, hit, hmem, W⟩ := hM j hj
          obtain ⟨R2, eR2, N7, hoffR2⟩ := inner_start N6 hmem hK2 hKr hDK hDLD hKe hownK hoff2
          clear N6
          have hKa : @LT.lt Nat _ K a := hKe _ hmem
          have hL9 := W.looks
          have hP9 := W.pay
          have hT9 := W.tag
          have hV9 := W.val
        case' done2 =>
          obtain ⟨R3, eR3, N8⟩ := inner_after N6 m5 m7 m8
        (all_goals try k_fold))
  k_with "my IfExp" =>
    (with_reducible show wpAny _ _ (PySem.eval (PySem.Expr.IfExp (PySem.Expr.Compare (PySem.Expr.Name (Str.ofString "turn") _) _ _ _) _ _ _) _) _ _ _)
    fail_if_success (rename MyMark => hm9)
    k_dflt (refine' any_int (by k_asm) (by k_asm) (fun hMy => ?_) (fun z tz h tk F3 N3 => ?_))
    (all_goals try k_fold)
  k_with "my and" =>
    (with_reducible show wpAny _ _ (PySem.eval (PySem.Expr.BoolOp _ (PySem.Expr.Compare (PySem.Expr.Name (Str.ofString "place") _) _ _ _ :: _) _) _) _ _ _)
    fail_if_success (rename MyMark => hm9)
    k_dflt (refine' any_bool (decide ((j : Int) ≠ 5 ∧ (j : Int) ≠ 6)) (by k_asm) (by k_asm) (fun hMy => ?_) (fun h tk F3 N3 => ?_))
    (all_goals try k_fold)
  k_with "my made" =>
    intro r its kk extra h tk F4 N4 hO hr hT0
    have hM := made_get hT0 (by omega) (by omega) (by omega) (by omega)
    obtain ⟨⟨e1, e2⟩, ⟨e3, e4⟩, e5, e6⟩ := made_facts hT0 (by omega) (by omega) (by omega) (by omega)
    have hT := hT0
    unfold madeL at hT
    obtain ⟨v0, i0, rfl, ⟨a0, n0, x0, y0, rfl, m0⟩, g0⟩ := tups_cons hT
    obtain ⟨v1, i1, rfl, ⟨a1, n1, x1, y1, rfl, m1⟩, g1⟩ := tups_cons g0
    obtain ⟨v2, i2, rfl, ⟨a2, n2, x2, y2, rfl, m2⟩, g2⟩ := tups_cons g1
    obtain ⟨v3, i3, rfl, ⟨a3, n3, x3, y3, rfl, m3⟩, g3⟩ := tups_cons g2
    obtain ⟨v4, i4, rfl, ⟨a4, n4, x4, y4, rfl, m4⟩, g4⟩ := tups_cons g3
    obtain ⟨v5, i5, rfl, ⟨a5, n5, x5, y5, rfl, m5⟩, g5⟩ := tups_cons g4
    obtain ⟨v6, i6, rfl, ⟨a6, n6, x6, y6, rfl, m6⟩, g6⟩ := tups_cons g5
    obtain ⟨v7, i7, rfl, ⟨a7, n7, x7, y7, rfl, m7⟩, g7⟩ := tups_cons g6
    obtain ⟨v8, i8, rfl, ⟨a8, n8, x8, y8, rfl, m8⟩, g8⟩ := tups_cons g7
    obtain rfl := tups_nil g8
    have hKr : @LT.lt Nat _ K r := ktn_ltOf hr (K, _) (by k_mem)
    have hKe : ∀ q ∈ extra, K < q.1 := fun q hq => ktn_ltOf (hO q hq) (K, _) (by k_mem)
    have hrR : AllLt r R0 := allLt_sub hr (by intro p hp; repeat (first | exact hp | refine List.mem_cons_of_mem _ ?_))
    have hOR : ∀ q ∈ extra, AllLt q.1 R0 := fun q hq => allLt_sub (hO q hq) (by intro p hp; repeat (first | exact hp | refine List.mem_cons_of_mem _ ?_))
    replace N4 := led_tail N4
    simp only [List.cons_append] at N4
    obtain ⟨R1, eR1⟩ : ∃ R, R = R0 ++ extra := ⟨_, rfl⟩
    rw [← eR1] at N4
    clear hO hr hT0 hT g0 g1 g2 g3 g4 g5 g6 g7 g8 m0 m1 m2 m3 m4 m6
    (try k_sweep)
  k_with "my sub" => k_dflt (refine my_item (by k_asm) (by k_mem) (by omega) (by omega) (by assumption) ?_)
  k_with "my get" =>
    k_dflt (refine my_get (by k_asm) (by k_mem) (by assumption) (by assumption) (by k_mem) (fun v hv => good_get hG2 W hv) (by intro q hq; (repeat (refine List.mem_cons_of_mem _ ?_)); rw [eR2]; simp [hq]) hK2 (ktn_ltOf (by assumption) (K, _) (by k_mem)) (fun b9 n9 t9 u9 hKb9 N9 => ?_))
  k_with "my nb" =>
    k_dflt (refine ne_bool_false (by first | rfl | (rw [Bool.eq_iff_iff]; simp only [bne_iff_ne, decide_eq_true_eq, ne_eq]; omega)) ?_)
  k_with "my end" =>
    first
      | refine' inner_end6 (K := K) (o := o2) ?eF ?e1 ?e2 ?e3 ?e4 ?e5 ?e6 ?eN ?eK ?eT ?eR eR2 hoff2 ?eD hG2 W hl2 hK2 ho2 ?eL ?eA
        (case eD => assumption)
        (case eF => k_asm)
        (case eN => k_asm)
        (case e1 => rfl)
        (case e2 => rfl)
        (case e3 => rfl)
        (case e4 => rfl)
        (case e5 => rfl)
        (case e6 => rfl)
        (case eK => k_mem)
        (case eT => k_mem)
        (case eR => (intro q hq; repeat (first | exact hq | refine List.mem_cons_of_mem _ ?_)))
        (case eL => exact ktn_ltOf (by assumption) (K, _) (by k_mem))
        (case eA => exact allLt_sub (by assumption) (by intro p hp; repeat (first | exact hp | refine List.mem_cons_of_mem _ ?_)))
      | refine' outer_end3 (K := K) (D := D) (DL := DL) (o := o) (ys := ys) (c₀ := c) (tc₀ := tc) (tups := tups) (tups' := tups2) ?oF ?o1 ?o2 ?o3 ?oN ?oK ?oD ?oL ?oT ?oO hoff ?oX ho2 hd2 hG2 hl2 ?oz ?oc hK2
        (case oF => k_asm)
        (case oN => k_asm)
        (case o1 => rfl)
        (case o2 => rfl)
        (case o3 => rfl)
        (case oK => k_mem)
        (case oD => k_mem)
        (case oL => k_mem)
        (case oT => (intro q hq; (repeat (refine List.mem_cons_of_mem _ ?_)); rw [eR3]; simp [hq]))
        (case oO => (intro q hq; (repeat (refine List.mem_cons_of_mem _ ?_)); rw [eR3]; simp [hq]))
        (case oX => (intro q hq; simp [hq]))
        (case oz => omega)
        (case oc => omega)
  w_strict (k_go0; (all_goals try k_fold); k_steps)
end
end Mine
theorem PySem.Challenge.cw_nt0160_01_holds : PySem.Challenge.rw_nt0160_01.Holds :=
  Mine.main0
