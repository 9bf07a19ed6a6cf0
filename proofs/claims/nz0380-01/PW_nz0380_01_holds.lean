import PyProof.Rows.All
import Wide.All
import OpenK.AllK
import Wide.FinOn
import Lean
import PySem.Challenge.RW_nz0380_01
open PySem PySem.W PyProof.Rows
set_option Elab.async false
set_option linter.all false

section
open PySem PySem.W PyProof.Rows
namespace Mine
set_option maxRecDepth 100000
set_option maxHeartbeats 8000000
/-- the top's run behind the boot, which the library holds as a lemma -/
theorem left_boot {p q : Program} {loose : List Str} {Xt : Shared → Bool} {α : Type} {Yf : Shared → α} {Ya : World → α} {N : Nat} {g0 : Bool}
    (hb : ∀ w : World, (fencedOpening treeTable p w N).map (fun s => (s.heap, s.gens, s.drawn, s.toks)) = some (boot_heap w.params, Array.mk [], boot_drawn, boot_toks))
    (h : ∀ (w : World) (os : OsState), (topFrom treeTable p w N ⟨boot_heap w.params, Array.mk [], boot_drawn, boot_toks, os⟩).map (fun s => (openSeen q loose (importedModules p.main.body) Xt g0 s, Yf s)) = some (openGood q loose, Ya w)) :
    LeftO p q loose Xt Yf Ya N g0 := fun w => by
  obtain ⟨⟨hh, gs, d, k, os⟩, e, e'⟩ := Option.map_eq_some_iff.mp (hb w)
  obtain ⟨rfl, rfl, rfl, rfl⟩ : hh = boot_heap w.params ∧ gs = Array.mk [] ∧ d = boot_drawn ∧ k = boot_toks := by simpa using e'
  unfold openEnds
  rw [e]
  exact h w os
noncomputable def vw : Program := { PySem.Challenge.pw_nz0380_01 with main := { PySem.Challenge.pw_nz0380_01.main with body := (PySem.Challenge.pw_nz0380_01.main.body.eraseIdx 4).eraseIdx 1 } }
local macro_rules | `(tactic| o_head $H) => do
  let hw := Lean.mkIdent `hw
  let hc := Lean.mkIdent `hc
  `(tactic| refine holds_open (q := vw) (loose := []) (Xt := fun s => xlAt vw [] s && recOk (RowW.records (OpenRow.toRowW (OpenLaw.row PySem.Challenge.rw_nz0380_01))) s) (XP := XL vw []) (Yf := Hook.obs $H) (Ya := Hook.val $H) (YP := Hook.says $H) (N := 2272) (left_boot (boot_open (by kernel_rfl) (by kernel_rfl) (fun _ => by kernel_rfl)) (fun w os => by delta PySem.W.topFrom; rw [PySem.W.Fast.te14082659384304107361, PySem.W.Fast.te14364793385576792824, PySem.W.Fast.te4187177175401517315]; kernel_rfl)) (Hook.of $H) (Hook.keeps $H) (fun s e => xl_of s (Bool.and_eq_true_iff.mp e).1) XL.keeps (by rfl) (by rfl) (by rfl) (fun s e => recFacts_of (Bool.and_eq_true_iff.mp e).2) (by rfl) (by first | assumption | decide +kernel) (by decide +kernel) ⟨rfl, rfl, rfl, rfl, rfl, by decide +kernel⟩ ?$hw ?$hc)
open_top hd for PySem.Challenge.rw_nz0380_01
end Mine
end

local macro_rules | `(tactic| walk_at $s:str) => `(tactic| k_extra $s)

section
open PySem PySem.W PyProof.Rows PySem.Calls
namespace Mine
set_option maxRecDepth 100000
set_option maxHeartbeats 8000000

theorem news_sub {h₀ h : Heap} {L : Addr} {a b : List (Addr × Obj)} (N : News h₀ L h a) (hs : ∀ p ∈ b, p ∈ a) : News h₀ L h b := fun p hp => N p (hs p hp)

/-- what a call leaves of the caller's ledger: what the callee was handed, as it stands now, and all the rest as it stood -/
theorem news_frame {h₀ h g h' : Heap} {L : Addr} {small small' news : List (Addr × Obj)} (N : News h₀ L h news) (gk : ∀ b o, h.get? b = some o → b ∉ small.map (·.1) → g.get? b = some o)
    (keep : ∀ b o, g.get? b = some o → h'.get? b = some o) (N' : News h₀ L h' small') : News h₀ L h' (small' ++ news.filter (fun p => decide (p.1 ∉ small.map (·.1)))) := by
  intro p hp
  rcases List.mem_append.mp hp with hp | hp
  · exact N' p hp
  · obtain ⟨h1, h2⟩ := List.mem_filter.mp hp
    exact ⟨keep _ _ (gk _ _ (N p h1).1 (of_decide_eq_true h2)), (N p h1).2⟩

section
variable {prog : Program} {w : World} {A A₀ : Around} {s : Shared} {K : Frag} {L : Addr} {h₀ base : Heap} {m mg mb : Str → Option Value} {news : List (Addr × Obj)} {p : Program} {loose : List Str} {mean : ExcName → Option Value}

/-- a call of a def with a small ledger: the ground of the callee keeps all that the small ledger does not hold -/
theorem code_defG {env : Env} {outer : List Env} {R : Result → Shared → Prop} {name qual : Str} {params : Arguments} {body : List Stmt} {scope : Scope} {dV kV doc pm cdv ct oc : Value} {an od : Option Addr} {osl : Array (Option Value)} {f : Addr} {args : Args} {binds : List (Str × Value)}
    (B : Below A₀ base outer h₀) (F : Fr h₀ L s.heap m) (X₀ : K.In h₀) (N : News h₀ L s.heap news) (T : Top p loose mean mg mb h₀) (hA : A.frames = some (env :: outer)) (hf : env.frame = some L) (hke : env.scope.kind = .function)
    (ho : K.lookup f = some ⟨oc, od, .func (fnOf name qual params body scope dV kV doc pm an cdv ct), osl⟩) (hcd : codeIn K cdv qual = true) (hroom : A.depth < recursionLimit)
    (hbind : BindsTo s (fnOf name qual params body scope dV kV doc pm an cdv ct) args binds) (hloc : ∀ y ∈ binds, scope.names.lookup y.1 = some .local)
    (h : ∀ g L' h₁, Fr h₀ L g m → Fr g L' h₁ (fun y => binds.reverse.lookup y) → News g L' h₁ news → Below A base (env :: outer) g → K.In g → Top p loose mean mg mb g →
      (∀ b o, s.heap.get? b = some o → b ∉ news.map (·.1) → g.get? b = some o) →
      wpAny (model prog w) (A.deeper (envOf qual scope L' f cdv)) (execs body (envOf qual scope L' f cdv))
        (fun fl s' => LeaveK h₀ L m g R (match fl with | .ret v => v | _ => .none) s')
        (fun e s' => wpAny (model prog w) (A.deeper (envOf qual scope L' f cdv)) (leaving (envOf qual scope L' f cdv) e) (fun _ s'' => R (.error e) s'') (fun e' s'' => R (.error e') s'') s')
        { s with heap := h₁, toks := s.toks + binds.length })
    (hco : scope.isCoroutine = false) (hgen : scope.isGenerator = false) (hk : scope.kind = .function)
    (hcell : ∀ x ∈ scope.names, x.2 ≠ .cell) : codeAny (model prog w) A (.call (.ref f) args) R s := by
  obtain ⟨FG, BG, st, lv⟩ := groundX (R := R) B F N hA hf hke
  refine codeAny_call_def (fd := fnOf name qual params body scope dV kV doc pm an cdv ct) (body := body) (binds := binds) hroom ((X₀.keeps F.keep) _ _ ho) rfl (T.nolimit.keeps F.keep) (codeRec_of (X₀.keeps F.keep) hcd) rfl hbind hcell hloc (fun h₁ hns hk₁ => ?_) hco hgen hk
  exact wpAny_mono (h _ s.heap.objs.size h₁ FG ⟨hns, fun b o e => hk₁ b o (of_hideAll _ e), Nat.le_of_eq (hideAll_size _ _)⟩
    (fun p hp => ⟨hk₁ _ _ (N p hp).1, Nat.ne_of_lt (Heap.lt_size (N p hp).1), hideAll_none _ (List.mem_map_of_mem hp)⟩) BG (X₀.keeps st) (T.keeps st) (fun b o e n => hideAll_get _ e n)) (fun fl s' hl => lv _ _ hl) fun _ _ y => y

/-- the same of a def whose names a comprehension captures -/
theorem code_defCG {env : Env} {outer : List Env} {R : Result → Shared → Prop} {name qual : Str} {params : Arguments} {body : List Stmt} {scope : Scope} {dV kV doc pm cdv ct oc : Value} {an od : Option Addr} {osl : Array (Option Value)} {f : Addr} {args : Args} {binds : List (Str × Value)}
    (B : Below A₀ base outer h₀) (F : Fr h₀ L s.heap m) (X₀ : K.In h₀) (N : News h₀ L s.heap news) (T : Top p loose mean mg mb h₀) (hA : A.frames = some (env :: outer)) (hf : env.frame = some L) (hke : env.scope.kind = .function)
    (ho : K.lookup f = some ⟨oc, od, .func (fnOf name qual params body scope dV kV doc pm an cdv ct), osl⟩) (hcd : codeIn K cdv qual = true) (hroom : A.depth < recursionLimit)
    (hbind : BindsTo s (fnOf name qual params body scope dV kV doc pm an cdv ct) args binds) (hkind : (binds.all fun y => scope.names.lookup y.1 == some .local || scope.names.lookup y.1 == some .cell) = true)
    (hnd : ((cellsFrom 0 scope.names []).map (·.1)).Nodup)
    (h : ∀ g L' h₁ tk cells, Fr h₀ L g m → Fr g L' h₁ (bindL (envOfC qual scope L' f cdv).kindOf binds fun _ => none) → News g L' h₁ (cells ++ news) →
      CellsAre (bindC (envOfC qual scope L' f cdv).kindOf binds fun _ => none) (cellsFrom (L' + 1) scope.names []) cells → Below A base (env :: outer) g → K.In g → Top p loose mean mg mb g → (∀ p ∈ news, p.1 < L') →
      (∀ b o, s.heap.get? b = some o → b ∉ news.map (·.1) → g.get? b = some o) →
      wpAny (model prog w) (A.deeper (envOfC qual scope L' f cdv)) (execs body (envOfC qual scope L' f cdv))
        (fun fl s' => LeaveK h₀ L m g R (match fl with | .ret v => v | _ => .none) s')
        (fun e s' => wpAny (model prog w) (A.deeper (envOfC qual scope L' f cdv)) (leaving (envOfC qual scope L' f cdv) e) (fun _ s'' => R (.error e) s'') (fun e' s'' => R (.error e') s'') s')
        { s with heap := h₁, toks := tk })
    (hco : scope.isCoroutine = false) (hgen : scope.isGenerator = false) (hk : scope.kind = .function) : codeAny (model prog w) A (.call (.ref f) args) R s := by
  obtain ⟨FG, BG, st, lv⟩ := groundX (R := R) B F N hA hf hke
  refine codeAny_call_function (s := s) hroom ((X₀.keeps F.keep) _ _ ho) rfl hco hgen rfl (codeRec_of (X₀.keeps F.keep) hcd) (hbind _ _ _ _ ?_)
  refine wpAny_newFunctionEnv_cells hk (kindsX hkind _) fun env' he s' x => ?_
  subst he
  refine ⟨(T.nolimit.keeps F.keep).keeps x.toInCall.keep, codeAny_func ?_⟩
  obtain ⟨h₁, tk, rfl, _⟩ := x.done
  have hk₁ := x.toInCall.keep
  obtain ⟨cells, NC, Y⟩ := Cl.news (h₀ := s.heap) (Nat.le_refl _) fun n c hm => ⟨x.cell n c (lookup_of_mem_nodup (cellsFrom_names scope.names 0 (s.heap.objs.size + 1) [] [] rfl ▸ hnd) hm), x.above n c hm⟩
  refine wpAny_mono (h _ s.heap.objs.size h₁ tk cells FG ⟨x.toInCall.ns, fun b o e => hk₁ b o (of_hideAll _ e), Nat.le_of_eq (hideAll_size _ _)⟩ (fun p hp => ?_) Y BG (X₀.keeps st) (T.keeps st) (fun p hp => Heap.lt_size (N p hp).1) (fun b o e n => hideAll_get _ e n)) (fun fl s' hl => lv _ _ hl) fun _ _ y => y
  rcases List.mem_append.mp hp with hp | hp
  · refine ⟨(NC p hp).1, (NC p hp).2.1, ?_⟩
    cases q : (hideAll s.heap (news.map (·.1))).get? p.1 with
    | none => rfl
    | some o => have := of_hideAll _ q; rw [(NC p hp).2.2] at this; cases this
  · exact ⟨hk₁ _ _ (N p hp).1, Nat.ne_of_lt (Heap.lt_size (N p hp).1), hideAll_none _ (List.mem_map_of_mem hp)⟩
end
end Mine
end

section
open PySem PySem.W PyProof.Rows
namespace Mine
set_option maxRecDepth 100000
set_option maxHeartbeats 8000000


section
local macro_rules | `(tactic| k_all) => `(tactic| assumption)
local macro_rules | `(tactic| k_mem) => `(tactic| assumption)
local macro_rules | `(tactic| is_list) => `(tactic| exact News.isList (by k_asm) (by k_mem))
theorem law_next_body : ∀ {prog : Program} {w : World} {p : Program} {loose : List Str} {mean : ExcName → Option Value} {mg mb : Str → Option Value}
   (hpr : prog = PySem.Challenge.rw_nz0380_01.row.prog)
   (dp un : Nat) (gd : Option (List Code)) (cn : Str) (cs : Scope) (a : Addr) (ccd : Value) (cl : List (Str × Addr)) (outer : List Env) (A₀ : Around) (base h₀ : Heap) (L : Addr) (m : Str → Option Value) (s : Shared) (Q E : Value → Shared → Prop)
   (fd ca : Addr) (o : Obj) (vs : List Value) (ns : List Int) (n : Nat) (k wide : Int) (t1 t2 : Tok) (rest : List (Addr × Obj))
   (B : Below A₀ base outer h₀) (F : Fr h₀ L s.heap m) (X : (hd.heap_39 w.params).In h₀) (N : News h₀ L s.heap ((fd, o) :: rest)) (T : Top p loose mean mg mb h₀) (hk : cs.kind = .function)
   (hfd : ∀ q ∈ rest, q.1 ≠ fd) (hca : (ca, PySem.W.listOf vs.toArray n) ∈ rest)
   (hd : o.IsDictOf (PySem.strKind prog w) [(Str.ofString "cells", .ref ca), (Str.ofString "spot", .int k t1)])
   (hI : IntsAre vs ns) (hlen : ns.length ≤ 30) (hk0 : 0 ≤ k) (hk1 : k < 1000) (hw0 : 0 < wide) (hw1 : wide < 1000)
   (hdp : dp + 8 < recursionLimit) (hun : un + 100 < cLine)
   (ret : ∀ v t t' o' h' tk', Fr h₀ L h' m → News h₀ L h' ((fd, o') :: rest) → o'.IsDictOf (PySem.strKind prog w) [(Str.ofString "cells", .ref ca), (Str.ofString "spot", .int (k+1) t')] →
     0 ≤ v → v < wide → Q (.int v t) { s with heap := h', toks := tk' }),
   wpAny (model prog w) (ktrTop dp un gd cn cs L a ccd cl outer) (call (.ref 166) [.ref fd, .int wide t2]) Q E s := by
  w_top off
  k_with_none
  k_with "setItem ref str" => (k_here; k_dflt (refine' kda_set (knd := PySem.strKind _ _) (by k_asm) (by k_asm) (by k_updF) (by k_asm) (strKind_is _ _ _ _) (by kob_size) ?_); intro h'zq o'zq F'zq N'zq hd'zq; (try kob_lit); (try dsimp only at N'zq))
  k_fill
  intro prog w p loose mean mg mb hp dp un gd cn cs a ccd cl outer A₀ base h₀ L m s Q E fd ca o vs ns n k wide t1 t2 rest B F X N T hk hfd hca hd hI hlen hk0 hk1 hw0 hw1 hdp hun ret
  refine wpAny_call ?_
  k_dflt ktr_enter
  k_steps

  all_goals exact ret _ _ _ _ _ _ (by assumption) (by assumption) (by assumption) (Int.fmod_nonneg_of_pos _ hw0) (Int.fmod_lt_of_pos _ hw0)
end

theorem law_next_ok {prog : Program} {w : World} {p : Program} {loose : List Str} {mean : ExcName → Option Value} {mg mb : Str → Option Value}
   (hpr : prog = PySem.Challenge.rw_nz0380_01.row.prog)
   {dp un : Nat} {gd : Option (List Code)} {cn : Str} {cs : Scope} {a : Addr} {ccd : Value} {cl : List (Str × Addr)} {outer : List Env} {A₀ : Around} {base h₀ : Heap} {L : Addr} {m : Str → Option Value} {s : Shared} {Q E : Value → Shared → Prop}
   {fd ca : Addr} {o : Obj} {vs : List Value} {ns : List Int} {n : Nat} {k wide : Int} {t1 t2 : Tok} {news : List (Addr × Obj)} {g : Obj → List (Addr × Obj)}
   (B : Below A₀ base outer h₀) (F : Fr h₀ L s.heap m) (X : (hd.heap_39 w.params).In h₀) (N : News h₀ L s.heap news) (T : Top p loose mean mg mb h₀) (hk : cs.kind = .function)
   (U : UpdF fd o news g) (hca : (ca, PySem.W.listOf vs.toArray n) ∈ news)
   (hd : o.IsDictOf (PySem.strKind prog w) [(Str.ofString "cells", .ref ca), (Str.ofString "spot", .int k t1)])
   (hI : IntsAre vs ns) (hlen : ns.length ≤ 30) (hk0 : 0 ≤ k) (hk1 : k < 1000) (hw0 : 0 < wide) (hw1 : wide < 1000)
   (hdp : dp + 8 < recursionLimit) (hun : un + 100 < cLine)
   (ret : ∀ v t t' o' h' tk', Fr h₀ L h' m → News h₀ L h' (g o') → o'.IsDictOf (PySem.strKind prog w) [(Str.ofString "cells", .ref ca), (Str.ofString "spot", .int (k+1) t')] →
     0 ≤ v → v < wide → Q (.int v t) { s with heap := h', toks := tk' }) :
   wpAny (model prog w) (ktrTop dp un gd cn cs L a ccd cl outer) (call (.ref 166) [.ref fd, .int wide t2]) Q E s := by
  obtain ⟨pre, post, rfl, hg, h1, h2⟩ := U.split
  refine law_next_body hpr dp un gd cn cs a ccd cl outer A₀ base h₀ L m s Q E fd ca o vs ns n k wide t1 t2 (pre ++ post) B F X
    (news_sub N (by simp; grind)) T hk (by intro q hq; rcases List.mem_append.mp hq with h | h; exact h1 q h; exact h2 q h) ?_ hd hI hlen hk0 hk1 hw0 hw1 hdp hun
    (fun v t t' o' h' tk' F' N' hd' h3 h4 => ret v t t' o' h' tk' F' (by rw [hg]; exact news_sub N' (by simp; grind)) hd' h3 h4)
  rcases List.mem_append.mp hca with h | h
  · exact List.mem_append_left _ h
  · rcases List.mem_cons.mp h with h | h
    · exfalso
      obtain ⟨es, ep, h5, h6⟩ := hd
      cases h
      simp at h6
    · exact List.mem_append_right _ h
end Mine
end

section
open PySem PySem.W PyProof.Rows
namespace Mine
set_option maxRecDepth 100000
set_option maxHeartbeats 8000000

abbrev cDict (w : World) (ck cp cn : Addr) (t1 t2 t3 : Tok) : Obj :=
  dictOf [⟨PyData.keyHash w.params (Str.ofString "kinds"), .str (Str.ofString "kinds") t1, .ref ck⟩,
    ⟨PyData.keyHash w.params (Str.ofString "parts_now"), .str (Str.ofString "parts_now") t2, .ref cp⟩,
    ⟨PyData.keyHash w.params (Str.ofString "known"), .str (Str.ofString "known") t3, .ref cn⟩] 3

section
local macro_rules | `(tactic| k_all) => `(tactic| assumption)
local macro_rules | `(tactic| k_mem) => `(tactic| assumption)
local macro_rules | `(tactic| size_fits) => `(tactic| ((try simp only [PySem.sizeLine_eq, List.size_toArray, Array.size_push, List.length_append, List.length_cons, List.length_nil]); omega))
local macro_rules | `(tactic| is_list) => `(tactic| exact News.isList (by k_asm) (by k_mem))
theorem new_gate_body : ∀ {prog : Program} {w : World} {p : Program} {loose : List Str} {mean : ExcName → Option Value} {mg mb : Str → Option Value}
   (hpr : prog = PySem.Challenge.rw_nz0380_01.row.prog)
   (dp un : Nat) (gd : Option (List Code)) (cn : Str) (cs : Scope) (a : Addr) (ccd : Value) (cl : List (Str × Addr)) (outer : List Env) (A₀ : Around) (base h₀ : Heap) (L : Addr) (m : Str → Option Value) (s : Shared) (Q E : Value → Shared → Prop)
   (cx cd ck cp ckn : Nat) (t1 t2 t3 : Tok) (kv pv : Array Value) (n1 n2 : Nat) (kind parts : Value) (rest : List (Addr × Obj))
   (B : Below A₀ base outer h₀) (F : Fr h₀ L s.heap m) (X : (hd.heap_39 w.params).In h₀) (N : News h₀ L s.heap ((ck, PySem.W.listOf kv n1) :: (cp, PySem.W.listOf pv n2) :: rest)) (T : Top p loose mean mg mb h₀) (hk : cs.kind = .function)
   (h1 : ∀ q ∈ rest, q.1 ≠ ck) (h2 : ∀ q ∈ rest, q.1 ≠ cp) (h3 : ck ≠ cp) (h4 : (cx, instObj 129 cd) ∈ rest) (h5 : (cd, cDict w ck cp ckn t1 t2 t3) ∈ rest)
   (hz1 : kv.size ≤ 10000) (hz2 : pv.size ≤ 10000)
   (hdp : dp + 8 < recursionLimit) (hun : un + 100 < cLine)
   (ret : ∀ t h' tk', Fr h₀ L h' m → News h₀ L h' ((ck, PySem.W.listOf (kv.push kind) (n1+1)) :: (cp, PySem.W.listOf (pv.push parts) (n2+1)) :: rest) → Q (.int kv.size t) { s with heap := h', toks := tk' }),
   wpAny (model prog w) (ktrTop dp un gd cn cs L a ccd cl outer) (call (.ref 63) [.ref cx, kind, parts]) Q E s := by
  w_top off
  k_with_none
  k_with "call builtin:len" => (k_here; (with_reducible show wpAny _ _ (call (Value.builtin "len") [Value.ref _]) _ _ _); k_dflt (refine' kun_lenL (by exact News.isList (by k_asm) (by k_mem)) (by exact rfl) (by ((simp only [Array.size_push]); omega)) ?_; k_whole))
  k_fill
  intro prog w p loose mean mg mb hp dp un gd cn cs a ccd cl outer A₀ base h₀ L m s Q E cx cd ck cp ckn t1 t2 t3 kv pv n1 n2 kind parts rest B F X N T hk h1 h2 h3 h4 h5 hz1 hz2 hdp hun ret
  refine wpAny_call ?_
  k_dflt ktr_enter
  k_steps
  rw [show (((kv.push kind).size : Nat) : Int) - 1 = (kv.size : Int) by simp]
  exact ret _ _ _ (by assumption) (by assumption)
end

theorem new_gate_ok {prog : Program} {w : World} {p : Program} {loose : List Str} {mean : ExcName → Option Value} {mg mb : Str → Option Value}
   (hpr : prog = PySem.Challenge.rw_nz0380_01.row.prog)
   {dp un : Nat} {gd : Option (List Code)} {cn : Str} {cs : Scope} {a : Addr} {ccd : Value} {cl : List (Str × Addr)} {outer : List Env} {A₀ : Around} {base h₀ : Heap} {L : Addr} {m : Str → Option Value} {s : Shared} {Q E : Value → Shared → Prop}
   {cx cd ck cp ckn : Nat} {t1 t2 t3 : Tok} {kv pv : Array Value} {n1 n2 : Nat} {kind parts : Value} {news : List (Addr × Obj)} {g1 : Obj → List (Addr × Obj)} {g2 : Obj → Obj → List (Addr × Obj)}
   (B : Below A₀ base outer h₀) (F : Fr h₀ L s.heap m) (X : (hd.heap_39 w.params).In h₀) (N : News h₀ L s.heap news) (T : Top p loose mean mg mb h₀) (hk : cs.kind = .function)
   (h4 : (cx, instObj 129 cd) ∈ news) (h5 : (cd, cDict w ck cp ckn t1 t2 t3) ∈ news)
   (U1 : UpdF ck (PySem.W.listOf kv n1) news g1) (U2 : ∀ o', UpdF cp (PySem.W.listOf pv n2) (g1 o') (g2 o')) (hne : ck ≠ cp)
   (hz1 : kv.size ≤ 10000) (hz2 : pv.size ≤ 10000)
   (hdp : dp + 8 < recursionLimit) (hun : un + 100 < cLine)
   (ret : ∀ t h' tk', Fr h₀ L h' m → News h₀ L h' (g2 (PySem.W.listOf (kv.push kind) (n1+1)) (PySem.W.listOf (pv.push parts) (n2+1))) → Q (.int kv.size t) { s with heap := h', toks := tk' }) :
   wpAny (model prog w) (ktrTop dp un gd cn cs L a ccd cl outer) (call (.ref 63) [.ref cx, kind, parts]) Q E s := by
  obtain ⟨pre, post, rfl, hg, h1, h2⟩ := U1.split
  let rest := (pre ++ post).filter fun p => p.1 ≠ cp
  have hcp : (cp, PySem.W.listOf pv n2) ∈ pre ++ post := by
    obtain ⟨pre', post', e1, e2, e3, e4⟩ := (U2 (PySem.W.listOf kv n1)).split
    rw [hg] at e1
    have : (cp, PySem.W.listOf pv n2) ∈ pre ++ (ck, PySem.W.listOf kv n1) :: post := by rw [e1]; simp
    simp only [List.mem_append, List.mem_cons, Prod.mk.injEq] at this ⊢
    rcases this with h | ⟨h, _⟩ | h
    · exact .inl h
    · exact absurd h.symm hne
    · exact .inr h
  refine new_gate_body hpr dp un gd cn cs a ccd cl outer A₀ base h₀ L m s Q E cx cd ck cp ckn t1 t2 t3 kv pv n1 n2 kind parts rest B F X
    (news_sub N ?_) T hk ?_ ?_ hne ?_ ?_ hz1 hz2 hdp hun (fun t h' tk' F' N' => ret t h' tk' F' ?_)
  · intro p hp
    simp only [List.mem_cons, List.mem_append, rest, List.mem_filter] at hp ⊢
    rcases hp with rfl | rfl | ⟨h | h, _⟩
    · exact .inr (.inl rfl)
    · rcases List.mem_append.mp hcp with h | h
      · exact .inl h
      · exact .inr (.inr h)
    · exact .inl h
    · exact .inr (.inr h)
  · intro q hq
    rcases List.mem_append.mp (List.mem_filter.mp hq).1 with h | h
    · exact h1 q h
    · exact h2 q h
  · intro q hq
    have := (List.mem_filter.mp hq).2
    simpa using this
  · have hx : cx ≠ cp := fun e => by
      subst e
      have a1 := (N _ h4).1
      have a2 := (N (cx, PySem.W.listOf pv n2) (by simp only [List.mem_append, List.mem_cons] at hcp ⊢; rcases hcp with h | h; exact .inl h; exact .inr (.inr h))).1
      rw [a1] at a2; simp at a2
    have : (cx, instObj 129 cd) ∈ pre ++ post := by
      simp only [List.mem_append, List.mem_cons, Prod.mk.injEq] at h4 ⊢
      rcases h4 with h | ⟨_, h⟩ | h
      · exact .inl h
      · simp at h
      · exact .inr h
    exact List.mem_filter.mpr ⟨this, by simpa using hx⟩
  · have hx : cd ≠ cp := fun e => by
      subst e
      have a1 := (N _ h5).1
      have a2 := (N (cd, PySem.W.listOf pv n2) (by simp only [List.mem_append, List.mem_cons] at hcp ⊢; rcases hcp with h | h; exact .inl h; exact .inr (.inr h))).1
      rw [a1] at a2; simp at a2
    have : (cd, cDict w ck cp ckn t1 t2 t3) ∈ pre ++ post := by
      simp only [List.mem_append, List.mem_cons, Prod.mk.injEq] at h5 ⊢
      rcases h5 with h | ⟨_, h⟩ | h
      · exact .inl h
      · simp at h
      · exact .inr h
    exact List.mem_filter.mpr ⟨this, by simpa using hx⟩
  · obtain ⟨pre', post', e1, e2, e3, e4⟩ := (U2 (PySem.W.listOf (kv.push kind) (n1+1))).split
    rw [e2]
    rw [hg] at e1
    refine news_sub N' fun q hq => ?_
    have hq' : q = (cp, PySem.W.listOf (pv.push parts) (n2+1)) ∨ (q ∈ pre' ++ (cp, PySem.W.listOf pv n2) :: post' ∧ q.1 ≠ cp) := by
      simp only [List.mem_append, List.mem_cons] at hq ⊢
      rcases hq with h | h | h
      · exact .inr ⟨.inl h, e3 q h⟩
      · exact .inl h
      · exact .inr ⟨.inr (.inr h), e4 q h⟩
    rcases hq' with rfl | ⟨hq', hne'⟩
    · simp
    · rw [← e1] at hq'
      simp only [List.mem_append, List.mem_cons] at hq'
      rcases hq' with h | rfl | h
      · exact List.mem_cons_of_mem _ (List.mem_cons_of_mem _ (List.mem_filter.mpr ⟨List.mem_append_left _ h, by simpa using hne'⟩))
      · simp
      · exact List.mem_cons_of_mem _ (List.mem_cons_of_mem _ (List.mem_filter.mpr ⟨List.mem_append_right _ h, by simpa using hne'⟩))
end Mine
end

section
open PySem PySem.W PyProof.Rows PySem.Calls
namespace Mine
set_option maxRecDepth 100000
set_option maxHeartbeats 8000000

abbrev tupOf (its : Array Value) : Obj := { cls := .type "tuple", data := .seq its }
abbrev KT (prog : Program) (w : World) : HeapKind prog w (List Int) := tupleKind (PySem.intKind prog w)
def KnownObj (prog : Program) (w : World) (ko : Obj) (xs : List (List Int × Addr × Value)) : Prop :=
  ∃ es ep, ko.ExactDict ∧ ko.data = .dict es ep ∧ es.toList = xs.map (entryOfKey (KT prog w)) ∧ (xs.map (·.1)).Nodup
def KeyIn (prog : Program) (w : World) (g : Heap) (news : List (Addr × Obj)) (x : List Int × Addr × Value) : Prop :=
  IsTupleKey (PySem.intKind prog w) g x.1 x.2.1 ∨ ∃ its, (x.2.1, tupOf its) ∈ news ∧ ItemsAre (PySem.intKind prog w) x.1 its.toList

section
variable {prog : Program} {w : World} {A : Around} {E : Value → Shared → Prop} {s : Shared} {g : Heap} {L d tp : Addr} {m : Str → Option Value} {news : List (Addr × Obj)} {ko : Obj} {xs : List (List Int × Addr × Value)} {ks : List Int} {its : Array Value}

theorem itemsAre_ints {vs : List Value} {ns : List Int} (h : IntsAre vs ns) : ItemsAre (PySem.intKind prog w) ns vs := by
  induction h with
  | nil => exact .nil
  | cons n t _ ih => exact .cons (intKind_is prog w n t) ih

theorem ko_dict (F : Fr g L s.heap m) (N : News g L s.heap news) (hm : (d, ko) ∈ news) (KO : KnownObj prog w ko xs) (KB : ∀ x ∈ xs, KeyIn prog w g news x) : s.heap.DictOfH (KT prog w) d xs := by
  obtain ⟨es, ep, h1, h2, h3, h4⟩ := KO
  refine ⟨ko, es, ep, (N _ hm).1, h1, h2, h3, fun x hx => ?_, h4⟩
  rcases KB x hx with ⟨o, items, n, ho, hr⟩ | ⟨its, hi, hI⟩
  · exact ⟨o, items, n, F.keep _ _ ho, hr⟩
  · exact ⟨_, its, 0, (N _ hi).1, rfl, rfl, hI⟩

theorem ko_key (N : News g L s.heap news) (hk : (tp, tupOf its) ∈ news) (hi : IntsAre its.toList ks) : (KT prog w).is s.heap ks tp :=
  ⟨_, its, 0, (N _ hk).1, rfl, rfl, itemsAre_ints hi⟩

theorem ko_notin {Q : Value → Shared → Prop} (hu : A.units + 1 < cLine) (F : Fr g L s.heap m) (N : News g L s.heap news) (hm : (d, ko) ∈ news) (KO : KnownObj prog w ko xs) (KB : ∀ x ∈ xs, KeyIn prog w g news x) (lo : (d == sysModules) = false)
    (hk : (tp, tupOf its) ∈ news) (hi : IntsAre its.toList ks)
    (h0 : ∀ tk, atKey xs ks = none → Q (.bool true) { s with toks := tk }) (h1 : ∀ tk pr, atKey xs ks = some pr → Q (.bool false) { s with toks := tk }) :
    wpAny (model prog w) A (compareOp .NotIn (.ref tp) (.ref d)) Q E s := by
  refine wpAny_notIn_heap (knd := KT prog w) hu (ko_key N hk hi) lo (ko_dict F N hm KO KB) ?_
  cases e : atKey xs ks with
  | none => exact h0 _ e
  | some pr => exact h1 _ pr e

theorem ko_item {value slice : PySem.Expr} {Q : Value → Shared → Prop} {pr : Addr × Value} (hu : A.units + 1 < cLine) (F : Fr g L s.heap m) (N : News g L s.heap news) (hm : (d, ko) ∈ news) (KO : KnownObj prog w ko xs) (KB : ∀ x ∈ xs, KeyIn prog w g news x)
    (hk : (tp, tupOf its) ∈ news) (hi : IntsAre its.toList ks) (hp : atKey xs ks = some pr) (h : ∀ tk, Q pr.2 { s with toks := tk })
    (hs : subscripted slice false (.ref d) (.ref tp) = operate [.ref d, .ref tp] (getItem (.ref d) (.ref tp)) := by with_unfolding_all rfl) (hg : ∀ r, letTemporaryGo value (.ref d) r = pure () := by intro _; with_unfolding_all rfl) :
    wpAny (model prog w) A (subscriptTail value slice (.ref d) (.ref tp)) Q E s :=
  have D := ko_dict F N hm KO KB
  subscriptTail_builtin D.typeIs slot_dict_getitem.lookup (wpAny_getItem_heap (knd := KT prog w) hu (ko_key N hk hi) D hp (h _)) hs hg

theorem ko_set {v : Value} {Q : Unit → Shared → Prop} {G : Obj → List (Addr × Obj)} (hu : A.units + 1 < cLine) (F : Fr g L s.heap m) (N : News g L s.heap news) (U : UpdF d ko news G) (KO : KnownObj prog w ko xs) (KB : ∀ x ∈ xs, KeyIn prog w g news x)
    (hk : (tp, tupOf its) ∈ news) (hi : IntsAre its.toList ks) (hn : atKey xs ks = none) (hz : xs.length ≤ 100000)
    (h : ∀ h' ko' tk, Fr g L h' m → News g L h' (G ko') → KnownObj prog w ko' (xs ++ [(ks, tp, v)]) → Q () { s with heap := h', toks := tk }) :
    wpAny (model prog w) A (setItem (.ref d) (.ref tp) v) Q E s := by
  obtain ⟨pre, post, rfl, hg, a, b⟩ := U.split
  have hm : (d, ko) ∈ pre ++ (d, ko) :: post := List.mem_append_right _ (.head _)
  have hN := N (d, ko) hm
  refine wpAny_setItem_heap (knd := KT prog w) hu (ko_key N hk hi) (ko_dict F N hm KO KB) (fun h' D hs => ?_) (by rw [sizeLine_eq]; omega)
  rw [storedH_new hn] at D
  obtain ⟨o', es, ep, ho', h1, h2, h3, _, h4⟩ := D
  exact h h' o' _ (F.change hs hN.2.1 hN.2.2) (hg o' ▸ N.setIn a b hs ho') ⟨es, ep, h1, h2, h3, h4⟩

theorem kb_base (KB : ∀ x ∈ xs, IsTupleKey (PySem.intKind prog w) g x.1 x.2.1) : ∀ x ∈ xs, KeyIn prog w g news x := fun x hx => .inl (KB x hx)
theorem kb_more {v : Value} (KB : ∀ x ∈ xs, IsTupleKey (PySem.intKind prog w) g x.1 x.2.1) (hk : (tp, tupOf its) ∈ news) (hi : IntsAre its.toList ks) : ∀ x ∈ xs ++ [(ks, tp, v)], KeyIn prog w g news x := by
  intro x hx
  rcases List.mem_append.mp hx with hx | hx
  · exact .inl (KB x hx)
  · rw [List.mem_singleton.mp hx]; exact .inr ⟨its, hk, itemsAre_ints hi⟩
theorem atKey_last {v : Value} (hn : atKey xs ks = none) : atKey (xs ++ [(ks, tp, v)]) ks = some (tp, v) := by
  unfold atKey at hn ⊢
  rw [List.find?_append]
  cases e : xs.find? fun x => decide (x.1 = ks) with
  | some y => rw [e] at hn; cases hn
  | none => simp
end

theorem ints_perm0 {v : List Value} {n : List Int} (h : IntsAre v n) (p : n.Perm []) : v = [] := by
  have := p.eq_nil; subst this; cases h; rfl
theorem ints_perm1 {v : List Value} {n : List Int} {x : Int} (h : IntsAre v n) (p : n.Perm [x]) : ∃ t, v = [.int x t] := by
  have := p.symm.singleton_eq; subst this
  cases h with | cons n t h => cases h; exact ⟨t, rfl⟩
theorem ints_perm2 {v : List Value} {n : List Int} {x y : Int} (h : IntsAre v n) (p : n.Perm [x, y]) : ∃ a b ta tb, v = [.int a ta, .int b tb] ∧ ((a = x ∧ b = y) ∨ (a = y ∧ b = x)) := by
  have hl := p.length_eq
  match n, h, p, hl with
  | [a, b], h, p, _ =>
    cases h with | cons _ ta h => cases h with | cons _ tb h => cases h with
    | nil =>
    refine ⟨a, b, ta, tb, rfl, ?_⟩
    have ha := p.subset (List.mem_cons_self (a := a) (l := [b]))
    have hc := p.count_eq a
    have hd := p.count_eq b
    simp only [List.count_cons, List.count_nil, beq_iff_eq] at hc hd
    simp only [List.mem_cons, List.not_mem_nil, or_false] at ha
    rcases ha with rfl | rfl
    · left; refine ⟨rfl, ?_⟩
      by_cases e : b = y
      · exact e
      · exfalso; have e' : y ≠ b := fun q => e q.symm; simp [e'] at hd
    · right; refine ⟨rfl, ?_⟩
      by_cases e : b = x
      · exact e
      · exfalso; have e' : x ≠ b := fun q => e q.symm; simp [e'] at hd
end Mine
end

section
open PySem PySem.W PyProof.Rows PySem.Calls
namespace Mine
set_option maxRecDepth 100000
set_option maxHeartbeats 8000000
abbrev Pick (p q x y : Int) : Prop := ((p = x ∧ q = y) ∨ (p = y ∧ q = x)) ∧ x ≠ -1 ∧ y ≠ -1 ∧ x ≠ 1 ∧ y ≠ 1 ∧ y ≠ x ∧ ¬ (-y = x)
abbrev AllRes (x y v : Int) : Prop := (v = -1 ∧ (x = -1 ∨ y = -1 ∨ -y = x)) ∨ (v = x ∧ (y = 1 ∨ y = x)) ∨ (v = y ∧ x = 1)

theorem two_keys {prog : Program} {w : World} {o : Obj} {x y : Int} {P : Prop}
   (h1 : o.IsDictOf (PySem.intKind prog w) [(x, Value.bool true)] → PyProof.V.FlatPairs PyData.int [(x, Value.bool true)] [(PyData.int x, PyData.bool true)] → ¬ (-y = x) → y = x → P)
   (h2 : o.IsDictOf (PySem.intKind prog w) [(x, Value.bool true), (y, Value.bool true)] → PyProof.V.FlatPairs PyData.int [(x, Value.bool true), (y, Value.bool true)] [(PyData.int x, PyData.bool true), (PyData.int y, PyData.bool true)] → ¬ (-y = x) → y ≠ x → P) :
   o.IsDictOf (PySem.intKind prog w) (stored (stored [] x (Value.bool true)) y (Value.bool true)) → PyProof.V.FlatPairs PyData.int (stored (stored [] x (Value.bool true)) y (Value.bool true)) (PyProof.V.putD (PyData.int y) (PyData.bool true) (PyProof.V.putD (PyData.int x) (PyData.bool true) [])) → ¬ (-y = x) → P := by
  intro a b c
  by_cases e : y = x
  · subst e
    refine h1 ?_ ?_ c rfl
    · simpa [stored] using a
    · have : PyProof.V.putD (PyData.int y) (PyData.bool true) (PyProof.V.putD (PyData.int y) (PyData.bool true) []) = [(PyData.int y, PyData.bool true)] := by
        simp [PyProof.V.putD, Spec.same]
      rw [this] at b
      simpa [stored] using b
  · have e' : x ≠ y := fun q => e q.symm
    refine h2 ?_ ?_ c e
    · simpa [stored, e, e'] using a
    · have : PyProof.V.putD (PyData.int y) (PyData.bool true) (PyProof.V.putD (PyData.int x) (PyData.bool true) []) = [(PyData.int x, PyData.bool true), (PyData.int y, PyData.bool true)] := by
        simp [PyProof.V.putD, Spec.same, e']
      rw [this] at b
      simpa [stored, e, e'] using b

section
local macro_rules | `(tactic| k_ne) => `(tactic| first | assumption | exact Ne.symm (by assumption) | exact Nat.ne_of_lt (by assumption) | exact Nat.ne_of_lt (And.left (by assumption)) | exact Nat.ne_of_lt (And.left (And.right (by assumption))) | exact Nat.ne_of_lt (And.right (by assumption)) | exact Nat.ne_of_lt (And.left (And.right (And.right (by assumption)))) | exact Nat.ne_of_lt (And.right (And.right (by assumption))) | exact Nat.ne_of_lt (And.left (And.right (And.right (And.right (by assumption))))) | exact Nat.ne_of_gt (by assumption) | exact Nat.ne_of_gt (And.left (by assumption)) | exact Nat.ne_of_gt (And.left (And.right (by assumption))) | exact Nat.ne_of_gt (And.right (by assumption)) | exact Nat.ne_of_gt (And.left (And.right (And.right (by assumption)))) | exact Nat.ne_of_gt (And.right (And.right (by assumption))) | exact Nat.ne_of_gt (And.left (And.right (And.right (And.right (by assumption))))))
local macro_rules | `(tactic| size_fits) => `(tactic| ((try simp only [PySem.sizeLine_eq, List.size_toArray, Array.size_push, List.length_append, List.length_cons, List.length_nil]); omega))
-- two keys: are they one?

theorem all_of_body : ∀ {prog : Program} {w : World} {p : Program} {loose : List Str} {mean : ExcName → Option Value} {mg mb : Str → Option Value}
   (hpr : prog = PySem.Challenge.rw_nz0380_01.row.prog)
   {dp un : Nat} {gd : Option (List Code)} {cn : Str} {cs : Scope} {a : Addr} {ccd : Value} {cl : List (Str × Addr)} {outer : List Env} {A₀ : Around} {base h₀ : Heap} {L : Addr} {m : Str → Option Value} {s : Shared} {Q E : Value → Shared → Prop}
   {cx cd ck cp ckn t : Nat} {t1 t2 t3 : Tok} {kv pv : Array Value} {n1 n2 : Nat} {ko : Obj} {x y : Int} {tx ty : Tok} {xs : List (List Int × Addr × Value)}
   (B : Below A₀ base outer h₀) (F : Fr h₀ L s.heap m) (X : (hd.heap_39 w.params).In h₀) (T : Top p loose mean mg mb h₀) (hk : cs.kind = .function) (N : News h₀ L s.heap [(ck, PySem.W.listOf kv n1), (cp, PySem.W.listOf pv n2), (ckn, ko), (cx, instObj 129 cd), (cd, cDict w ck cp ckn t1 t2 t3), (t, tupOf #[.int x tx, .int y ty])])
   (h12 : ck ≠ cp) (h13 : ck ≠ ckn) (h23 : cp ≠ ckn) (hcd1 : cd ≠ ck) (hcd2 : cd ≠ cp) (hcd3 : cd ≠ ckn) (hcx1 : cx ≠ ck) (hcx2 : cx ≠ cp) (hcx3 : cx ≠ ckn) (ht1 : t ≠ ck) (ht2 : t ≠ cp) (ht3 : t ≠ ckn)
   (hz1 : kv.size ≤ 10000) (hz2 : pv.size ≤ 10000) (hz3 : xs.length ≤ 100000)
   (KO : KnownObj prog w ko xs) (KB0 : ∀ x ∈ xs, IsTupleKey (PySem.intKind prog w) s.heap x.1 x.2.1 ∧ x.2.1 ∉ [ck, cp, ckn, cx, cd, t]) (lo : (ckn == sysModules) = false)
   (hdp : dp + 50 < recursionLimit) (hun : un + 400 < cLine)
   (retC : ∀ v tv h' tk', AllRes x y v → Fr h₀ L h' m → News h₀ L h' [(ck, PySem.W.listOf kv n1), (cp, PySem.W.listOf pv n2), (ckn, ko), (cx, instObj 129 cd), (cd, cDict w ck cp ckn t1 t2 t3), (t, tupOf #[.int x tx, .int y ty])] →
      (∀ b o, s.heap.get? b = some o → b ∉ [ck, cp, ckn, cx, cd, t] → h'.get? b = some o) → Q (.int v tv) { s with heap := h', toks := tk' })
   (retK : ∀ p q pr h' tk', Pick p q x y → atKey xs [p, q] = some pr → Fr h₀ L h' m → News h₀ L h' [(ck, PySem.W.listOf kv n1), (cp, PySem.W.listOf pv n2), (ckn, ko), (cx, instObj 129 cd), (cd, cDict w ck cp ckn t1 t2 t3), (t, tupOf #[.int x tx, .int y ty])] →
      (∀ b o, s.heap.get? b = some o → b ∉ [ck, cp, ckn, cx, cd, t] → h'.get? b = some o) → Q pr.2 { s with heap := h', toks := tk' })
   (retN : ∀ p q tp tq ta tb ts ko' h' tk', Pick p q x y → atKey xs [p, q] = none → Fr h₀ L h' m →
      News h₀ L h' [(tp, tupOf #[.int p ta, .int q tb]), (ck, PySem.W.listOf (kv.push (.str (Str.ofString "and") ts)) (n1+1)), (cp, PySem.W.listOf (pv.push (.ref tp)) (n2+1)), (ckn, ko'), (cx, instObj 129 cd), (cd, cDict w ck cp ckn t1 t2 t3), (t, tupOf #[.int x tx, .int y ty])] →
      KnownObj prog w ko' (xs ++ [([p, q], tp, .int kv.size tq)]) →
      (∀ b o, s.heap.get? b = some o → b ∉ [ck, cp, ckn, cx, cd, t] → h'.get? b = some o) → Q (.int kv.size tq) { s with heap := h', toks := tk' }),
   wpAny (model prog w) (ktrTop dp un gd cn cs L a ccd cl outer) (call (.ref 77) [.ref cx, .ref t]) Q E s := by
  w_top off
  k_with_none
  k_with "call builtin:sorted" => (k_here; (with_reducible rename Obj.IsDictOf _ _ (stored (stored [] _ _) _ _) => hd9zq); (with_reducible rename PyProof.V.FlatPairs _ (stored (stored [] _ _) _ _) _ => hf9zq); (with_reducible rename ¬ (-_ = (_ : Int)) => hn9zq); refine two_keys (fun hd8zq hf8zq hn8zq he8zq => ?_) (fun hd8zq hf8zq hn8zq he8zq => ?_) hd9zq hf9zq hn9zq <;> clear hd9zq hf9zq hn9zq)
  k_with "call type:tuple" => (k_here; (with_reducible rename IntsAre _ _ => hi9zq); (with_reducible rename List.Perm _ _ => hp9zq); first
  | (obtain ⟨t9zq, e9zq⟩ := ints_perm1 hi9zq hp9zq; subst e9zq; clear hi9zq hp9zq)
  | (obtain ⟨a9zq, b9zq, ta9zq, tb9zq, e9zq, hab9zq⟩ := ints_perm2 hi9zq hp9zq; subst e9zq; clear hi9zq hp9zq)
  | (have e9zq := ints_perm0 hi9zq hp9zq; subst e9zq; clear hi9zq hp9zq))
  k_with "compareOp NotIn ref" => (k_here; k_dflt (refine' ko_notin (by ktr_units) (by k_asm) (by k_asm) (by k_mem) (by assumption) (by exact kb_base (by assumption)) (by assumption) (by k_mem) (by l_ints) ?_ ?_); (intro tk9zq hn9zq); (try intro hp9zq))
  k_with "subscriptTail" => (k_here; (with_reducible show wpAny _ _ (subscriptTail _ _ (Value.ref _) (Value.ref _)) _ _ _); k_dflt (refine' ko_item (by ktr_units) (by k_asm) (by k_asm) (by k_mem) (by assumption) (by first | exact kb_base (by assumption) | exact kb_more (by assumption) (by k_mem) (by l_ints)) (by k_mem) (by l_ints) (by first | assumption | exact atKey_last (by assumption)) ?_; k_whole); intro tk9zq)
  k_with "setItem ref" => (k_here; (with_reducible show wpAny _ _ (setItem (Value.ref _) (Value.ref _) _) _ _ _); k_dflt (refine' ko_set (by ktr_units) (by k_asm) (by k_asm) (by k_updF) (by assumption) (by exact kb_base (by assumption)) (by k_mem) (by l_ints) (by assumption) (by assumption) ?_); intro h9zq ko9zq tk9zq F9zq N9zq KO9zq; (try dsimp only at N9zq))
  k_with "call ref" => (k_here; (with_reducible show wpAny _ _ (call (Value.ref 63) _ _) _ _ _); k_dflt (refine' new_gate_ok (by assumption) (by k_asm) (by k_asm) (by k_asm) (by k_asm) (by k_asm) (by exact rfl) (by k_mem) (by k_mem) (by k_updF) (by (intro o9zq; (try dsimp only); k_updF)) (by k_ne) (by assumption) (by assumption) (by ktr_room) (by ktr_units) ?_); intro t9zq h9zq tk9zq F9zq N9zq; (try dsimp only at N9zq))
  k_fill
  intro prog w p loose mean mg mb hp dp un gd cn cs a ccd cl outer A₀ base h₀ L m s Q E cx cd ck cp ckn t t1 t2 t3 kv pv n1 n2 ko x y tx ty xs B F X T hk N h12 h13 h23 hcd1 hcd2 hcd3 hcx1 hcx2 hcx3 ht1 ht2 ht3 hz1 hz2 hz3 KO KB0 lo hdp hun retC retK retN
  refine wpAny_call ?_
  k_dflt (refine' code_defG ?k1 ?k2 ?k3 ?k4 ?k5 ?kA ?kF ?kK ?k6 ?k7 ?k8 ?k9 ?kB ?_ ?c2 ?c3 ?c4 ?c5; (case kA => exact rfl); (case kF => exact rfl); (case kK => first | assumption | exact rfl); (case k1 => k_asm); (case k2 => k_asm); (case k3 => k_asm); (case k4 => exact N); (case k5 => k_asm); (case k6 => k_is); (case k7 => k_is); (case k8 => ktr_room); (case k9 => exact BindsTo.of_eq rfl); (case c5 => decide); (case kB => exact locs rfl); (case c2 => exact rfl); (case c3 => exact rfl); (case c4 => exact rfl); k_whole)
  intro g L' h₁ FG F' N' B' X' T' gk
  try dsimp only
  k_fold
  have KB : ∀ x ∈ xs, IsTupleKey (PySem.intKind prog w) g x.1 x.2.1 := fun x hx => by
    obtain ⟨⟨o, its, n, h1, h2⟩, h3⟩ := KB0 x hx
    exact ⟨o, its, n, gk _ _ h1 (by simpa using h3), h2⟩
  k_steps
  all_goals first
    | (exfalso; (rename (Spec.lookup _ []).isSome = true => a9); simp [Spec.lookup] at a9; done)
    | ((with_reducible rename News h₀ L _ _ => kN9); (with_reducible rename Fr h₀ L _ m => kF9); (with_reducible rename Fr g L' _ _ => kG9)
       first
       | exact retC _ _ _ _ (by omega) kF9 (news_sub kN9 (by intro p hp; repeat (first | exact hp | apply List.mem_cons_of_mem))) (fun b o e n => kG9.keep b o (gk b o e (by simpa using n)))
       | exact retK _ _ _ _ _ ⟨by assumption, by omega⟩ (by assumption) kF9 (news_sub kN9 (by intro p hp; repeat (first | exact hp | apply List.mem_cons_of_mem))) (fun b o e n => kG9.keep b o (gk b o e (by simpa using n)))
       | exact retN _ _ _ _ _ _ _ _ _ _ ⟨by assumption, by omega⟩ (by assumption) kF9 (news_sub kN9 (by intro p hp; rcases List.mem_cons.mp hp with h | h; exact h ▸ List.mem_cons_self ..; exact List.mem_cons_of_mem _ (List.mem_cons_of_mem _ (List.mem_cons_of_mem _ h)))) (by assumption) (fun b o e n => kG9.keep b o (gk b o e (by simpa using n))))
end

end Mine
end

section
open PySem
namespace Mine

/-- a gate: of two parts, an input, the true one, the blank one at place 0 -/
inductive Gate where
  | blank | tru | inp
  | and (p q : Int)

def Gate.kind : Gate → Str
  | .blank => Str.ofString ""
  | .tru => Str.ofString "true"
  | .inp => Str.ofString "input"
  | .and _ _ => Str.ofString "and"
def Gate.parts : Gate → List Int
  | .and p q => [p, q]
  | _ => []

def lit (V : List Bool) (x : Int) : Bool := (V.getD x.natAbs false) == decide (x > 0)
def gv (σ : Nat → Bool) (V : List Bool) (i : Nat) : Gate → Bool
  | .blank => false
  | .tru => true
  | .inp => σ i
  | .and p q => lit V p && lit V q
def vals (σ : Nat → Bool) (gs : List Gate) : List Bool := gs.foldl (fun V g => V ++ [gv σ V V.length g]) []
def Lv (gs : List Gate) (σ : Nat → Bool) (x : Int) : Bool := lit (vals σ gs) x

theorem vals_snoc (σ : Nat → Bool) (gs : List Gate) (g : Gate) : vals σ (gs ++ [g]) = vals σ gs ++ [gv σ (vals σ gs) (vals σ gs).length g] := by
  unfold vals; rw [List.foldl_append]; rfl
theorem snoc_induction {α : Type} {P : List α → Prop} (h0 : P []) (h1 : ∀ l a, P l → P (l ++ [a])) : ∀ l, P l := by
  intro l
  have : ∀ n, ∀ l : List α, l.length = n → P l := by
    intro n
    induction n with
    | zero => intro l h; rw [List.length_eq_zero_iff.mp h]; exact h0
    | succ n ih =>
      intro l h
      have hne : l ≠ [] := by intro e; rw [e] at h; simp at h
      rw [← List.dropLast_concat_getLast hne]
      exact h1 _ _ (ih _ (by rw [List.length_dropLast, h]; rfl))
  exact this _ l rfl
theorem vals_length (σ : Nat → Bool) : ∀ gs : List Gate, (vals σ gs).length = gs.length :=
  snoc_induction rfl fun l a h => by rw [vals_snoc, List.length_append, List.length_append, h]; rfl
theorem vals_prefix (σ : Nat → Bool) (gs : List Gate) : ∀ hs : List Gate, vals σ gs <+: vals σ (gs ++ hs) :=
  snoc_induction (by rw [List.append_nil]; exact List.prefix_rfl) fun l a h => by
    rw [← List.append_assoc, vals_snoc]; exact h.trans (List.prefix_append _ _)
theorem getD_prefix {V W : List Bool} (h : V <+: W) {i : Nat} (hi : i < V.length) : W.getD i false = V.getD i false := by
  obtain ⟨t, rfl⟩ := h
  simp [List.getD, List.getElem?_append_left hi]

def Ok (gs : List Gate) (x : Int) : Prop := x ≠ 0 ∧ x.natAbs < gs.length
structure WF (gs : List Gate) : Prop where
  g0 : gs[0]? = some .blank
  g1 : gs[1]? = some .tru
  up : ∀ i g, 2 ≤ i → gs[i]? = some g → g = .inp ∨ ∃ p q, g = .and p q ∧ p ≠ 0 ∧ q ≠ 0 ∧ p.natAbs < i ∧ q.natAbs < i

theorem Lv_prefix {gs gs' : List Gate} (h : gs <+: gs') (σ : Nat → Bool) {x : Int} (hx : Ok gs x) : Lv gs' σ x = Lv gs σ x := by
  obtain ⟨t, rfl⟩ := h
  unfold Lv lit
  rw [getD_prefix (vals_prefix σ gs t) (by rw [vals_length]; exact hx.2)]
theorem Ok.prefix {gs gs' : List Gate} (h : gs <+: gs') {x : Int} (hx : Ok gs x) : Ok gs' x := ⟨hx.1, Nat.lt_of_lt_of_le hx.2 h.length_le⟩
theorem Ok.neg {gs : List Gate} {x : Int} (hx : Ok gs x) : Ok gs (-x) := ⟨by have := hx.1; omega, by rw [Int.natAbs_neg]; exact hx.2⟩
theorem Lv_neg (gs : List Gate) (σ : Nat → Bool) {x : Int} (hx : x ≠ 0) : Lv gs σ (-x) = !Lv gs σ x := by
  unfold Lv lit
  rw [Int.natAbs_neg]
  by_cases h : x > 0
  · have h' : ¬ (-x > 0) := by omega
    rw [decide_eq_true h, decide_eq_false h']
    cases (vals σ gs).getD x.natAbs false <;> rfl
  · have h' : -x > 0 := by omega
    rw [decide_eq_true h', decide_eq_false h]
    cases (vals σ gs).getD x.natAbs false <;> rfl

/-- the value at place i is the gate's own -/
theorem vals_at (σ : Nat → Bool) {gs : List Gate} {i : Nat} {g : Gate} (h : gs[i]? = some g) : (vals σ gs).getD i false = gv σ (vals σ (gs.take i)) i g := by
  have hi : i < gs.length := (List.getElem?_eq_some_iff.mp h).1
  have e : gs.take i ++ [g] <+: gs := by
    have : gs.take i ++ [g] = gs.take (i + 1) := by
      rw [List.take_add_one, h]; rfl
    rw [this]; exact List.take_prefix _ _
  obtain ⟨t, ht⟩ := e
  have hl : (gs.take i).length = i := by rw [List.length_take]; omega
  have p := vals_prefix σ (gs.take i ++ [g]) t
  rw [ht] at p
  rw [getD_prefix p (by rw [vals_length, List.length_append, hl]; simp), vals_snoc, vals_length, hl]
  simp [List.getD, vals_length, hl]
theorem lit_take (σ : Nat → Bool) (gs : List Gate) {i : Nat} {x : Int} (hi : i ≤ gs.length) (hx : x.natAbs < i) : lit (vals σ (gs.take i)) x = Lv gs σ x := by
  have p := vals_prefix σ (gs.take i) (gs.drop i)
  rw [List.take_append_drop] at p
  unfold Lv lit
  rw [getD_prefix p (by rw [vals_length, List.length_take]; omega)]
theorem Lv_one {gs : List Gate} (w : WF gs) (σ : Nat → Bool) : Lv gs σ 1 = true := by
  unfold Lv lit
  rw [show Int.natAbs 1 = 1 from rfl, vals_at σ w.g1]; rfl
theorem Lv_and {gs : List Gate} (w : WF gs) (σ : Nat → Bool) {i : Nat} {p q : Int} (h : gs[i]? = some (.and p q)) : Lv gs σ (i : Int) = (Lv gs σ p && Lv gs σ q) := by
  have hi : i < gs.length := (List.getElem?_eq_some_iff.mp h).1
  have h2 : 2 ≤ i := by
    rcases Nat.lt_or_ge i 2 with h' | h'
    · have : i = 0 ∨ i = 1 := by omega
      rcases this with rfl | rfl
      · rw [w.g0] at h; cases h
      · rw [w.g1] at h; cases h
    · exact h'
  rcases w.up i _ h2 h with e | ⟨p', q', e, _, _, hp, hq⟩
  · cases e
  · cases e
    have : Lv gs σ (i : Int) = (vals σ gs).getD i false := by
      unfold Lv lit
      have h' : (i : Int) > 0 := by omega
      rw [decide_eq_true h', Int.natAbs_natCast]
      cases (vals σ gs).getD i false <;> rfl
    rw [this, vals_at σ h]
    show (lit _ p && lit _ q) = _
    rw [lit_take σ gs (Nat.le_of_lt hi) hp, lit_take σ gs (Nat.le_of_lt hi) hq]
theorem Lv_inp {gs : List Gate} (σ : Nat → Bool) {i : Nat} (h : gs[i]? = some .inp) (hi : 0 < i) : Lv gs σ (i : Int) = σ i := by
  have : Lv gs σ (i : Int) = (vals σ gs).getD i false := by
    unfold Lv lit
    have h' : (i : Int) > 0 := by omega
    rw [decide_eq_true h', Int.natAbs_natCast]
    cases (vals σ gs).getD i false <;> rfl
  rw [this, vals_at σ h]; rfl
theorem WF.snoc {gs : List Gate} (w : WF gs) (h2 : 2 ≤ gs.length) {p q : Int} (hp : Ok gs p) (hq : Ok gs q) : WF (gs ++ [.and p q]) := by
  refine ⟨?_, ?_, ?_⟩
  · rw [List.getElem?_append_left (by omega)]; exact w.g0
  · rw [List.getElem?_append_left (by omega)]; exact w.g1
  · intro i g hi h
    rcases Nat.lt_or_ge i gs.length with h' | h'
    · rw [List.getElem?_append_left h'] at h; exact w.up i g hi h
    · rw [List.getElem?_append_right h'] at h
      cases hk : i - gs.length with
      | zero =>
        rw [hk] at h; simp at h; subst h
        exact .inr ⟨p, q, rfl, hp.1, hq.1, Nat.lt_of_lt_of_le hp.2 h', Nat.lt_of_lt_of_le hq.2 h'⟩
      | succ k => rw [hk] at h; simp at h
theorem WF.snoc_inp {gs : List Gate} (w : WF gs) : WF (gs ++ [.inp]) := by
  have h2 : 2 ≤ gs.length := (List.getElem?_eq_some_iff.mp w.g1).1
  refine ⟨?_, ?_, ?_⟩
  · rw [List.getElem?_append_left (by omega)]; exact w.g0
  · rw [List.getElem?_append_left (by omega)]; exact w.g1
  · intro i g hi h
    rcases Nat.lt_or_ge i gs.length with h' | h'
    · rw [List.getElem?_append_left h'] at h; exact w.up i g hi h
    · rw [List.getElem?_append_right h'] at h
      cases hk : i - gs.length with
      | zero => rw [hk] at h; simp at h; exact .inl h.symm
      | succ k => rw [hk] at h; simp at h
theorem WF.two {gs : List Gate} (w : WF gs) : 2 ≤ gs.length := (List.getElem?_eq_some_iff.mp w.g1).1
theorem Ok.one {gs : List Gate} (w : WF gs) : Ok gs 1 := ⟨by decide, by have := w.two; show 1 < _; omega⟩
end Mine
end

section
open PySem PySem.W PyProof.Rows PySem.Calls
namespace Mine
set_option maxRecDepth 100000
set_option maxHeartbeats 8000000
def KindsAre (gs : List Gate) (kv : Array Value) : Prop := kv.size = gs.length ∧ ∀ (i : Nat) g, gs[i]? = some g → ∃ t, kv[i]? = some (.str g.kind t)
def PartsAre (news : List (Addr × Obj)) (gs : List Gate) (pv : Array Value) : Prop :=
  pv.size = gs.length ∧ ∀ (i : Nat) g, gs[i]? = some g → ∃ a its, pv[i]? = some (.ref a) ∧ (a, tupOf its) ∈ news ∧ IntsAre its.toList g.parts
def XsAre (news : List (Addr × Obj)) (gs : List Gate) (xs : List (List Int × Addr × Value)) : Prop :=
  xs.length ≤ gs.length ∧ ∀ x ∈ xs, ∃ p q, ∃ k : Nat, ∃ tk its, x.1 = [p, q] ∧ x.2.2 = .int (k : Int) tk ∧ gs[k]? = some (.and p q) ∧ (x.2.1, tupOf its) ∈ news ∧ IntsAre its.toList [p, q]

/-- the ledger bears the circuit whose gates are gs -/
structure CircIn (prog : Program) (w : World) (news : List (Addr × Obj)) (cx cd ck cp ckn : Nat) (t1 t2 t3 : Tok) (gs : List Gate) : Prop where
  hx : (cx, instObj 129 cd) ∈ news
  hd : (cd, cDict w ck cp ckn t1 t2 t3) ∈ news
  hk : ∃ kv n1, (ck, PySem.W.listOf kv n1) ∈ news ∧ KindsAre gs kv
  hp : ∃ pv n2, (cp, PySem.W.listOf pv n2) ∈ news ∧ PartsAre news gs pv
  hn : ∃ ko xs, (ckn, ko) ∈ news ∧ KnownObj prog w ko xs ∧ XsAre news gs xs
  lo : (ckn == sysModules) = false
  wf : WF gs
  ne1 : ck ≠ cp
  ne2 : cd ≠ ckn

def KeepC (ck cp ckn : Nat) (news news' : List (Addr × Obj)) : Prop := ∀ p ∈ news, p.1 ≠ ck → p.1 ≠ cp → p.1 ≠ ckn → p ∈ news'

theorem CircIn.mono {prog : Program} {w : World} {news news' : List (Addr × Obj)} {cx cd ck cp ckn : Nat} {t1 t2 t3 : Tok} {gs : List Gate} (C : CircIn prog w news cx cd ck cp ckn t1 t2 t3 gs) (h : ∀ p ∈ news, p ∈ news') :
    CircIn prog w news' cx cd ck cp ckn t1 t2 t3 gs := by
  obtain ⟨hx, hd, ⟨kv, n1, k1, k2⟩, ⟨pv, n2, p1, p2, p3⟩, ⟨ko, xs, o1, o2, o3, o4⟩, lo, wf, ne1, ne2⟩ := C
  refine ⟨h _ hx, h _ hd, ⟨kv, n1, h _ k1, k2⟩, ⟨pv, n2, h _ p1, p2, fun i g e => ?_⟩, ⟨ko, xs, h _ o1, o2, o3, fun x hx => ?_⟩, lo, wf, ne1, ne2⟩
  · obtain ⟨a, its, h1, h2, h3⟩ := p3 i g e
    exact ⟨a, its, h1, h _ h2, h3⟩
  · obtain ⟨p, q, k, tk, its, h1, h2, h3, h4, h5⟩ := o4 x hx
    exact ⟨p, q, k, tk, its, h1, h2, h3, h _ h4, h5⟩

theorem news_fun {h₀ h : Heap} {L : Addr} {news : List (Addr × Obj)} (N : News h₀ L h news) {a : Addr} {o o' : Obj} (h1 : (a, o) ∈ news) (h2 : (a, o') ∈ news) : o = o' :=
  Option.some.inj ((N _ h1).1.symm.trans (N _ h2).1)
/-- what was there and was handed on as it stood is there still -/
theorem news_all {h₀ h : Heap} {L : Addr} {news small : List (Addr × Obj)} (N : News h₀ L h news) (hs : ∀ p ∈ small, p ∈ news) : ∀ p ∈ news, p ∈ small ++ news.filter (fun p => decide (p.1 ∉ small.map (·.1))) := by
  intro p hp
  by_cases e : p.1 ∈ small.map (·.1)
  · obtain ⟨q, hq, hqe⟩ := List.mem_map.mp e
    obtain ⟨a, o⟩ := p
    obtain ⟨b, o'⟩ := q
    simp only at hqe
    subst hqe
    have := news_fun N hp (hs _ hq)
    subst this
    exact List.mem_append_left _ hq
  · exact List.mem_append_right _ (List.mem_filter.mpr ⟨hp, decide_eq_true e⟩)
theorem allLt_mem {d : Addr} : ∀ {l : List (Addr × Obj)}, AllLt d l → ∀ p ∈ l, p.1 < d
  | [], _, _, h => nomatch h
  | q :: r, ⟨a, b⟩, p, h => by
    rcases List.mem_cons.mp h with rfl | h
    · exact a
    · exact allLt_mem b p h
theorem KnownObj.cls {prog : Program} {w : World} {ko : Obj} {xs : List (List Int × Addr × Value)} (K : KnownObj prog w ko xs) : ko.cls = .type "dict" := let ⟨_, _, h, _⟩ := K; h.1

theorem allRes_val {gs : List Gate} (wf : WF gs) {x y v : Int} (hx : Ok gs x) (hy : Ok gs y) (h : AllRes x y v) : Ok gs v ∧ ∀ σ, Lv gs σ v = (Lv gs σ x && Lv gs σ y) := by
  have h1 : ∀ σ, Lv gs σ (-1) = false := fun σ => by rw [Lv_neg gs σ (by decide : (1 : Int) ≠ 0), Lv_one wf]; rfl
  rcases h with ⟨rfl, h⟩ | ⟨rfl, h⟩ | ⟨rfl, rfl⟩
  · refine ⟨(Ok.one wf).neg, fun σ => ?_⟩
    rw [h1]
    rcases h with rfl | rfl | rfl
    · rw [h1]; rfl
    · rw [h1, Bool.and_false]
    · rw [Lv_neg gs σ hy.1]; cases Lv gs σ y <;> rfl
  · refine ⟨hx, fun σ => ?_⟩
    rcases h with rfl | rfl
    · rw [Lv_one wf, Bool.and_true]
    · rw [Bool.and_self]
  · refine ⟨hy, fun σ => ?_⟩
    rw [Lv_one wf, Bool.true_and]

theorem semAll {gs : List Gate} {v x y : Int} (hv : Ok gs v) (hx : Ok gs x) (hy : Ok gs y) (h : ∀ σ, Lv gs σ v = (Lv gs σ x && Lv gs σ y)) : ∀ G, gs <+: G → ∀ σ, Lv G σ v = (Lv G σ x && Lv G σ y) := fun G hG σ => by
  rw [Lv_prefix hG σ hv, Lv_prefix hG σ hx, Lv_prefix hG σ hy]; exact h σ
theorem KeepC.trans {ck cp ckn : Nat} {a b c : List (Addr × Obj)} (h : KeepC ck cp ckn a b) (h' : KeepC ck cp ckn b c) : KeepC ck cp ckn a c := fun p hp h1 h2 h3 => h' p (h p hp h1 h2 h3) h1 h2 h3

theorem all_of_ok {prog : Program} {w : World} {p : Program} {loose : List Str} {mean : ExcName → Option Value} {mg mb : Str → Option Value}
   (hpr : prog = PySem.Challenge.rw_nz0380_01.row.prog)
   {dp un : Nat} {gd : Option (List Code)} {cn : Str} {cs : Scope} {a : Addr} {ccd : Value} {cl : List (Str × Addr)} {outer : List Env} {A₀ : Around} {base h₀ : Heap} {L : Addr} {m : Str → Option Value} {s : Shared} {Q E : Value → Shared → Prop}
   {cx cd ck cp ckn t : Nat} {t1 t2 t3 : Tok} {x y : Int} {tx ty : Tok} {gs : List Gate} {news : List (Addr × Obj)}
   (B : Below A₀ base outer h₀) (F : Fr h₀ L s.heap m) (X : (hd.heap_39 w.params).In h₀) (T : Top p loose mean mg mb h₀) (hk : cs.kind = .function) (N : News h₀ L s.heap ((t, tupOf #[.int x tx, .int y ty]) :: news)) (lt : ∀ p ∈ news, p.1 < t) (C : CircIn prog w news cx cd ck cp ckn t1 t2 t3 gs) (hox : Ok gs x) (hoy : Ok gs y) (hz : gs.length ≤ 9000)
   (hdp : dp + 50 < recursionLimit) (hun : un + 400 < cLine)
   (ret : ∀ v tv gs' news' h' tk', Fr h₀ L h' m → News h₀ L h' news' → CircIn prog w news' cx cd ck cp ckn t1 t2 t3 gs' → KeepC ck cp ckn news news' → gs <+: gs' → gs'.length ≤ gs.length + 1 → Ok gs' v →
     (∀ G, gs' <+: G → ∀ σ, Lv G σ v = (Lv G σ x && Lv G σ y)) → Q (.int v tv) { s with heap := h', toks := tk' }) :
   wpAny (model prog w) (ktrTop dp un gd cn cs L a ccd cl outer) (call (.ref 77) [.ref cx, .ref t]) Q E s := by
  have C0 := C
  obtain ⟨hx, hd, ⟨kv, n1, k1, k2⟩, ⟨pv, n2, p1, p2, p3⟩, ⟨ko, xs, o1, o2, o3, o4⟩, lo, wf, ne1, ne2⟩ := C
  have N0 : News h₀ L s.heap news := news_sub N fun p hp => List.mem_cons_of_mem _ hp
  have clsne : ∀ {a b : Addr} {o o' : Obj}, (a, o) ∈ news → (b, o') ∈ news → o.cls ≠ o'.cls → a ≠ b := fun h1 h2 h3 e => by
    subst e; exact h3 (congrArg Obj.cls (news_fun N0 h1 h2))
  have kc := o2.cls
  have e13 : ck ≠ ckn := clsne k1 o1 (by rw [kc]; show Value.type "list" ≠ Value.type "dict"; decide)
  have e23 : cp ≠ ckn := clsne p1 o1 (by rw [kc]; show Value.type "list" ≠ Value.type "dict"; decide)
  have ed1 : cd ≠ ck := clsne hd k1 (by show Value.type "dict" ≠ Value.type "list"; decide)
  have ed2 : cd ≠ cp := clsne hd p1 (by show Value.type "dict" ≠ Value.type "list"; decide)
  have ex1 : cx ≠ ck := clsne hx k1 (by intro e; cases e)
  have ex2 : cx ≠ cp := clsne hx p1 (by intro e; cases e)
  have ex3 : cx ≠ ckn := clsne hx o1 (by rw [kc]; intro e; cases e)
  have ltk : ck < t := lt _ k1
  have ltp : cp < t := lt _ p1
  have ltn : ckn < t := lt _ o1
  have ltx : cx < t := lt _ hx
  have ltd : cd < t := lt _ hd
  have tupne : ∀ {a : Addr} {its : Array Value}, (a, tupOf its) ∈ news → a ≠ ck ∧ a ≠ cp ∧ a ≠ ckn ∧ a ≠ cx ∧ a ≠ cd ∧ a ≠ t := fun h1 =>
    ⟨clsne h1 k1 (by show Value.type "tuple" ≠ Value.type "list"; decide), clsne h1 p1 (by show Value.type "tuple" ≠ Value.type "list"; decide), clsne h1 o1 (by rw [kc]; show Value.type "tuple" ≠ Value.type "dict"; decide), clsne h1 hx (by intro e; cases e), clsne h1 hd (by show Value.type "tuple" ≠ Value.type "dict"; decide), Nat.ne_of_lt (lt _ h1)⟩
  have hsub : ∀ p ∈ [(ck, PySem.W.listOf kv n1), (cp, PySem.W.listOf pv n2), (ckn, ko), (cx, instObj 129 cd), (cd, cDict w ck cp ckn t1 t2 t3), (t, tupOf #[.int x tx, .int y ty])], p ∈ (t, tupOf #[.int x tx, .int y ty]) :: news := by
    intro p hp
    simp only [List.mem_cons, List.not_mem_nil, or_false] at hp
    rcases hp with rfl | rfl | rfl | rfl | rfl | rfl
    · exact List.mem_cons_of_mem _ k1
    · exact List.mem_cons_of_mem _ p1
    · exact List.mem_cons_of_mem _ o1
    · exact List.mem_cons_of_mem _ hx
    · exact List.mem_cons_of_mem _ hd
    · exact List.mem_cons_self ..
  have fin : ∀ h', News h₀ L h' [(ck, PySem.W.listOf kv n1), (cp, PySem.W.listOf pv n2), (ckn, ko), (cx, instObj 129 cd), (cd, cDict w ck cp ckn t1 t2 t3), (t, tupOf #[.int x tx, .int y ty])] →
      (∀ b o, s.heap.get? b = some o → b ∉ [ck, cp, ckn, cx, cd, t] → h'.get? b = some o) → News h₀ L h' ((t, tupOf #[.int x tx, .int y ty]) :: news) := fun h' N' keep =>
    news_sub (news_frame (small := [(ck, PySem.W.listOf kv n1), (cp, PySem.W.listOf pv n2), (ckn, ko), (cx, instObj 129 cd), (cd, cDict w ck cp ckn t1 t2 t3), (t, tupOf #[.int x tx, .int y ty])]) (g := h') N keep (fun _ _ e => e) N') (news_all N hsub)
  refine all_of_body hpr (cx := cx) (cd := cd) (ck := ck) (cp := cp) (ckn := ckn) (t := t) (t1 := t1) (t2 := t2) (t3 := t3) (kv := kv) (pv := pv) (n1 := n1) (n2 := n2) (ko := ko) (x := x) (y := y) (tx := tx) (ty := ty) (xs := xs) B F X T hk
    (news_sub N hsub) ne1 e13 e23 ed1 ed2 ne2 ex1 ex2 ex3 (by omega) (by omega) (by omega) (by rw [k2.1]; omega) (by rw [p2]; omega) (by omega) o2 (fun z hz' => ?_) lo hdp hun ?_ ?_ ?_
  · obtain ⟨p, q, k, tk, its, h1, h2, h3, h4, h5⟩ := o4 z hz'
    refine ⟨⟨_, its, 0, (N0 _ h4).1, rfl, rfl, by rw [h1]; exact itemsAre_ints h5⟩, ?_⟩
    obtain ⟨a1, a2, a3, a4, a5, a6⟩ := tupne h4
    simp [a1, a2, a3, a4, a5, a6]
  · intro v tv h' tk' hr F' N' keep
    obtain ⟨r1, r2⟩ := allRes_val wf hox hoy hr
    exact ret v tv gs _ h' tk' F' (news_sub (fin h' N' keep) fun p hp => List.mem_cons_of_mem _ hp) C0 (fun p hp _ _ _ => hp) List.prefix_rfl (Nat.le_succ _) r1 (semAll r1 hox hoy r2)
  · intro p q pr h' tk' hpk hat F' N' keep
    have hm : ∃ z ∈ xs, z.1 = [p, q] ∧ z.2 = pr := by
      unfold atKey at hat
      cases e : xs.find? fun x => decide (x.1 = [p, q]) with
      | none => rw [e] at hat; cases hat
      | some z =>
        rw [e] at hat
        exact ⟨z, List.mem_of_find?_eq_some e, by simpa using List.find?_some e, Option.some.inj hat⟩
    obtain ⟨z, hz1, hz2, hz3⟩ := hm
    obtain ⟨p', q', k, tk, its, h1, h2, h3, h4, h5⟩ := o4 z hz1
    rw [hz2] at h1
    cases h1
    rw [← hz3, h2]
    have hk' : k < gs.length := (List.getElem?_eq_some_iff.mp h3).1
    have hk0 : 0 < k := by
      rcases Nat.eq_zero_or_pos k with e | e
      · subst e; rw [wf.g0] at h3; cases h3
      · exact e
    refine ret _ _ gs _ h' tk' F' (news_sub (fin h' N' keep) fun p hp => List.mem_cons_of_mem _ hp) C0 (fun p hp _ _ _ => hp) List.prefix_rfl (Nat.le_succ _) ⟨by omega, by simpa using hk'⟩ (semAll ⟨by omega, by simpa using hk'⟩ hox hoy fun σ => ?_)
    rw [Lv_and wf σ h3]
    rcases hpk.1 with ⟨rfl, rfl⟩ | ⟨rfl, rfl⟩
    · rfl
    · exact Bool.and_comm _ _
  · intro p q tp tq ta tb ts ko' h' tk' hpk hat F' N' KO' keep
    have hop : Ok gs p := by rcases hpk.1 with ⟨rfl, rfl⟩ | ⟨rfl, rfl⟩ <;> assumption
    have hoq : Ok gs q := by rcases hpk.1 with ⟨rfl, rfl⟩ | ⟨rfl, rfl⟩ <;> assumption
    have wf' := wf.snoc wf.two hop hoq
    have NF := news_frame (small := [(ck, PySem.W.listOf kv n1), (cp, PySem.W.listOf pv n2), (ckn, ko), (cx, instObj 129 cd), (cd, cDict w ck cp ckn t1 t2 t3), (t, tupOf #[.int x tx, .int y ty])]) (g := h') N keep (fun _ _ e => e) N'
    let news' := [(tp, tupOf #[.int p ta, .int q tb]), (ck, PySem.W.listOf (kv.push (.str (Str.ofString "and") ts)) (n1+1)), (cp, PySem.W.listOf (pv.push (.ref tp)) (n2+1)), (ckn, ko'), (cx, instObj 129 cd), (cd, cDict w ck cp ckn t1 t2 t3), (t, tupOf #[.int x tx, .int y ty])] ++
      ((t, tupOf #[.int x tx, .int y ty]) :: news).filter (fun p => decide (p.1 ∉ [(ck, PySem.W.listOf kv n1), (cp, PySem.W.listOf pv n2), (ckn, ko), (cx, instObj 129 cd), (cd, cDict w ck cp ckn t1 t2 t3), (t, tupOf #[.int x tx, .int y ty])].map (·.1)))
    have hkeep : KeepC ck cp ckn news news' := by
      intro z hz a1 a2 a3
      obtain ⟨az, oz⟩ := z
      by_cases e4 : az = cx
      · subst e4; rw [news_fun N0 hz hx]; exact List.mem_append_left _ (by simp)
      by_cases e5 : az = cd
      · subst e5; rw [news_fun N0 hz hd]; exact List.mem_append_left _ (by simp)
      by_cases e6 : az = t
      · exact absurd (lt _ hz) (by rw [e6]; exact Nat.lt_irrefl _)
      refine List.mem_append_right _ (List.mem_filter.mpr ⟨List.mem_cons_of_mem _ hz, decide_eq_true ?_⟩)
      simp only [List.map_cons, List.map_nil, List.mem_cons, List.not_mem_nil, or_false, not_or]
      exact ⟨a1, a2, a3, e4, e5, e6⟩
    have tupk : ∀ {a : Addr} {its : Array Value}, (a, tupOf its) ∈ news → (a, tupOf its) ∈ news' := fun h1 => let ⟨a1, a2, a3, _⟩ := tupne h1; hkeep _ h1 a1 a2 a3
    have hat' : ∀ (i : Nat) g, (gs ++ [Gate.and p q])[i]? = some g → (i < gs.length ∧ gs[i]? = some g) ∨ (i = gs.length ∧ g = .and p q) := fun i g h => by
      rcases Nat.lt_or_ge i gs.length with h' | h'
      · exact .inl ⟨h', by rwa [List.getElem?_append_left h'] at h⟩
      · rw [List.getElem?_append_right h'] at h
        cases hk' : i - gs.length with
        | zero => rw [hk'] at h; simp at h; exact .inr ⟨by omega, h.symm⟩
        | succ k => rw [hk'] at h; simp at h
    have C' : CircIn prog w news' cx cd ck cp ckn t1 t2 t3 (gs ++ [.and p q]) := by
      have mtp : (tp, tupOf #[.int p ta, .int q tb]) ∈ news' := List.mem_append_left _ (.head _)
      have itp : IntsAre (#[Value.int p ta, Value.int q tb] : Array Value).toList [p, q] := .cons _ _ (.cons _ _ .nil)
      refine ⟨List.mem_append_left _ (.tail _ (.tail _ (.tail _ (.tail _ (.head _))))), List.mem_append_left _ (.tail _ (.tail _ (.tail _ (.tail _ (.tail _ (.head _)))))), ⟨_, _, List.mem_append_left _ (.tail _ (.head _)), ?_, fun i g hg => ?_⟩, ⟨_, _, List.mem_append_left _ (.tail _ (.tail _ (.head _))), ?_, fun i g hg => ?_⟩, ⟨_, _, List.mem_append_left _ (.tail _ (.tail _ (.tail _ (.head _)))), KO', ?_, fun z hz' => ?_⟩, lo, wf', ne1, ne2⟩
      · rw [Array.size_push, k2.1, List.length_append]; rfl
      · rcases hat' i g hg with ⟨hi, hg'⟩ | ⟨rfl, rfl⟩
        · obtain ⟨tt, ht'⟩ := k2.2 i g hg'
          refine ⟨tt, ?_⟩
          rw [Array.getElem?_push_lt (by rw [k2.1]; exact hi), ← ht', Array.getElem?_eq_getElem]
        · refine ⟨ts, ?_⟩
          rw [← k2.1, Array.getElem?_push_size]; rfl
      · rw [Array.size_push, p2, List.length_append]; rfl
      · rcases hat' i g hg with ⟨hi, hg'⟩ | ⟨rfl, rfl⟩
        · obtain ⟨aa, its, q1, q2, q3⟩ := p3 i g hg'
          refine ⟨aa, its, ?_, tupk q2, q3⟩
          rw [Array.getElem?_push_lt (by rw [p2]; exact hi), ← q1, Array.getElem?_eq_getElem]
        · refine ⟨tp, _, ?_, mtp, itp⟩
          rw [← p2, Array.getElem?_push_size]
      · rw [List.length_append, List.length_append]; exact Nat.add_le_add_right o3 1
      · rcases List.mem_append.mp hz' with hz' | hz'
        · obtain ⟨p', q', k, tk, its, h1, h2, h3, h4, h5⟩ := o4 z hz'
          exact ⟨p', q', k, tk, its, h1, h2, by rw [List.getElem?_append_left (List.getElem?_eq_some_iff.mp h3).1]; exact h3, tupk h4, h5⟩
        · rw [List.mem_singleton.mp hz']
          exact ⟨p, q, gs.length, tq, _, rfl, by rw [← k2.1], by simp, mtp, itp⟩
    have hlast : (gs ++ [Gate.and p q])[gs.length]? = some (.and p q) := by simp
    have hpre : gs <+: gs ++ [Gate.and p q] := List.prefix_append _ _
    have hlen : 2 ≤ gs.length := wf.two
    rw [k2.1]
    refine ret _ _ (gs ++ [.and p q]) news' h' tk' F' NF C' hkeep hpre (by simp) ⟨by omega, by simp⟩ (semAll ⟨by omega, by simp⟩ (hox.prefix hpre) (hoy.prefix hpre) fun σ => ?_)
    rw [Lv_and wf' σ hlast, Lv_prefix hpre σ hop, Lv_prefix hpre σ hoq, Lv_prefix hpre σ hox, Lv_prefix hpre σ hoy]
    rcases hpk.1 with ⟨rfl, rfl⟩ | ⟨rfl, rfl⟩
    · rfl
    · exact Bool.and_comm _ _

end Mine
end

section
open PySem PySem.W PyProof.Rows PySem.Calls
namespace Mine
set_option maxRecDepth 100000
set_option maxHeartbeats 8000000
theorem Ok.sub0 {gs : List Gate} {x : Int} (hx : Ok gs x) : Ok gs (0 - x) := by rw [Int.zero_sub]; exact hx.neg
/-- the walk halts here -/
def Stop (P : Prop) : Prop := P
theorem stopI {P : Prop} (h : Stop P) : P := h
section
local macro_rules | `(tactic| k_mem) => `(tactic| assumption)

theorem both_ok : ∀ {prog : Program} {w : World} {p : Program} {loose : List Str} {mean : ExcName → Option Value} {mg mb : Str → Option Value}
   (hpr : prog = PySem.Challenge.rw_nz0380_01.row.prog)
   {dp un : Nat} {gd : Option (List Code)} {cn : Str} {cs : Scope} {a : Addr} {ccd : Value} {cl : List (Str × Addr)} {outer : List Env} {A₀ : Around} {base h₀ : Heap} {L : Addr} {m : Str → Option Value} {s : Shared} {Q E : Value → Shared → Prop}
   {cx cd ck cp ckn : Nat} {t1 t2 t3 : Tok} {x y : Int} {tx ty : Tok} {gs : List Gate} {news : List (Addr × Obj)}
   (B : Below A₀ base outer h₀) (F : Fr h₀ L s.heap m) (X : (hd.heap_39 w.params).In h₀) (T : Top p loose mean mg mb h₀) (hk : cs.kind = .function) (N : News h₀ L s.heap news) (C : CircIn prog w news cx cd ck cp ckn t1 t2 t3 gs) (hox : Ok gs x) (hoy : Ok gs y) (hz : gs.length ≤ 8990)
   (hdp : dp + 60 < recursionLimit) (hun : un + 500 < cLine)
   (ret : ∀ v tv gs' news' h' tk', Fr h₀ L h' m → News h₀ L h' news' → CircIn prog w news' cx cd ck cp ckn t1 t2 t3 gs' → KeepC ck cp ckn news news' → gs <+: gs' → gs'.length ≤ gs.length + 1 → Ok gs' v →
     (∀ G, gs' <+: G → ∀ σ, Lv G σ v = (Lv G σ x && Lv G σ y)) → Q (.int v tv) { s with heap := h', toks := tk' }),
   wpAny (model prog w) (ktrTop dp un gd cn cs L a ccd cl outer) (call (.ref 91) [.ref cx, .int x tx, .int y ty]) Q E s := by
  w_top off
  k_with_none
  k_with "call ref" => (k_here; (with_reducible show wpAny _ _ (call (Value.ref 77) _ _) _ _ _); k_dflt (refine' all_of_ok (by assumption) (by k_asm) (by k_asm) (by k_asm) (by k_asm) (by exact rfl) (by k_asm) (by assumption) (by assumption) (by first | assumption | exact Ok.neg (by assumption) | exact Ok.prefix (by assumption) (by assumption) | exact Ok.prefix (by assumption) (Ok.prefix (by assumption) (by assumption)) | exact Ok.neg (Ok.prefix (by assumption) (by assumption)) | exact Ok.sub0 (by assumption) | exact Ok.sub0 (Ok.prefix (by assumption) (by assumption))) (by first | assumption | exact Ok.neg (by assumption) | exact Ok.prefix (by assumption) (by assumption) | exact Ok.prefix (by assumption) (Ok.prefix (by assumption) (by assumption)) | exact Ok.neg (Ok.prefix (by assumption) (by assumption)) | exact Ok.sub0 (by assumption) | exact Ok.sub0 (Ok.prefix (by assumption) (by assumption))) (by omega) (by ktr_room) (by ktr_units) (stopI ?_)))
  k_fill
  intro prog w p loose mean mg mb hp dp un gd cn cs a ccd cl outer A₀ base h₀ L m s Q E cx cd ck cp ckn t1 t2 t3 x y tx ty gs news B F X T hk N C hox hoy hz hdp hun ret
  refine wpAny_call ?_
  k_dflt ktr_enter
  have hcx := C.hx
  have hcd := C.hd
  k_steps
  unfold Stop
  intro v1 tv1 gs1 news1 h1 tk1 F1 N1 C1 K1 p1 l1 o1 s1
  try dsimp only
  have hcx1 := C1.hx
  have hcd1 := C1.hd
  k_steps
  refine ret _ _ gs1 _ _ _ (by assumption) (by assumption) C1 K1 p1 (by omega) o1 fun G hG σ => ?_
  have q1 : gs1 <+: G := hG
  exact s1 G q1 σ
theorem either_ok : ∀ {prog : Program} {w : World} {p : Program} {loose : List Str} {mean : ExcName → Option Value} {mg mb : Str → Option Value}
   (hpr : prog = PySem.Challenge.rw_nz0380_01.row.prog)
   {dp un : Nat} {gd : Option (List Code)} {cn : Str} {cs : Scope} {a : Addr} {ccd : Value} {cl : List (Str × Addr)} {outer : List Env} {A₀ : Around} {base h₀ : Heap} {L : Addr} {m : Str → Option Value} {s : Shared} {Q E : Value → Shared → Prop}
   {cx cd ck cp ckn : Nat} {t1 t2 t3 : Tok} {x y : Int} {tx ty : Tok} {gs : List Gate} {news : List (Addr × Obj)}
   (B : Below A₀ base outer h₀) (F : Fr h₀ L s.heap m) (X : (hd.heap_39 w.params).In h₀) (T : Top p loose mean mg mb h₀) (hk : cs.kind = .function) (N : News h₀ L s.heap news) (C : CircIn prog w news cx cd ck cp ckn t1 t2 t3 gs) (hox : Ok gs x) (hoy : Ok gs y) (hz : gs.length ≤ 8990)
   (hdp : dp + 60 < recursionLimit) (hun : un + 500 < cLine)
   (ret : ∀ v tv gs' news' h' tk', Fr h₀ L h' m → News h₀ L h' news' → CircIn prog w news' cx cd ck cp ckn t1 t2 t3 gs' → KeepC ck cp ckn news news' → gs <+: gs' → gs'.length ≤ gs.length + 1 → Ok gs' v →
     (∀ G, gs' <+: G → ∀ σ, Lv G σ v = (Lv G σ x || Lv G σ y)) → Q (.int v tv) { s with heap := h', toks := tk' }),
   wpAny (model prog w) (ktrTop dp un gd cn cs L a ccd cl outer) (call (.ref 98) [.ref cx, .int x tx, .int y ty]) Q E s := by
  w_top off
  k_with_none
  k_with "call ref" => (k_here; (with_reducible show wpAny _ _ (call (Value.ref 77) _ _) _ _ _); k_dflt (refine' all_of_ok (by assumption) (by k_asm) (by k_asm) (by k_asm) (by k_asm) (by exact rfl) (by k_asm) (by assumption) (by assumption) (by first | assumption | exact Ok.neg (by assumption) | exact Ok.prefix (by assumption) (by assumption) | exact Ok.prefix (by assumption) (Ok.prefix (by assumption) (by assumption)) | exact Ok.neg (Ok.prefix (by assumption) (by assumption)) | exact Ok.sub0 (by assumption) | exact Ok.sub0 (Ok.prefix (by assumption) (by assumption))) (by first | assumption | exact Ok.neg (by assumption) | exact Ok.prefix (by assumption) (by assumption) | exact Ok.prefix (by assumption) (Ok.prefix (by assumption) (by assumption)) | exact Ok.neg (Ok.prefix (by assumption) (by assumption)) | exact Ok.sub0 (by assumption) | exact Ok.sub0 (Ok.prefix (by assumption) (by assumption))) (by omega) (by ktr_room) (by ktr_units) (stopI ?_)))
  k_fill
  intro prog w p loose mean mg mb hp dp un gd cn cs a ccd cl outer A₀ base h₀ L m s Q E cx cd ck cp ckn t1 t2 t3 x y tx ty gs news B F X T hk N C hox hoy hz hdp hun ret
  refine wpAny_call ?_
  k_dflt ktr_enter
  have hcx := C.hx
  have hcd := C.hd
  k_steps
  unfold Stop
  intro v1 tv1 gs1 news1 h1 tk1 F1 N1 C1 K1 p1 l1 o1 s1
  try dsimp only
  have hcx1 := C1.hx
  have hcd1 := C1.hd
  k_steps
  refine ret _ _ gs1 _ _ _ (by assumption) (by assumption) C1 K1 p1 (by omega) o1.neg fun G hG σ => ?_
  have q1 : gs1 <+: G := hG
  rw [Lv_neg G σ o1.1, s1 G q1 σ, Lv_neg G σ hox.1, Lv_neg G σ hoy.1]
  cases Lv G σ x <;> cases Lv G σ y <;> rfl
theorem implies_ok : ∀ {prog : Program} {w : World} {p : Program} {loose : List Str} {mean : ExcName → Option Value} {mg mb : Str → Option Value}
   (hpr : prog = PySem.Challenge.rw_nz0380_01.row.prog)
   {dp un : Nat} {gd : Option (List Code)} {cn : Str} {cs : Scope} {a : Addr} {ccd : Value} {cl : List (Str × Addr)} {outer : List Env} {A₀ : Around} {base h₀ : Heap} {L : Addr} {m : Str → Option Value} {s : Shared} {Q E : Value → Shared → Prop}
   {cx cd ck cp ckn : Nat} {t1 t2 t3 : Tok} {x y : Int} {tx ty : Tok} {gs : List Gate} {news : List (Addr × Obj)}
   (B : Below A₀ base outer h₀) (F : Fr h₀ L s.heap m) (X : (hd.heap_39 w.params).In h₀) (T : Top p loose mean mg mb h₀) (hk : cs.kind = .function) (N : News h₀ L s.heap news) (C : CircIn prog w news cx cd ck cp ckn t1 t2 t3 gs) (hox : Ok gs x) (hoy : Ok gs y) (hz : gs.length ≤ 8990)
   (hdp : dp + 60 < recursionLimit) (hun : un + 500 < cLine)
   (ret : ∀ v tv gs' news' h' tk', Fr h₀ L h' m → News h₀ L h' news' → CircIn prog w news' cx cd ck cp ckn t1 t2 t3 gs' → KeepC ck cp ckn news news' → gs <+: gs' → gs'.length ≤ gs.length + 1 → Ok gs' v →
     (∀ G, gs' <+: G → ∀ σ, Lv G σ v = (!Lv G σ x || Lv G σ y)) → Q (.int v tv) { s with heap := h', toks := tk' }),
   wpAny (model prog w) (ktrTop dp un gd cn cs L a ccd cl outer) (call (.ref 105) [.ref cx, .int x tx, .int y ty]) Q E s := by
  w_top off
  k_with_none
  k_with "call ref" => (k_here; (with_reducible show wpAny _ _ (call (Value.ref 77) _ _) _ _ _); k_dflt (refine' all_of_ok (by assumption) (by k_asm) (by k_asm) (by k_asm) (by k_asm) (by exact rfl) (by k_asm) (by assumption) (by assumption) (by first | assumption | exact Ok.neg (by assumption) | exact Ok.prefix (by assumption) (by assumption) | exact Ok.prefix (by assumption) (Ok.prefix (by assumption) (by assumption)) | exact Ok.neg (Ok.prefix (by assumption) (by assumption)) | exact Ok.sub0 (by assumption) | exact Ok.sub0 (Ok.prefix (by assumption) (by assumption))) (by first | assumption | exact Ok.neg (by assumption) | exact Ok.prefix (by assumption) (by assumption) | exact Ok.prefix (by assumption) (Ok.prefix (by assumption) (by assumption)) | exact Ok.neg (Ok.prefix (by assumption) (by assumption)) | exact Ok.sub0 (by assumption) | exact Ok.sub0 (Ok.prefix (by assumption) (by assumption))) (by omega) (by ktr_room) (by ktr_units) (stopI ?_)))
  k_fill
  intro prog w p loose mean mg mb hp dp un gd cn cs a ccd cl outer A₀ base h₀ L m s Q E cx cd ck cp ckn t1 t2 t3 x y tx ty gs news B F X T hk N C hox hoy hz hdp hun ret
  refine wpAny_call ?_
  k_dflt ktr_enter
  have hcx := C.hx
  have hcd := C.hd
  k_steps
  unfold Stop
  intro v1 tv1 gs1 news1 h1 tk1 F1 N1 C1 K1 p1 l1 o1 s1
  try dsimp only
  have hcx1 := C1.hx
  have hcd1 := C1.hd
  k_steps
  refine ret _ _ gs1 _ _ _ (by assumption) (by assumption) C1 K1 p1 (by omega) o1.neg fun G hG σ => ?_
  have q1 : gs1 <+: G := hG
  rw [Lv_neg G σ o1.1, s1 G q1 σ, Lv_neg G σ hoy.1]
  cases Lv G σ x <;> cases Lv G σ y <;> rfl
end
section
local macro_rules | `(tactic| k_mem) => `(tactic| assumption)

theorem iff_ok : ∀ {prog : Program} {w : World} {p : Program} {loose : List Str} {mean : ExcName → Option Value} {mg mb : Str → Option Value}
   (hpr : prog = PySem.Challenge.rw_nz0380_01.row.prog)
   {dp un : Nat} {gd : Option (List Code)} {cn : Str} {cs : Scope} {a : Addr} {ccd : Value} {cl : List (Str × Addr)} {outer : List Env} {A₀ : Around} {base h₀ : Heap} {L : Addr} {m : Str → Option Value} {s : Shared} {Q E : Value → Shared → Prop}
   {cx cd ck cp ckn : Nat} {t1 t2 t3 : Tok} {x y : Int} {tx ty : Tok} {gs : List Gate} {news : List (Addr × Obj)}
   (B : Below A₀ base outer h₀) (F : Fr h₀ L s.heap m) (X : (hd.heap_39 w.params).In h₀) (T : Top p loose mean mg mb h₀) (hk : cs.kind = .function) (N : News h₀ L s.heap news) (C : CircIn prog w news cx cd ck cp ckn t1 t2 t3 gs) (hox : Ok gs x) (hoy : Ok gs y) (hz : gs.length ≤ 8980)
   (hdp : dp + 70 < recursionLimit) (hun : un + 600 < cLine)
   (ret : ∀ v tv gs' news' h' tk', Fr h₀ L h' m → News h₀ L h' news' → CircIn prog w news' cx cd ck cp ckn t1 t2 t3 gs' → KeepC ck cp ckn news news' → gs <+: gs' → gs'.length ≤ gs.length + 3 → Ok gs' v →
     (∀ G, gs' <+: G → ∀ σ, Lv G σ v = (Lv G σ x == Lv G σ y)) → Q (.int v tv) { s with heap := h', toks := tk' }),
   wpAny (model prog w) (ktrTop dp un gd cn cs L a ccd cl outer) (call (.ref 112) [.ref cx, .int x tx, .int y ty]) Q E s := by
  w_top off
  k_with_none
  k_with "call ref" => (k_here; (with_reducible show wpAny _ _ (call (Value.ref 77) _ _) _ _ _); k_dflt (refine' all_of_ok (by assumption) (by k_asm) (by k_asm) (by k_asm) (by k_asm) (by exact rfl) (by k_asm) (by assumption) (by assumption) (by first | assumption | exact Ok.neg (by assumption) | exact Ok.prefix (by assumption) (by assumption) | exact Ok.prefix (by assumption) (Ok.prefix (by assumption) (by assumption)) | exact Ok.neg (Ok.prefix (by assumption) (by assumption)) | exact Ok.sub0 (by assumption) | exact Ok.sub0 (Ok.prefix (by assumption) (by assumption))) (by first | assumption | exact Ok.neg (by assumption) | exact Ok.prefix (by assumption) (by assumption) | exact Ok.prefix (by assumption) (Ok.prefix (by assumption) (by assumption)) | exact Ok.neg (Ok.prefix (by assumption) (by assumption)) | exact Ok.sub0 (by assumption) | exact Ok.sub0 (Ok.prefix (by assumption) (by assumption))) (by omega) (by ktr_room) (by ktr_units) (stopI ?_)))
  k_with "call ref" => (k_here; (with_reducible show wpAny _ _ (call (Value.ref 105) _ _) _ _ _); k_dflt (refine' implies_ok (by assumption) (by k_asm) (by k_asm) (by k_asm) (by k_asm) (by exact rfl) (by k_asm) (by assumption) (by first | assumption | exact Ok.neg (by assumption) | exact Ok.prefix (by assumption) (by assumption) | exact Ok.prefix (by assumption) (Ok.prefix (by assumption) (by assumption)) | exact Ok.neg (Ok.prefix (by assumption) (by assumption)) | exact Ok.sub0 (by assumption) | exact Ok.sub0 (Ok.prefix (by assumption) (by assumption))) (by first | assumption | exact Ok.neg (by assumption) | exact Ok.prefix (by assumption) (by assumption) | exact Ok.prefix (by assumption) (Ok.prefix (by assumption) (by assumption)) | exact Ok.neg (Ok.prefix (by assumption) (by assumption)) | exact Ok.sub0 (by assumption) | exact Ok.sub0 (Ok.prefix (by assumption) (by assumption))) (by omega) (by ktr_room) (by ktr_units) (stopI ?_)))
  k_fill
  intro prog w p loose mean mg mb hp dp un gd cn cs a ccd cl outer A₀ base h₀ L m s Q E cx cd ck cp ckn t1 t2 t3 x y tx ty gs news B F X T hk N C hox hoy hz hdp hun ret
  refine wpAny_call ?_
  k_dflt ktr_enter
  have hcx := C.hx
  have hcd := C.hd
  k_steps
  unfold Stop
  intro v1 tv1 gs1 news1 h1 tk1 F1 N1 C1 K1 p1 l1 o1 s1
  try dsimp only
  have hcx1 := C1.hx
  have hcd1 := C1.hd
  k_steps
  unfold Stop
  intro v2 tv2 gs2 news2 h2 tk2 F2 N2 C2 K2 p2 l2 o2 s2
  try dsimp only
  have hcx2 := C2.hx
  have hcd2 := C2.hd
  k_steps
  unfold Stop
  intro v3 tv3 gs3 news3 h3 tk3 F3 N3 C3 K3 p3 l3 o3 s3
  try dsimp only
  have hcx3 := C3.hx
  have hcd3 := C3.hd
  k_steps
  refine ret _ _ gs3 _ _ _ (by assumption) (by assumption) C3 ((K1.trans K2).trans K3) ((p1.trans p2).trans p3) (by omega) o3 fun G hG σ => ?_
  have q3 : gs3 <+: G := hG
  have q2 : gs2 <+: G := p3.trans q3
  have q1 : gs1 <+: G := p2.trans q2
  rw [s3 G q3 σ, s1 G q1 σ, s2 G q2 σ]
  cases Lv G σ x <;> cases Lv G σ y <;> rfl
theorem choose_ok : ∀ {prog : Program} {w : World} {p : Program} {loose : List Str} {mean : ExcName → Option Value} {mg mb : Str → Option Value}
   (hpr : prog = PySem.Challenge.rw_nz0380_01.row.prog)
   {dp un : Nat} {gd : Option (List Code)} {cn : Str} {cs : Scope} {a : Addr} {ccd : Value} {cl : List (Str × Addr)} {outer : List Env} {A₀ : Around} {base h₀ : Heap} {L : Addr} {m : Str → Option Value} {s : Shared} {Q E : Value → Shared → Prop}
   {cx cd ck cp ckn : Nat} {t1 t2 t3 : Tok} {c x y : Int} {tc tx ty : Tok} {gs : List Gate} {news : List (Addr × Obj)}
   (B : Below A₀ base outer h₀) (F : Fr h₀ L s.heap m) (X : (hd.heap_39 w.params).In h₀) (T : Top p loose mean mg mb h₀) (hk : cs.kind = .function) (N : News h₀ L s.heap news) (C : CircIn prog w news cx cd ck cp ckn t1 t2 t3 gs) (hoc : Ok gs c) (hox : Ok gs x) (hoy : Ok gs y) (hz : gs.length ≤ 8980)
   (hdp : dp + 70 < recursionLimit) (hun : un + 600 < cLine)
   (ret : ∀ v tv gs' news' h' tk', Fr h₀ L h' m → News h₀ L h' news' → CircIn prog w news' cx cd ck cp ckn t1 t2 t3 gs' → KeepC ck cp ckn news news' → gs <+: gs' → gs'.length ≤ gs.length + 3 → Ok gs' v →
     (∀ G, gs' <+: G → ∀ σ, Lv G σ v = (if Lv G σ c then Lv G σ x else Lv G σ y)) → Q (.int v tv) { s with heap := h', toks := tk' }),
   wpAny (model prog w) (ktrTop dp un gd cn cs L a ccd cl outer) (call (.ref 126) [.ref cx, .int c tc, .int x tx, .int y ty]) Q E s := by
  w_top off
  k_with_none
  k_with "call ref" => (k_here; (with_reducible show wpAny _ _ (call (Value.ref 77) _ _) _ _ _); k_dflt (refine' all_of_ok (by assumption) (by k_asm) (by k_asm) (by k_asm) (by k_asm) (by exact rfl) (by k_asm) (by assumption) (by assumption) (by first | assumption | exact Ok.neg (by assumption) | exact Ok.prefix (by assumption) (by assumption) | exact Ok.prefix (by assumption) (Ok.prefix (by assumption) (by assumption)) | exact Ok.neg (Ok.prefix (by assumption) (by assumption)) | exact Ok.sub0 (by assumption) | exact Ok.sub0 (Ok.prefix (by assumption) (by assumption))) (by first | assumption | exact Ok.neg (by assumption) | exact Ok.prefix (by assumption) (by assumption) | exact Ok.prefix (by assumption) (Ok.prefix (by assumption) (by assumption)) | exact Ok.neg (Ok.prefix (by assumption) (by assumption)) | exact Ok.sub0 (by assumption) | exact Ok.sub0 (Ok.prefix (by assumption) (by assumption))) (by omega) (by ktr_room) (by ktr_units) (stopI ?_)))
  k_with "call ref" => (k_here; (with_reducible show wpAny _ _ (call (Value.ref 105) _ _) _ _ _); k_dflt (refine' implies_ok (by assumption) (by k_asm) (by k_asm) (by k_asm) (by k_asm) (by exact rfl) (by k_asm) (by assumption) (by first | assumption | exact Ok.neg (by assumption) | exact Ok.prefix (by assumption) (by assumption) | exact Ok.prefix (by assumption) (Ok.prefix (by assumption) (by assumption)) | exact Ok.neg (Ok.prefix (by assumption) (by assumption)) | exact Ok.sub0 (by assumption) | exact Ok.sub0 (Ok.prefix (by assumption) (by assumption))) (by first | assumption | exact Ok.neg (by assumption) | exact Ok.prefix (by assumption) (by assumption) | exact Ok.prefix (by assumption) (Ok.prefix (by assumption) (by assumption)) | exact Ok.neg (Ok.prefix (by assumption) (by assumption)) | exact Ok.sub0 (by assumption) | exact Ok.sub0 (Ok.prefix (by assumption) (by assumption))) (by omega) (by ktr_room) (by ktr_units) (stopI ?_)))
  k_fill
  intro prog w p loose mean mg mb hp dp un gd cn cs a ccd cl outer A₀ base h₀ L m s Q E cx cd ck cp ckn t1 t2 t3 c x y tc tx ty gs news B F X T hk N C hoc hox hoy hz hdp hun ret
  refine wpAny_call ?_
  k_dflt ktr_enter
  have hcx := C.hx
  have hcd := C.hd
  k_steps
  unfold Stop
  intro v1 tv1 gs1 news1 h1 tk1 F1 N1 C1 K1 p1 l1 o1 s1
  try dsimp only
  have hcx1 := C1.hx
  have hcd1 := C1.hd
  k_steps
  unfold Stop
  intro v2 tv2 gs2 news2 h2 tk2 F2 N2 C2 K2 p2 l2 o2 s2
  try dsimp only
  have hcx2 := C2.hx
  have hcd2 := C2.hd
  k_steps
  unfold Stop
  intro v3 tv3 gs3 news3 h3 tk3 F3 N3 C3 K3 p3 l3 o3 s3
  try dsimp only
  have hcx3 := C3.hx
  have hcd3 := C3.hd
  k_steps
  refine ret _ _ gs3 _ _ _ (by assumption) (by assumption) C3 ((K1.trans K2).trans K3) ((p1.trans p2).trans p3) (by omega) o3 fun G hG σ => ?_
  have q3 : gs3 <+: G := hG
  have q2 : gs2 <+: G := p3.trans q3
  have q1 : gs1 <+: G := p2.trans q2
  rw [s3 G q3 σ, s1 G q1 σ, s2 G q2 σ, Lv_neg G σ hoc.1]
  cases Lv G σ c <;> cases Lv G σ x <;> cases Lv G σ y <;> rfl
end
section
local macro_rules | `(tactic| k_mem) => `(tactic| assumption)

theorem unlike_ok : ∀ {prog : Program} {w : World} {p : Program} {loose : List Str} {mean : ExcName → Option Value} {mg mb : Str → Option Value}
   (hpr : prog = PySem.Challenge.rw_nz0380_01.row.prog)
   {dp un : Nat} {gd : Option (List Code)} {cn : Str} {cs : Scope} {a : Addr} {ccd : Value} {cl : List (Str × Addr)} {outer : List Env} {A₀ : Around} {base h₀ : Heap} {L : Addr} {m : Str → Option Value} {s : Shared} {Q E : Value → Shared → Prop}
   {cx cd ck cp ckn : Nat} {t1 t2 t3 : Tok} {x y : Int} {tx ty : Tok} {gs : List Gate} {news : List (Addr × Obj)}
   (B : Below A₀ base outer h₀) (F : Fr h₀ L s.heap m) (X : (hd.heap_39 w.params).In h₀) (T : Top p loose mean mg mb h₀) (hk : cs.kind = .function) (N : News h₀ L s.heap news) (C : CircIn prog w news cx cd ck cp ckn t1 t2 t3 gs) (hox : Ok gs x) (hoy : Ok gs y) (hz : gs.length ≤ 8970)
   (hdp : dp + 80 < recursionLimit) (hun : un + 700 < cLine)
   (ret : ∀ v tv gs' news' h' tk', Fr h₀ L h' m → News h₀ L h' news' → CircIn prog w news' cx cd ck cp ckn t1 t2 t3 gs' → KeepC ck cp ckn news news' → gs <+: gs' → gs'.length ≤ gs.length + 3 → Ok gs' v →
     (∀ G, gs' <+: G → ∀ σ, Lv G σ v = (Lv G σ x != Lv G σ y)) → Q (.int v tv) { s with heap := h', toks := tk' }),
   wpAny (model prog w) (ktrTop dp un gd cn cs L a ccd cl outer) (call (.ref 119) [.ref cx, .int x tx, .int y ty]) Q E s := by
  w_top off
  k_with_none
  k_with "call ref" => (k_here; (with_reducible show wpAny _ _ (call (Value.ref 112) _ _) _ _ _); k_dflt (refine' iff_ok (by assumption) (by k_asm) (by k_asm) (by k_asm) (by k_asm) (by exact rfl) (by k_asm) (by assumption) (by first | assumption | exact Ok.neg (by assumption) | exact Ok.prefix (by assumption) (by assumption) | exact Ok.prefix (by assumption) (Ok.prefix (by assumption) (by assumption)) | exact Ok.neg (Ok.prefix (by assumption) (by assumption)) | exact Ok.sub0 (by assumption) | exact Ok.sub0 (Ok.prefix (by assumption) (by assumption))) (by first | assumption | exact Ok.neg (by assumption) | exact Ok.prefix (by assumption) (by assumption) | exact Ok.prefix (by assumption) (Ok.prefix (by assumption) (by assumption)) | exact Ok.neg (Ok.prefix (by assumption) (by assumption)) | exact Ok.sub0 (by assumption) | exact Ok.sub0 (Ok.prefix (by assumption) (by assumption))) (by omega) (by ktr_room) (by ktr_units) (stopI ?_)))
  k_fill
  intro prog w p loose mean mg mb hp dp un gd cn cs a ccd cl outer A₀ base h₀ L m s Q E cx cd ck cp ckn t1 t2 t3 x y tx ty gs news B F X T hk N C hox hoy hz hdp hun ret
  refine wpAny_call ?_
  k_dflt ktr_enter
  have hcx := C.hx
  have hcd := C.hd
  k_steps
  unfold Stop
  intro v1 tv1 gs1 news1 h1 tk1 F1 N1 C1 K1 p1 l1 o1 s1
  try dsimp only
  have hcx1 := C1.hx
  have hcd1 := C1.hd
  k_steps
  refine ret _ _ gs1 _ _ _ (by assumption) (by assumption) C1 K1 p1 (by omega) o1.neg fun G hG σ => ?_
  have q1 : gs1 <+: G := hG
  rw [Lv_neg G σ o1.1, s1 G q1 σ]
  cases Lv G σ x <;> cases Lv G σ y <;> rfl
end

end Mine
end

section
open PySem PyProof.Rows
namespace Mine
/-- bit r of a table -/
def tb (T : Int) (r : Nat) : Bool := T.toNat.testBit r
/-- a table of R rows -/
def Tab (R : Nat) (T : Int) : Prop := 0 ≤ T ∧ T < ((2 ^ R : Nat) : Int)

theorem Tab.nat {R : Nat} {T : Int} (h : Tab R T) : ∃ n : Nat, T = n ∧ n < 2 ^ R := ⟨T.toNat, (Int.toNat_of_nonneg h.1).symm, by have h2 := h.2; have h1 := h.1; generalize (2 ^ R : Nat) = P at *; omega⟩
theorem tab_and {R : Nat} {x y : Int} (hx : Tab R x) (hy : Tab R y) : Tab R (Builtin.bitAnd x y) ∧ ∀ r, tb (Builtin.bitAnd x y) r = (tb x r && tb y r) := by
  obtain ⟨a, rfl, ha⟩ := hx.nat
  obtain ⟨b, rfl, hb⟩ := hy.nat
  rw [bitAnd_pp (by omega) (by omega)]
  simp only [Int.toNat_natCast]
  exact ⟨⟨by omega, by have := Nat.and_le_left (n := a) (m := b); generalize (2 ^ R : Nat) = P at *; omega⟩, fun r => by simp [tb]⟩
theorem nat_or_eq (a b : Nat) : Builtin.bitOr (a : Int) (b : Int) = ((a ||| b : Nat) : Int) := by
  rw [bitOr_and, bitAnd_pp (by omega) (by omega)]
  simp only [Int.toNat_natCast]
  have := nat_or_add_and a b
  omega
theorem tab_or {R : Nat} {x y : Int} (hx : Tab R x) (hy : Tab R y) : Tab R (Builtin.bitOr x y) ∧ ∀ r, tb (Builtin.bitOr x y) r = (tb x r || tb y r) := by
  obtain ⟨a, rfl, ha⟩ := hx.nat
  obtain ⟨b, rfl, hb⟩ := hy.nat
  rw [nat_or_eq]
  exact ⟨⟨by omega, by have := Nat.or_lt_two_pow ha hb; generalize (2 ^ R : Nat) = P at *; omega⟩, fun r => by simp [tb]⟩
theorem nat_xor_eq (a b : Nat) : (a ^^^ b) + (a &&& b) = a ||| b := by
  have h := nat_or_add_and (a ^^^ b) (a &&& b)
  have e1 : (a ^^^ b) ||| (a &&& b) = a ||| b := Nat.eq_of_testBit_eq fun i => by
    simp only [Nat.testBit_or, Nat.testBit_xor, Nat.testBit_and]
    cases a.testBit i <;> cases b.testBit i <;> rfl
  have e2 : (a ^^^ b) &&& (a &&& b) = 0 := Nat.eq_of_testBit_eq fun i => by
    simp only [Nat.testBit_xor, Nat.testBit_and, Nat.zero_testBit]
    cases a.testBit i <;> cases b.testBit i <;> rfl
  omega
theorem tab_xor {R : Nat} {x y : Int} (hx : Tab R x) (hy : Tab R y) : Tab R (Builtin.bitXor x y) ∧ ∀ r, tb (Builtin.bitXor x y) r = (tb x r != tb y r) := by
  obtain ⟨a, rfl, ha⟩ := hx.nat
  obtain ⟨b, rfl, hb⟩ := hy.nat
  have e : Builtin.bitXor (a : Int) (b : Int) = ((a ^^^ b : Nat) : Int) := by
    show Builtin.bitOr (a : Int) (b : Int) - Builtin.bitAnd (a : Int) (b : Int) = _
    rw [nat_or_eq, bitAnd_pp (by omega) (by omega)]
    simp only [Int.toNat_natCast]
    have := nat_xor_eq a b
    omega
  rw [e]
  exact ⟨⟨by omega, by have := Nat.xor_lt_two_pow ha hb; generalize (2 ^ R : Nat) = P at *; omega⟩, fun r => by simp [tb]⟩
theorem tab_not {R : Nat} {full x : Int} (hf : full = ((2 ^ R : Nat) : Int) - 1) (hx : Tab R x) : Tab R (full - x) ∧ ∀ r, r < R → tb (full - x) r = !tb x r := by
  obtain ⟨a, rfl, ha⟩ := hx.nat
  refine ⟨⟨by generalize (2 ^ R : Nat) = P at *; omega, by generalize (2 ^ R : Nat) = P at *; omega⟩, fun r hr => ?_⟩
  have e : (full - (a : Int)).toNat = 2 ^ R - (a + 1) := by generalize (2 ^ R : Nat) = P at *; omega
  unfold tb
  rw [e, Nat.testBit_two_pow_sub_succ ha]
  simp [hr]
theorem tab_full {R : Nat} {full : Int} (hf : full = ((2 ^ R : Nat) : Int) - 1) : Tab R full ∧ ∀ r, r < R → tb full r = true := by
  have h0 : Tab R 0 := ⟨by omega, by have := Nat.two_pow_pos R; generalize (2 ^ R : Nat) = P at *; omega⟩
  obtain ⟨h1, h2⟩ := tab_not hf h0
  rw [Int.sub_zero] at h1 h2
  exact ⟨h1, fun r hr => by rw [h2 r hr]; simp [tb]⟩
end Mine
end

section
open PySem PySem.W PyProof.Rows PySem.Calls
namespace Mine
set_option maxRecDepth 100000
set_option maxHeartbeats 8000000
section
local macro_rules | `(tactic| k_mem) => `(tactic| assumption)

theorem law_link_ok : ∀ {prog : Program} {w : World} {p : Program} {loose : List Str} {mean : ExcName → Option Value} {mg mb : Str → Option Value}
   (hpr : prog = PySem.Challenge.rw_nz0380_01.row.prog)
   {dp un : Nat} {gd : Option (List Code)} {cn : Str} {cs : Scope} {a : Addr} {ccd : Value} {cl : List (Str × Addr)} {outer : List Env} {A₀ : Around} {base h₀ : Heap} {L : Addr} {m : Str → Option Value} {s : Shared} {Q E : Value → Shared → Prop}
   {cx cd ck cp ckn qp qa qb qx : Nat} {t1 t2 t3 : Tok} {R : Nat} {way full va vs vb vt vx vu : Int} {k1 k2 k3 k4 k5 k6 k7 k8 : Tok} {gs : List Gate} {news : List (Addr × Obj)}
   (B : Below A₀ base outer h₀) (F : Fr h₀ L s.heap m) (X : (hd.heap_39 w.params).In h₀) (T : Top p loose mean mg mb h₀) (hk : cs.kind = .function) (N : News h₀ L s.heap news) (C : CircIn prog w news cx cd ck cp ckn t1 t2 t3 gs)
   (hp : (qp, tupOf #[.ref qa, .ref qb, .ref qx]) ∈ news) (ha : (qa, tupOf #[.int va k1, .int vs k2]) ∈ news) (hb : (qb, tupOf #[.int vb k3, .int vt k4]) ∈ news) (hx : (qx, tupOf #[.int vx k5, .int vu k6]) ∈ news)
   (hoa : Ok gs va) (hob : Ok gs vb) (hox : Ok gs vx) (hz : gs.length ≤ 8900)
   (hf : full = ((2 ^ R : Nat) : Int) - 1) (hs : Tab R vs) (ht : Tab R vt) (hu : Tab R vu)
   (hdp : dp + 100 < recursionLimit) (hun : un + 900 < cLine)
   (ret : ∀ tr v Tv k9 k10 gs' news' h' tk' (f : Bool → Bool → Bool → Bool), Fr h₀ L h' m → News h₀ L h' news' → CircIn prog w news' cx cd ck cp ckn t1 t2 t3 gs' → KeepC ck cp ckn news news' → (tr, tupOf #[.int v k9, .int Tv k10]) ∈ news' → gs <+: gs' → gs'.length ≤ gs.length + 5 → Ok gs' v →
     Tab R Tv → (∀ G, gs' <+: G → ∀ σ, Lv G σ v = f (Lv G σ va) (Lv G σ vb) (Lv G σ vx)) → (∀ r, r < R → tb Tv r = f (tb vs r) (tb vt r) (tb vu r)) → Q (.ref tr) { s with heap := h', toks := tk' }),
   wpAny (model prog w) (ktrTop dp un gd cn cs L a ccd cl outer) (call (.ref 173) [.ref cx, .int way k7, .ref qp, .int full k8]) Q E s := by
  w_top off
  k_with_none
  k_with "call ref" => (k_here; (with_reducible show wpAny _ _ (call (Value.ref 91) _ _) _ _ _); k_dflt (refine' both_ok (by assumption) (by k_asm) (by k_asm) (by k_asm) (by k_asm) (by exact rfl) (by k_asm) (by assumption) (by first | assumption | exact Ok.neg (by assumption) | exact Ok.prefix (by assumption) (by assumption) | exact Ok.prefix (by assumption) (Ok.prefix (by assumption) (by assumption)) | exact Ok.neg (Ok.prefix (by assumption) (by assumption)) | exact Ok.sub0 (by assumption) | exact Ok.sub0 (Ok.prefix (by assumption) (by assumption))) (by first | assumption | exact Ok.neg (by assumption) | exact Ok.prefix (by assumption) (by assumption) | exact Ok.prefix (by assumption) (Ok.prefix (by assumption) (by assumption)) | exact Ok.neg (Ok.prefix (by assumption) (by assumption)) | exact Ok.sub0 (by assumption) | exact Ok.sub0 (Ok.prefix (by assumption) (by assumption))) (by omega) (by ktr_room) (by ktr_units) (stopI ?_)))
  k_with "call ref" => (k_here; (with_reducible show wpAny _ _ (call (Value.ref 98) _ _) _ _ _); k_dflt (refine' either_ok (by assumption) (by k_asm) (by k_asm) (by k_asm) (by k_asm) (by exact rfl) (by k_asm) (by assumption) (by first | assumption | exact Ok.neg (by assumption) | exact Ok.prefix (by assumption) (by assumption) | exact Ok.prefix (by assumption) (Ok.prefix (by assumption) (by assumption)) | exact Ok.neg (Ok.prefix (by assumption) (by assumption)) | exact Ok.sub0 (by assumption) | exact Ok.sub0 (Ok.prefix (by assumption) (by assumption))) (by first | assumption | exact Ok.neg (by assumption) | exact Ok.prefix (by assumption) (by assumption) | exact Ok.prefix (by assumption) (Ok.prefix (by assumption) (by assumption)) | exact Ok.neg (Ok.prefix (by assumption) (by assumption)) | exact Ok.sub0 (by assumption) | exact Ok.sub0 (Ok.prefix (by assumption) (by assumption))) (by omega) (by ktr_room) (by ktr_units) (stopI ?_)))
  k_with "call ref" => (k_here; (with_reducible show wpAny _ _ (call (Value.ref 112) _ _) _ _ _); k_dflt (refine' iff_ok (by assumption) (by k_asm) (by k_asm) (by k_asm) (by k_asm) (by exact rfl) (by k_asm) (by assumption) (by first | assumption | exact Ok.neg (by assumption) | exact Ok.prefix (by assumption) (by assumption) | exact Ok.prefix (by assumption) (Ok.prefix (by assumption) (by assumption)) | exact Ok.neg (Ok.prefix (by assumption) (by assumption)) | exact Ok.sub0 (by assumption) | exact Ok.sub0 (Ok.prefix (by assumption) (by assumption))) (by first | assumption | exact Ok.neg (by assumption) | exact Ok.prefix (by assumption) (by assumption) | exact Ok.prefix (by assumption) (Ok.prefix (by assumption) (by assumption)) | exact Ok.neg (Ok.prefix (by assumption) (by assumption)) | exact Ok.sub0 (by assumption) | exact Ok.sub0 (Ok.prefix (by assumption) (by assumption))) (by omega) (by ktr_room) (by ktr_units) (stopI ?_)))
  k_with "call ref" => (k_here; (with_reducible show wpAny _ _ (call (Value.ref 119) _ _) _ _ _); k_dflt (refine' unlike_ok (by assumption) (by k_asm) (by k_asm) (by k_asm) (by k_asm) (by exact rfl) (by k_asm) (by assumption) (by first | assumption | exact Ok.neg (by assumption) | exact Ok.prefix (by assumption) (by assumption) | exact Ok.prefix (by assumption) (Ok.prefix (by assumption) (by assumption)) | exact Ok.neg (Ok.prefix (by assumption) (by assumption)) | exact Ok.sub0 (by assumption) | exact Ok.sub0 (Ok.prefix (by assumption) (by assumption))) (by first | assumption | exact Ok.neg (by assumption) | exact Ok.prefix (by assumption) (by assumption) | exact Ok.prefix (by assumption) (Ok.prefix (by assumption) (by assumption)) | exact Ok.neg (Ok.prefix (by assumption) (by assumption)) | exact Ok.sub0 (by assumption) | exact Ok.sub0 (Ok.prefix (by assumption) (by assumption))) (by omega) (by ktr_room) (by ktr_units) (stopI ?_)))
  k_with "call ref" => (k_here; (with_reducible show wpAny _ _ (call (Value.ref 126) _ _) _ _ _); k_dflt (refine' choose_ok (by assumption) (by k_asm) (by k_asm) (by k_asm) (by k_asm) (by exact rfl) (by k_asm) (by assumption) (by first | assumption | exact Ok.neg (by assumption) | exact Ok.prefix (by assumption) (by assumption) | exact Ok.prefix (by assumption) (Ok.prefix (by assumption) (by assumption)) | exact Ok.neg (Ok.prefix (by assumption) (by assumption)) | exact Ok.sub0 (by assumption) | exact Ok.sub0 (Ok.prefix (by assumption) (by assumption))) (by first | assumption | exact Ok.neg (by assumption) | exact Ok.prefix (by assumption) (by assumption) | exact Ok.prefix (by assumption) (Ok.prefix (by assumption) (by assumption)) | exact Ok.neg (Ok.prefix (by assumption) (by assumption)) | exact Ok.sub0 (by assumption) | exact Ok.sub0 (Ok.prefix (by assumption) (by assumption))) (by first | assumption | exact Ok.neg (by assumption) | exact Ok.prefix (by assumption) (by assumption) | exact Ok.prefix (by assumption) (Ok.prefix (by assumption) (by assumption)) | exact Ok.neg (Ok.prefix (by assumption) (by assumption)) | exact Ok.sub0 (by assumption) | exact Ok.sub0 (Ok.prefix (by assumption) (by assumption))) (by omega) (by ktr_room) (by ktr_units) (stopI ?_)))
  k_fill
  intro prog w p loose mean mg mb hp dp un gd cn cs a ccd cl outer A₀ base h₀ L m s Q E cx cd ck cp ckn qp qa qb qx t1 t2 t3 R way full va vs vb vt vx vu k1 k2 k3 k4 k5 k6 k7 k8 gs news B F X T hk N C hp' ha hb hx hoa hob hox hz hf hs ht hu hdp hun ret
  refine wpAny_call ?_
  k_dflt ktr_enter
  have hcx := C.hx
  have hcd := C.hd
  k_steps
  · unfold Stop
    intro v1 tv1 gs1 news1 h1 tk1 F1 N1 C1 K1 p1 l1 o1 s1
    try dsimp only
    have hcx1 := C1.hx
    have hcd1 := C1.hd
    k_steps
    refine ret _ _ _ _ _ gs1 _ _ _ (fun a _ x => a != x) (by assumption) (by assumption) (C1.mono fun _ h => List.mem_cons_of_mem _ h) (fun q hq a1 a2 a3 => List.mem_cons_of_mem _ (K1 q hq a1 a2 a3)) (.head _) p1 (by omega) o1 ?_ (fun G hG σ => ?_) (fun r hr => ?_)
    · exact (tab_xor hs hu).1
    · have q1 : gs1 <+: G := hG
      exact s1 G q1 σ
    · exact (tab_xor hs hu).2 r
  · unfold Stop
    intro v1 tv1 gs1 news1 h1 tk1 F1 N1 C1 K1 p1 l1 o1 s1
    try dsimp only
    have hcx1 := C1.hx
    have hcd1 := C1.hd
    k_steps
    refine ret _ _ _ _ _ gs1 _ _ _ (fun a b x => if x then a else b) (by assumption) (by assumption) (C1.mono fun _ h => List.mem_cons_of_mem _ h) (fun q hq a1 a2 a3 => List.mem_cons_of_mem _ (K1 q hq a1 a2 a3)) (.head _) p1 (by omega) o1 ?_ (fun G hG σ => ?_) (fun r hr => ?_)
    · exact (tab_or (tab_and hu hs).1 (tab_and (tab_not hf hu).1 ht).1).1
    · have q1 : gs1 <+: G := hG
      exact s1 G q1 σ
    · rw [(tab_or (tab_and hu hs).1 (tab_and (tab_not hf hu).1 ht).1).2, (tab_and hu hs).2, (tab_and (tab_not hf hu).1 ht).2, (tab_not hf hu).2 r hr]
      cases tb vu r <;> cases tb vs r <;> cases tb vt r <;> rfl
  · unfold Stop
    intro v1 tv1 gs1 news1 h1 tk1 F1 N1 C1 K1 p1 l1 o1 s1
    try dsimp only
    have hcx1 := C1.hx
    have hcd1 := C1.hd
    k_steps
    unfold Stop
    intro v2 tv2 gs2 news2 h2 tk2 F2 N2 C2 K2 p2 l2 o2 s2
    try dsimp only
    have hcx2 := C2.hx
    have hcd2 := C2.hd
    k_steps
    refine ret _ _ _ _ _ gs2 _ _ _ (fun a b x => (a == (b || x))) (by assumption) (by assumption) (C2.mono fun _ h => List.mem_cons_of_mem _ h) (fun q hq a1 a2 a3 => List.mem_cons_of_mem _ ((K1.trans K2) q hq a1 a2 a3)) (.head _) (p1.trans p2) (by omega) o2 ?_ (fun G hG σ => ?_) (fun r hr => ?_)
    · exact (tab_not hf (tab_xor hs (tab_or ht hu).1).1).1
    · have q2 : gs2 <+: G := hG
      have q1 : gs1 <+: G := p2.trans q2
      rw [s2 G q2 σ, s1 G q1 σ]
    · rw [(tab_not hf (tab_xor hs (tab_or ht hu).1).1).2 r hr, (tab_xor hs (tab_or ht hu).1).2, (tab_or ht hu).2]
      cases tb vu r <;> cases tb vs r <;> cases tb vt r <;> rfl
  · unfold Stop
    intro v1 tv1 gs1 news1 h1 tk1 F1 N1 C1 K1 p1 l1 o1 s1
    try dsimp only
    have hcx1 := C1.hx
    have hcd1 := C1.hd
    k_steps
    unfold Stop
    intro v2 tv2 gs2 news2 h2 tk2 F2 N2 C2 K2 p2 l2 o2 s2
    try dsimp only
    have hcx2 := C2.hx
    have hcd2 := C2.hd
    k_steps
    unfold Stop
    intro v3 tv3 gs3 news3 h3 tk3 F3 N3 C3 K3 p3 l3 o3 s3
    try dsimp only
    have hcx3 := C3.hx
    have hcd3 := C3.hd
    k_steps
    refine ret _ _ _ _ _ gs3 _ _ _ (fun a b x => ((a || x) && (a || !b))) (by assumption) (by assumption) (C3.mono fun _ h => List.mem_cons_of_mem _ h) (fun q hq a1 a2 a3 => List.mem_cons_of_mem _ (((K1.trans K2).trans K3) q hq a1 a2 a3)) (.head _) ((p1.trans p2).trans p3) (by omega) o3 ?_ (fun G hG σ => ?_) (fun r hr => ?_)
    · exact (tab_and (tab_or hs hu).1 (tab_or hs (tab_not hf ht).1).1).1
    · have q3 : gs3 <+: G := hG
      have q2 : gs2 <+: G := p3.trans q3
      have q1 : gs1 <+: G := p2.trans q2
      rw [s3 G q3 σ, s2 G q2 σ, s1 G q1 σ, Int.zero_sub, Lv_neg G σ hob.1]
    · rw [(tab_and (tab_or hs hu).1 (tab_or hs (tab_not hf ht).1).1).2, (tab_or hs hu).2, (tab_or hs (tab_not hf ht).1).2, (tab_not hf ht).2 r hr]
  · unfold Stop
    intro v1 tv1 gs1 news1 h1 tk1 F1 N1 C1 K1 p1 l1 o1 s1
    try dsimp only
    have hcx1 := C1.hx
    have hcd1 := C1.hd
    k_steps
    unfold Stop
    intro v2 tv2 gs2 news2 h2 tk2 F2 N2 C2 K2 p2 l2 o2 s2
    try dsimp only
    have hcx2 := C2.hx
    have hcd2 := C2.hd
    k_steps
    unfold Stop
    intro v3 tv3 gs3 news3 h3 tk3 F3 N3 C3 K3 p3 l3 o3 s3
    try dsimp only
    have hcx3 := C3.hx
    have hcd3 := C3.hd
    k_steps
    refine ret _ _ _ _ _ gs3 _ _ _ (fun a b x => ((a && x) || (!a && b))) (by assumption) (by assumption) (C3.mono fun _ h => List.mem_cons_of_mem _ h) (fun q hq a1 a2 a3 => List.mem_cons_of_mem _ (((K1.trans K2).trans K3) q hq a1 a2 a3)) (.head _) ((p1.trans p2).trans p3) (by omega) o3 ?_ (fun G hG σ => ?_) (fun r hr => ?_)
    · exact (tab_or (tab_and hs hu).1 (tab_and (tab_not hf hs).1 ht).1).1
    · have q3 : gs3 <+: G := hG
      have q2 : gs2 <+: G := p3.trans q3
      have q1 : gs1 <+: G := p2.trans q2
      rw [s3 G q3 σ, s2 G q2 σ, s1 G q1 σ, Int.zero_sub, Lv_neg G σ hoa.1]
    · rw [(tab_or (tab_and hs hu).1 (tab_and (tab_not hf hs).1 ht).1).2, (tab_and hs hu).2, (tab_and (tab_not hf hs).1 ht).2, (tab_not hf hs).2 r hr]
end

end Mine
end

section
open PySem PySem.W PyProof.Rows PySem.Calls
namespace Mine
set_option maxRecDepth 100000
set_option maxHeartbeats 8000000
/-- the heap bears the circuit (nothing of it is turned here) -/
structure CircB (h : Heap) (w : World) (cx cd ck cp ckn : Nat) (t1 t2 t3 : Tok) (gs : List Gate) : Prop where
  hx : h.get? cx = some (instObj 129 cd)
  hd : h.get? cd = some (cDict w ck cp ckn t1 t2 t3)
  hk : ∃ kv n1, h.get? ck = some (PySem.W.listOf kv n1) ∧ KindsAre gs kv
  hp : ∃ pv n2, h.get? cp = some (PySem.W.listOf pv n2) ∧ pv.size = gs.length ∧ ∀ (i : Nat) g, gs[i]? = some g → ∃ a its, pv[i]? = some (.ref a) ∧ h.get? a = some (tupOf its) ∧ IntsAre its.toList g.parts
  wf : WF gs
theorem CircB.keeps {h h' : Heap} {w : World} {cx cd ck cp ckn : Nat} {t1 t2 t3 : Tok} {gs : List Gate} (C : CircB h w cx cd ck cp ckn t1 t2 t3 gs) (k : ∀ b o, h.get? b = some o → h'.get? b = some o) : CircB h' w cx cd ck cp ckn t1 t2 t3 gs := by
  obtain ⟨hx, hd, ⟨kv, n1, k1, k2⟩, ⟨pv, n2, p1, p2, p3⟩, wf⟩ := C
  refine ⟨k _ _ hx, k _ _ hd, ⟨kv, n1, k _ _ k1, k2⟩, ⟨pv, n2, k _ _ p1, p2, fun i g e => ?_⟩, wf⟩
  obtain ⟨a, its, h1, h2, h3⟩ := p3 i g e
  exact ⟨a, its, h1, k _ _ h2, h3⟩
theorem CircIn.base {prog : Program} {w : World} {h₀ h : Heap} {L : Addr} {news : List (Addr × Obj)} {cx cd ck cp ckn : Nat} {t1 t2 t3 : Tok} {gs : List Gate} (C : CircIn prog w news cx cd ck cp ckn t1 t2 t3 gs) (N : News h₀ L h news) : CircB h w cx cd ck cp ckn t1 t2 t3 gs := by
  obtain ⟨hx, hd, ⟨kv, n1, k1, k2⟩, ⟨pv, n2, p1, p2, p3⟩, _, lo, wf, ne1, ne2⟩ := C
  refine ⟨(N _ hx).1, (N _ hd).1, ⟨kv, n1, (N _ k1).1, k2⟩, ⟨pv, n2, (N _ p1).1, p2, fun i g e => ?_⟩, wf⟩
  obtain ⟨a, its, h1, h2, h3⟩ := p3 i g e
  exact ⟨a, its, h1, (N _ h2).1, h3⟩
theorem inst_base {h₀ h : Heap} {L x C dx : Addr} {m : Str → Option Value} {od : Obj} (F : Fr h₀ L h m) (h1 : h₀.get? x = some (⟨.ref C, some dx, .plain, #[]⟩ : Obj)) (h2 : h₀.get? dx = some od) :
    InstAt h x ⟨.ref C, some dx, .plain, #[]⟩ C (some od) := ⟨F.keep _ _ h1, rfl, rfl, F.keep _ _ h2⟩
theorem list_item {prog : Program} {w : World} {A : Around} {E : Value → Shared → Prop} {s : Shared} {value slice : PySem.Expr} {l : Addr} {its : Array Value} {n : Nat} {k : Int} {u : Tok} {v : Value} {h₀ : Heap} {L : Addr} {m : Str → Option Value} {Q : Value → Shared → Prop}
    (F : Fr h₀ L s.heap m) (hl : h₀.get? l = some (PySem.W.listOf its n)) (h0 : 0 ≤ k) (hhi : k < 2 ^ 63) (hx : its[k.toNat]? = some v) (h : Q v s)
    (hs : subscripted slice false (.ref l) (.int k u) = operate [.ref l, .int k u] (getItem (.ref l) (.int k u)) := by with_unfolding_all rfl) :
    wpAny (model prog w) A (subscriptTail value slice (.ref l) (.int k u)) Q E s :=
  have hL : s.heap.IsList l its := ⟨_, F.keep _ _ hl, rfl, n, rfl⟩
  tail_any hL.typeIs slot_list_getitem.lookup (wpAny_getItem_list hL h0 hhi hx h) hs

section
local macro_rules | `(tactic| k_inst) => `(tactic| exact inst_base (by k_asm) (by assumption) (by assumption))
theorem parts_ok : ∀ {prog : Program} {w : World} {p : Program} {loose : List Str} {mean : ExcName → Option Value} {mg mb : Str → Option Value}
   (hpr : prog = PySem.Challenge.rw_nz0380_01.row.prog)
   {dp un : Nat} {gd : Option (List Code)} {cn : Str} {cs : Scope} {a : Addr} {ccd : Value} {cl : List (Str × Addr)} {outer : List Env} {A₀ : Around} {base h₀ : Heap} {L : Addr} {m : Str → Option Value} {s : Shared} {Q E : Value → Shared → Prop}
   {cx cd ck cp ckn : Nat} {t1 t2 t3 tk : Tok} {i : Nat} {gs : List Gate} {gt : Gate} {news : List (Addr × Obj)}
   (B : Below A₀ base outer h₀) (F : Fr h₀ L s.heap m) (X : (hd.heap_39 w.params).In h₀) (T : Top p loose mean mg mb h₀) (hk : cs.kind = .function) (N₁ : News h₀ L s.heap news) (C : CircB h₀ w cx cd ck cp ckn t1 t2 t3 gs) (hi : gs[i]? = some gt) (hz : gs.length ≤ 10000)
   (hdp : dp + 60 < recursionLimit) (hun : un + 500 < cLine)
   (ret : ∀ a its h' tk', Fr h₀ L h' m → News h₀ L h' news → h₀.get? a = some (tupOf its) → IntsAre its.toList gt.parts → Q (.ref a) { s with heap := h', toks := tk' }),
   wpAny (model prog w) (ktrTop dp un gd cn cs L a ccd cl outer) (call (.ref 56) [.ref cx, .int (i : Int) tk]) Q E s := by
  w_top off
  k_with_none
  k_with "subscriptTail" => (k_here; (with_reducible show wpAny _ _ (subscriptTail _ _ (Value.ref _) (Value.int _ _)) _ _ _); k_dflt (refine' list_item (by k_asm) (by assumption) (by omega) (by omega) (by assumption) ?_ (by with_unfolding_all rfl); k_whole))
  k_fill
  intro prog w p loose mean mg mb hp dp un gd cn cs a ccd cl outer A₀ base h₀ L m s Q E cx cd ck cp ckn t1 t2 t3 tk i gs gt news B F X T hk N₁ C hi hz hdp hun ret
  have hilt : i < gs.length := (List.getElem?_eq_some_iff.mp hi).1
  have N : News h₀ L s.heap [] := News.nil
  refine wpAny_call ?_
  k_dflt (refine' code_defG ?k1 ?k2 ?k3 ?k4 ?k5 ?kA ?kF ?kK ?k6 ?k7 ?k8 ?k9 ?kB ?_ ?c2 ?c3 ?c4 ?c5; (case kA => exact rfl); (case kF => exact rfl); (case kK => first | assumption | exact rfl); (case k1 => k_asm); (case k2 => k_asm); (case k3 => k_asm); (case k4 => exact N); (case k5 => k_asm); (case k6 => k_is); (case k7 => k_is); (case k8 => ktr_room); (case k9 => exact BindsTo.of_eq rfl); (case c5 => decide); (case kB => exact locs rfl); (case c2 => exact rfl); (case c3 => exact rfl); (case c4 => exact rfl); k_whole)
  intro g L' h₁ FG F' N' B' X' T' gk
  try dsimp only
  k_fold
  obtain ⟨hx, hd, ⟨kv, n1, k1, k2⟩, ⟨pv, n2, p1, p2, p3⟩, wf⟩ := C
  obtain ⟨aa, its, q1, q2, q3⟩ := p3 i gt hi
  replace hx := FG.keep _ _ hx
  replace hd := FG.keep _ _ hd
  replace k1 := FG.keep _ _ k1
  replace p1 := FG.keep _ _ p1
  k_steps
  (with_reducible rename Fr h₀ L _ m => kF9)
  (with_reducible rename Fr g L' _ _ => kG9)
  exact ret _ _ _ _ kF9 (fun q hq => ⟨kG9.keep _ _ (gk _ _ (N₁ q hq).1 (by simp)), (N₁ q hq).2⟩) q2 q3
theorem kind_ok : ∀ {prog : Program} {w : World} {p : Program} {loose : List Str} {mean : ExcName → Option Value} {mg mb : Str → Option Value}
   (hpr : prog = PySem.Challenge.rw_nz0380_01.row.prog)
   {dp un : Nat} {gd : Option (List Code)} {cn : Str} {cs : Scope} {a : Addr} {ccd : Value} {cl : List (Str × Addr)} {outer : List Env} {A₀ : Around} {base h₀ : Heap} {L : Addr} {m : Str → Option Value} {s : Shared} {Q E : Value → Shared → Prop}
   {cx cd ck cp ckn : Nat} {t1 t2 t3 tk : Tok} {i : Nat} {gs : List Gate} {gt : Gate} {news : List (Addr × Obj)}
   (B : Below A₀ base outer h₀) (F : Fr h₀ L s.heap m) (X : (hd.heap_39 w.params).In h₀) (T : Top p loose mean mg mb h₀) (hk : cs.kind = .function) (N₁ : News h₀ L s.heap news) (C : CircB h₀ w cx cd ck cp ckn t1 t2 t3 gs) (hi : gs[i]? = some gt) (hz : gs.length ≤ 10000)
   (hdp : dp + 60 < recursionLimit) (hun : un + 500 < cLine)
   (ret : ∀ t h' tk', Fr h₀ L h' m → News h₀ L h' news → Q (.str gt.kind t) { s with heap := h', toks := tk' }),
   wpAny (model prog w) (ktrTop dp un gd cn cs L a ccd cl outer) (call (.ref 49) [.ref cx, .int (i : Int) tk]) Q E s := by
  w_top off
  k_with_none
  k_with "subscriptTail" => (k_here; (with_reducible show wpAny _ _ (subscriptTail _ _ (Value.ref _) (Value.int _ _)) _ _ _); k_dflt (refine' list_item (by k_asm) (by assumption) (by omega) (by omega) (by assumption) ?_ (by with_unfolding_all rfl); k_whole))
  k_fill
  intro prog w p loose mean mg mb hp dp un gd cn cs a ccd cl outer A₀ base h₀ L m s Q E cx cd ck cp ckn t1 t2 t3 tk i gs gt news B F X T hk N₁ C hi hz hdp hun ret
  have hilt : i < gs.length := (List.getElem?_eq_some_iff.mp hi).1
  have N : News h₀ L s.heap [] := News.nil
  refine wpAny_call ?_
  k_dflt (refine' code_defG ?k1 ?k2 ?k3 ?k4 ?k5 ?kA ?kF ?kK ?k6 ?k7 ?k8 ?k9 ?kB ?_ ?c2 ?c3 ?c4 ?c5; (case kA => exact rfl); (case kF => exact rfl); (case kK => first | assumption | exact rfl); (case k1 => k_asm); (case k2 => k_asm); (case k3 => k_asm); (case k4 => exact N); (case k5 => k_asm); (case k6 => k_is); (case k7 => k_is); (case k8 => ktr_room); (case k9 => exact BindsTo.of_eq rfl); (case c5 => decide); (case kB => exact locs rfl); (case c2 => exact rfl); (case c3 => exact rfl); (case c4 => exact rfl); k_whole)
  intro g L' h₁ FG F' N' B' X' T' gk
  try dsimp only
  k_fold
  obtain ⟨hx, hd, ⟨kv, n1, k1, k2⟩, ⟨pv, n2, p1, p2, p3⟩, wf⟩ := C
  obtain ⟨kt, q1⟩ := k2.2 i gt hi
  replace hx := FG.keep _ _ hx
  replace hd := FG.keep _ _ hd
  replace k1 := FG.keep _ _ k1
  k_steps
  (with_reducible rename Fr h₀ L _ m => kF9)
  (with_reducible rename Fr g L' _ _ => kG9)
  exact ret _ _ _ kF9 (fun q hq => ⟨kG9.keep _ _ (gk _ _ (N₁ q hq).1 (by simp)), (N₁ q hq).2⟩)
end

end Mine
end

section
open PySem PySem.W PyProof.Rows PySem.Calls
set_option maxHeartbeats 2000000
namespace Mine
open LCg LCt

/-- a tuple of the ground as a comprehension's source -/
def SrcTup (prog : Program) (w : World) (A : Around) (h₀ : Heap) (L : Addr) (m : Str → Option Value) (env : Env) (elt : PySem.Expr) (x : Str) (scope : Scope) (cl : List (Str × Addr)) (Fin : Shared → List Value → List (Addr × Obj) → Prop) (xv : Value) (s₁ : Shared) : Prop :=
  ∃ ax its news, xv = .ref ax ∧ A.handled = none ∧ Fr h₀ L s₁.heap m ∧ News h₀ L s₁.heap news ∧ h₀.get? ax = some ({ cls := .type "tuple", data := .seq its } : Obj) ∧ its.size ≤ sizeLine ∧
    ∀ s₂ : Shared, (∃ h, s₂ = { s₁ with heap := h }) → CompRest prog w A h₀ L m env elt x scope cl s₂ (fun _ => True) (fun i v => its[i]? = some v) (Fin s₂) its.size 0 [] news
def SrcTupT (prog : Program) (w : World) (A : Around) (h₀ : Heap) (L : Addr) (m : Str → Option Value) (env : Env) (ct elt : PySem.Expr) (x : Str) (scope : Scope) (cl : List (Str × Addr)) (Fin : Shared → List Value → List (Addr × Obj) → Prop) (xv : Value) (s₁ : Shared) : Prop :=
  ∃ ax its news, xv = .ref ax ∧ A.handled = none ∧ Fr h₀ L s₁.heap m ∧ News h₀ L s₁.heap news ∧ h₀.get? ax = some ({ cls := .type "tuple", data := .seq its } : Obj) ∧ its.size ≤ sizeLine ∧
    ∀ s₂ : Shared, (∃ h, s₂ = { s₁ with heap := h }) → CompRestT prog w A h₀ L m env ct elt x scope cl s₂ (fun _ => True) (fun i v => its[i]? = some v) (Fin s₂) its.size 0 [] news

section
variable {prog : Program} {w : World} {A : Around} {E : Value → Shared → Prop} {s : Shared} {h₀ : Heap} {L : Addr} {m : Str → Option Value} {env : Env}
theorem SrcTup.intro {elt : PySem.Expr} {x : Str} {scope : Scope} {cl : List (Str × Addr)} {Fin : Shared → List Value → List (Addr × Obj) → Prop} {ax : Addr} {its : Array Value} {news : List (Addr × Obj)} {s₁ : Shared}
    (hh : A.handled = none) (F : Fr h₀ L s₁.heap m) (N : News h₀ L s₁.heap news) (hl : h₀.get? ax = some ({ cls := .type "tuple", data := .seq its } : Obj)) (hsz : its.size ≤ sizeLine)
    (h : ∀ g, CompRest prog w A h₀ L m env elt x scope cl { s₁ with heap := g } (fun _ => True) (fun i v => its[i]? = some v) (Fin { s₁ with heap := g }) its.size 0 [] news) :
    SrcTup prog w A h₀ L m env elt x scope cl Fin (.ref ax) s₁ := ⟨ax, its, news, rfl, hh, F, N, hl, hsz, fun _ ⟨g, e⟩ => e ▸ h g⟩
theorem SrcTupT.intro {ct elt : PySem.Expr} {x : Str} {scope : Scope} {cl : List (Str × Addr)} {Fin : Shared → List Value → List (Addr × Obj) → Prop} {ax : Addr} {its : Array Value} {news : List (Addr × Obj)} {s₁ : Shared}
    (hh : A.handled = none) (F : Fr h₀ L s₁.heap m) (N : News h₀ L s₁.heap news) (hl : h₀.get? ax = some ({ cls := .type "tuple", data := .seq its } : Obj)) (hsz : its.size ≤ sizeLine)
    (h : ∀ g, CompRestT prog w A h₀ L m env ct elt x scope cl { s₁ with heap := g } (fun _ => True) (fun i v => its[i]? = some v) (Fin { s₁ with heap := g }) its.size 0 [] news) :
    SrcTupT prog w A h₀ L m env ct elt x scope cl Fin (.ref ax) s₁ := ⟨ax, its, news, rfl, hh, F, N, hl, hsz, fun _ ⟨g, e⟩ => e ▸ h g⟩

theorem tup_st {ax I : Addr} {its : Array Value} (hl : h₀.get? ax = some ({ cls := .type "tuple", data := .seq its } : Obj)) : ∀ i (h h' : Heap) (o : Obj) (nw : List (Addr × Obj)), (h.IsTupleIter I ax i ∧ h.IsTuple ax its) → h.get? I = some o → h'.get? I = some o →
    (∀ b o, h₀.get? b = some o → h'.get? b = some o) → News h₀ L h' nw → True → (h'.IsTupleIter I ax i ∧ h'.IsTuple ax its) :=
  fun i h h' o nw st e e' k _ _ => ⟨by obtain ⟨o', q, r⟩ := st.1; rw [e] at q; cases q; exact ⟨o, e', r⟩, ⟨_, k _ _ hl, rfl, _, rfl⟩⟩

theorem ListComp_UT {elt iter : PySem.Expr} {x : Str} {px : Pos} {scope : Scope} {cl : List (Str × Addr)} {pos : Pos} {Q : Value → Shared → Prop} (F₀ : Fr h₀ L s.heap m)
    (hclos : closureFor scope env = pure cl) (hcell : ∀ y ∈ scope.names, y.2 ≠ .cell) (hkind : scope.kind = .function)
    (hnames : ∀ y ∈ scope.names, y.2 = .local → scope.names.lookup y.1 = some .local) (hx : scope.names.lookup x = some .local)
    (h : wpAny (model prog w) A (eval iter env) (SrcTup prog w A h₀ L m env elt x scope cl (fun s₂ => FinE h₀ L m s₂ Q)) E s)
    (hs : ∀ x, foldedSetIterable iter env x = pure x := by intro _; rfl) :
    wpAny (model prog w) A (eval (.ListComp elt [⟨.Name x px, iter, [], 0⟩] scope pos) env) Q E s := by
  rw [eval_ListComp]
  refine wpAny_comprehension_free (use := none) rfl hs hclos hkind hnames (wpAny_mono h (fun xv s₁ h₁ => ?_) fun _ _ e => e)
  obtain ⟨ax, its, news, rfl, hh, F, N, S, hsz, R⟩ := h₁
  have hl : s₁.heap.IsTuple ax its := ⟨_, F.keep _ _ S, rfl, _, rfl⟩
  have hlt : ax < s₁.heap.objs.size := Heap.lt_size (F.keep _ _ S)
  refine wpAny_pyIter_tuple hl ?_
  have up : ∀ b o, s₁.heap.get? b = some o → (s₁.heap.push { cls := .type "tuple_iterator", data := .fields #[.ref ax, .int 0 0] }).get? b = some o := fun b o e => Heap.get?_push_of_some _ e
  refine block_U (S := fun _ => True) (Walks.tuple hh s₁.heap.objs.size ax (Nat.ne_of_lt hlt) its) hsz (fun i h st => by obtain ⟨o, e, _⟩ := st.1; exact ⟨o, e⟩) (tup_st S) hcell hkind hx ⟨⟨_, Heap.get?_push_size _ rfl, rfl, rfl⟩, hl.push _⟩ (fun b hb => ?_)
    (F.keeps up) (N.grown up) (Nat.ne_of_lt F.ns.lt) (next_is_new F) (fun p hp => Nat.ne_of_lt (Heap.lt_size (N p hp).1)) trivial (R _ ⟨_, rfl⟩) ?_
  · show b < (s₁.heap.push _).objs.size
    rw [Heap.size_push]
    rcases List.mem_cons.mp hb with rfl | hb
    · exact Nat.lt_succ_self _
    · rw [List.mem_singleton.mp hb]; exact Nat.lt_succ_of_lt hlt
  · intro D C h tk m' ys news' F' N' o1 hn hC₀ hD₀ hCL hDL hCD offC fin
    refine ⟨m', hn, fun h'' hs'' => fin D h'' tk (F'.change hs'' hCL hC₀) (fun p hp => ?_) o1⟩
    refine ⟨hs''.extBut _ _ ?_ (N' p hp).1, (N' p hp).2⟩
    rcases List.mem_cons.mp hp with rfl | hp
    · exact Ne.symm hCD
    · exact offC p hp

theorem Assign_ListComp_TT {ct elt iter : PySem.Expr} {x y : Str} {px py : Pos} {scope : Scope} {cl : List (Str × Addr)} {pos spos : Pos} {Q : Flow → Shared → Prop} (F₀ : Fr h₀ L s.heap m) (hLe : env.locals = L)
    (hsw : swapsWith (.ListComp elt [⟨.Name x px, iter, [ct], 0⟩] scope pos) (some (.Name y py)) spos.line env = pure true)
    (hclos : closureFor scope env = pure cl) (hcell : ∀ z ∈ scope.names, z.2 ≠ .cell) (hkind : scope.kind = .function)
    (hnames : ∀ z ∈ scope.names, z.2 = .local → scope.names.lookup z.1 = some .local) (hx : scope.names.lookup x = some .local)
    (hy : env.kindOf y = some .local) (hp : (env.scope.kind == .class || (env.scope.kind == .module && env.locals != env.globals)) = false)
    (h : wpAny (model prog w) A (eval iter env) (SrcTupT prog w A h₀ L m env ct elt x scope cl (fun s₂ => FinA h₀ L m s₂ y Q)) E s)
    (hs : ∀ x, foldedSetIterable iter env x = pure x := by intro _; rfl) :
    wpAny (model prog w) A (exec (.Assign [.Name y py] (.ListComp elt [⟨.Name x px, iter, [ct], 0⟩] scope pos) spos) env) Q E s := by
  subst hLe
  rw [exec_Assign_Name_used _ _ _ _ hsw]
  refine wpAny_bind (wpAny_standAt (wpAny_bind ?_))
  show wpAny _ A (do let _ ← comprehension (.ListComp elt [⟨.Name x px, iter, [ct], 0⟩] scope pos) scope env _ (newList []) false (eval iter env) (some (assign (.Name y py) env))) _ _ s
  refine wpAny_bind (wpAny_mono (wpAny_comprehension_free (use := some (assign (.Name y py) env)) (Q := fun _ s' => Q .next s') rfl hs hclos hkind hnames
    (wpAny_mono h (fun xv s₁ h₁ => ?_) fun _ _ e => e)) (fun _ s' hq => wpAny_pure (wpAny_pure hq)) fun _ _ e => e)
  obtain ⟨ax, its, news, rfl, hh, F, N, S, hsz, R⟩ := h₁
  have hl : s₁.heap.IsTuple ax its := ⟨_, F.keep _ _ S, rfl, _, rfl⟩
  have hlt : ax < s₁.heap.objs.size := Heap.lt_size (F.keep _ _ S)
  refine wpAny_pyIter_tuple hl ?_
  have up : ∀ b o, s₁.heap.get? b = some o → (s₁.heap.push { cls := .type "tuple_iterator", data := .fields #[.ref ax, .int 0 0] }).get? b = some o := fun b o e => Heap.get?_push_of_some _ e
  refine block_T (S := fun _ => True) (Walks.tuple hh s₁.heap.objs.size ax (Nat.ne_of_lt hlt) its) hsz (fun i h st => by obtain ⟨o, e, _⟩ := st.1; exact ⟨o, e⟩) (tup_st S) hcell hkind hx ⟨⟨_, Heap.get?_push_size _ rfl, rfl, rfl⟩, hl.push _⟩ (fun b hb => ?_)
    (F.keeps up) (N.grown up) (Nat.ne_of_lt F.ns.lt) (next_is_new F) (fun p hp => Nat.ne_of_lt (Heap.lt_size (N p hp).1)) trivial (R _ ⟨_, rfl⟩) ?_
  · show b < (s₁.heap.push _).objs.size
    rw [Heap.size_push]
    rcases List.mem_cons.mp hb with rfl | hb
    · exact Nat.lt_succ_self _
    · rw [List.mem_singleton.mp hb]; exact Nat.lt_succ_of_lt hlt
  · intro D C h' tk m' ys news' F' N' o1 hn hC₀ hD₀ hCL hDL hCD offC fin
    show wpAny _ A (assign (.Name y py) env (.ref D)) _ _ _
    refine wpAny_assign_Name (wpAny_storeName_local hy F'.ns (fun h₂ hn₂ hs₂ => ?_) hp)
    have hL₀ : h₀.get? env.locals = none := Heap.get?_none_of_le F'.above
    have F₂ : Fr h₀ env.locals h₂ (fun z => if z = y then some (.ref D) else m z) := ⟨hn₂, fun b o e => hs₂.extBut b o (fun q => by rw [q, hL₀] at e; cases e) (F'.keep b o e), F'.above⟩
    refine ⟨m', hn.sameBut hs₂ hCL, fun h'' hs'' => fin D h'' _ (F₂.change hs'' hCL hC₀) (fun p hp => ?_) o1⟩
    have z : h₂.get? p.1 = some p.2 := hs₂.extBut _ _ (N' p hp).2.1 (N' p hp).1
    refine ⟨hs''.extBut _ _ ?_ z, (N' p hp).2⟩
    rcases List.mem_cons.mp hp with rfl | hp
    · exact Ne.symm hCD
    · exact offC p hp
end

section
variable {prog : Program} {w : World} {A : Around} {E : Value → Shared → Prop} {s : Shared} {h₀ : Heap} {L d : Addr} {m : Str → Option Value} {news : List (Addr × Obj)} {o : Obj} {kvs : List (Int × Value)} {k : Int} {t : Tok}
theorem sym_notin {b : Bool} {Q : Value → Shared → Prop} (N : News h₀ L s.heap news) (hp : (d, o) ∈ news) (hd : o.IsDictOf (PySem.intKind prog w) kvs) (lo : (d == sysModules) = false) (hb : (valueAt kvs k).isSome = b) (h : Q (.bool (!b)) { s with toks := s.toks + 1 }) :
    wpAny (model prog w) A (compareOp .NotIn (.int k t) (.ref d)) Q E s := wpAny_notIn_of (intKind_is prog w k t) lo (kda_dict N hp hd).mapOf (by rw [hb]; exact h)
theorem base_get2 {Q : Value → Shared → Prop} {dflt v : Value} (F : Fr h₀ L s.heap m) (hd : h₀.DictOf (PySem.intKind prog w) d kvs) (lo : (d == sysModules) = false) (hv : (valueAt kvs k).getD dflt = v) (h : Q v { s with toks := s.toks + 1 }) :
    wpAny (model prog w) A (call (.builtin "dict.get") [.ref d, .int k t, dflt]) Q E s := by
  have hd' : s.heap.DictOf (PySem.intKind prog w) d kvs := by
    obtain ⟨o, h1, h2⟩ := Heap.dictOf_iff.mp hd
    exact Heap.dictOf_iff.mpr ⟨o, F.keep _ _ h1, h2⟩
  exact call_meetsIn PySem.F.slot_dict_get hd'.typeIs PySem.F.entry_dict_get (PySem.F.args_dict_get_3 _ _ _) (meets_dict_get_default (PySem.intKind prog w) d (intKind_is prog w k t) lo dflt) ⟨_, hd'.mapOf, by rw [hv]; exact h⟩
theorem base_getm {Q : Value × List Value → Shared → Prop} {pl : Sem Bool} (F : Fr h₀ L s.heap m) (hd : h₀.DictOf (PySem.intKind prog w) d kvs) (h : Q (.builtin "dict.get", [.ref d]) s) :
    wpAny (model prog w) A (getMethod (.ref d) "get" pl) Q E s := by
  obtain ⟨o, h1, h2⟩ := Heap.dictOf_iff.mp hd
  obtain ⟨es, ep, h3, _⟩ := h2
  exact getMethod_builtin ⟨_, F.keep _ _ h1, h3.1⟩ PySem.F.plainAttrs_dict PySem.F.slot_dict_get PySem.F.type_dict_get (fun a e => by cases e; exact ⟨_, F.keep _ _ h1, h3.2.1⟩) h
end
end Mine
namespace Mine
section
variable {prog : Program} {w : World} {A : Around} {E : Value → Shared → Prop} {s : Shared} {h₀ : Heap} {L D b : Addr} {m : Str → Option Value} {news news' : List (Addr × Obj)} {n n2 : Nat} {us ys : List Value} {y : Value}
theorem pop_snoc {Q : Value → Shared → Prop} (F : Fr h₀ L s.heap m) (N : News h₀ L s.heap news) (U : Upd D (PySem.W.listOf (us ++ [y]).toArray n) (PySem.W.listOf us.toArray (n + 1)) news news') (hz : us.length ≤ 100000)
    (h : ∀ h', Fr h₀ L h' m → News h₀ L h' news' → Q y { s with heap := h' }) : wpAny (model prog w) A (call (.builtin "list.pop") [.ref D]) Q E s :=
  kl_pop F N (p := us) (y := y) (kpa_last y us) U (by rw [sizeLine_eq]; simp; omega) h
theorem ext_list {Q : Value → Shared → Prop} (F : Fr h₀ L s.heap m) (N : News h₀ L s.heap news) (hb : (b, PySem.W.listOf ys.toArray n2) ∈ news) (U : Upd D (PySem.W.listOf us.toArray n) (PySem.W.listOf (us ++ ys).toArray (n + 1)) news news') (hz : us.length ≤ 100000) (hy : ys.length ≤ 1000) (hy0 : 0 < ys.length)
    (h : ∀ h', Fr h₀ L h' m → News h₀ L h' news' → Q .none { s with heap := h' }) : wpAny (model prog w) A (call (.builtin "list.extend") [.ref D, .ref b]) Q E s :=
  kl_extend F N hb rfl (by show ys.length ≠ 0; omega) U (by have := sizeLine_eq; simp [Builtin.List.listTooLong]; omega) (by rw [sizeLine_eq]; show us.length ≤ _; omega) (by rw [sizeLine_eq, List.size_toArray, List.size_toArray]; omega) h
theorem ints_snoc {v : List Value} {l : List Int} {x : Int} (h : IntsAre v (l ++ [x])) : ∃ v' t, v = v' ++ [.int x t] ∧ IntsAre v' l := by
  induction l generalizing v with
  | nil => cases h with | cons _ t h => cases h; exact ⟨[], t, rfl, .nil⟩
  | cons k r ih =>
    cases h with | cons _ t h =>
    obtain ⟨v', t', rfl, h'⟩ := ih h
    exact ⟨.int k t :: v', t', rfl, .cons k t h'⟩
end
end Mine
end

section
open PySem PyProof.Rows
namespace Mine
theorem valueAt_stored (kvs : List (Int × Value)) (k j : Int) (v : Value) : valueAt (stored kvs k v) j = if j = k then some v else valueAt kvs j := by
  unfold stored
  split
  · rename_i h
    induction kvs with
    | nil => simp at h
    | cons e r ih =>
      obtain ⟨a, b⟩ := e
      by_cases hk : a = k
      · subst hk
        by_cases hj : j = a
        · subst hj; simp [valueAt]
        · rw [if_neg hj]
          have hj' : ¬ a = j := fun e => hj e.symm
          by_cases hr : r.any (fun kv => decide (kv.1 = a)) = true
          · have := ih hr
            rw [if_neg hj] at this
            simp only [valueAt, List.map_cons, if_true, List.find?_cons, hj', decide_false] at this ⊢
            exact this
          · have hr' : r.map (fun kv => if kv.1 = a then (kv.1, v) else kv) = r := by
              rw [List.map_congr_left (g := id), List.map_id]
              intro kv hkv
              have : ¬ kv.1 = a := fun e => hr (List.any_eq_true.mpr ⟨kv, hkv, by simp [e]⟩)
              simp [this]
            rw [List.map_cons, hr']
            simp [valueAt, hj']
      · have hr : r.any (fun kv => decide (kv.1 = k)) = true := by simpa [hk] using h
        have := ih hr
        by_cases hj : a = j
        · subst hj
          rw [if_neg hk]; simp [valueAt, hk]
        · simp only [valueAt, List.map_cons, hk, if_false, List.find?_cons, hj, decide_false] at this ⊢
          exact this
  · rename_i h
    by_cases hj : j = k
    · subst hj
      rw [if_pos rfl]
      have : kvs.find? (fun kv => decide (kv.1 = j)) = none := by
        rw [List.find?_eq_none]
        intro x hx hxe
        exact h (List.any_eq_true.mpr ⟨x, hx, hxe⟩)
      simp [valueAt, List.find?_append, this]
    · rw [if_neg hj]
      have hj' : ¬ k = j := fun e => hj e.symm
      simp [valueAt, List.find?_append, hj']
theorem stored_len (kvs : List (Int × Value)) (k : Int) (v : Value) : (stored kvs k v).length ≤ kvs.length + (if (valueAt kvs k).isSome then 0 else 1) := by
  unfold stored
  split
  · simp
  · rename_i h
    have : kvs.find? (fun kv => decide (kv.1 = k)) = none := by
      rw [List.find?_eq_none]
      intro x hx hxe
      exact h (List.any_eq_true.mpr ⟨x, hx, hxe⟩)
    simp [valueAt, this]

def sig (kvs : List (Int × Value)) (i : Nat) : Bool := match valueAt kvs (i : Int) with | some (.bool b) => b | _ => false
def unk (gs : List Gate) (kv : List (Int × Value)) : Nat := ((List.range gs.length).filter fun i : Nat => (valueAt kv (i : Int)).isNone).length
/-- what is known, and what waits -/
structure VOk (gs : List Gate) (σ : Nat → Bool) (root : Nat) (kv : List (Int × Value)) (stk : List Nat) : Prop where
  one : valueAt kv 1 = some (.bool true)
  val : ∀ i v, valueAt kv i = some v → ∃ k : Nat, i = k ∧ k < gs.length ∧ v = .bool ((vals σ gs).getD k false)
  wait : ∀ i x, stk[i]? = some x → 1 ≤ x ∧ x < gs.length ∧ (i + 1) + 2 * x ≤ 1 + 2 * root
  goal : (valueAt kv (root : Int)).isSome = true ∨ root ∈ stk
  size : kv.length + unk gs kv ≤ gs.length + 1
def vtop (gs : List Gate) (kv : List (Int × Value)) (stk : List Nat) : Nat :=
  match stk.getLast? with | some x => (if (valueAt kv (x : Int)).isSome then gs.length + stk.length else x) | none => 0
def vmeas (gs : List Gate) (root : Nat) (kv : List (Int × Value)) (stk : List Nat) : Nat := unk gs kv * (gs.length + 2 * root + 3) + vtop gs kv stk

theorem VOk.len {gs : List Gate} {σ : Nat → Bool} {root : Nat} {kv : List (Int × Value)} {stk : List Nat} (h : VOk gs σ root kv stk) : stk.length ≤ 2 * root := by
  rcases Nat.eq_zero_or_pos stk.length with e | e
  · omega
  · have := h.wait (stk.length - 1) (stk[stk.length - 1]) (List.getElem?_eq_getElem (by omega))
    omega
theorem VOk.vtop_le {gs : List Gate} {σ : Nat → Bool} {root : Nat} {kv : List (Int × Value)} {S : List Nat} {x : Nat} (h : VOk gs σ root kv (S ++ [x])) : vtop gs kv S ≤ gs.length + S.length ∧ S.length < 2 * root := by
  have hl := h.len
  rw [List.length_append] at hl
  refine ⟨?_, by simp at hl; omega⟩
  unfold vtop
  cases e : S.getLast? with
  | none => simp
  | some y =>
    dsimp only
    split
    · omega
    · rw [List.getLast?_eq_getElem?] at e
      have hi : S.length - 1 < S.length := (List.getElem?_eq_some_iff.mp e).1
      have := (h.wait (S.length - 1) y (by rw [List.getElem?_append_left hi]; exact e)).2.1
      omega
theorem vtop_snoc (gs : List Gate) (kv : List (Int × Value)) (S : List Nat) (x : Nat) : vtop gs kv (S ++ [x]) = if (valueAt kv (x : Int)).isSome then gs.length + (S.length + 1) else x := by
  unfold vtop; simp
theorem VOk.pop {gs : List Gate} {σ : Nat → Bool} {root : Nat} {kv : List (Int × Value)} {S : List Nat} {x : Nat} (h : VOk gs σ root kv (S ++ [x])) (hx : (valueAt kv (x : Int)).isSome = true) :
    VOk gs σ root kv S ∧ vmeas gs root kv S < vmeas gs root kv (S ++ [x]) := by
  refine ⟨⟨h.one, h.val, fun i y e => h.wait i y ?_, ?_, h.size⟩, ?_⟩
  · rw [List.getElem?_append_left (List.getElem?_eq_some_iff.mp e).1]; exact e
  · rcases h.goal with g | g
    · exact .inl g
    · rcases List.mem_append.mp g with g | g
      · exact .inr g
      · rw [List.mem_singleton.mp g]; exact .inl hx
  · unfold vmeas
    rw [vtop_snoc, if_pos hx]
    have := h.vtop_le.1
    omega
theorem VOk.push {gs : List Gate} {σ : Nat → Bool} {root : Nat} {kv : List (Int × Value)} {S : List Nat} {x : Nat} (h : VOk gs σ root kv (S ++ [x])) (hx : (valueAt kv (x : Int)).isSome = false) {ms : List Nat} (hm : ms ≠ []) (h2 : ms.length ≤ 2)
    (hu : ∀ y ∈ ms, 1 ≤ y ∧ y < x ∧ (valueAt kv (y : Int)).isSome = false) : VOk gs σ root kv (S ++ [x] ++ ms) ∧ vmeas gs root kv (S ++ [x] ++ ms) < vmeas gs root kv (S ++ [x]) := by
  have hw := h.wait S.length x (by simp)
  refine ⟨⟨h.one, h.val, fun i y e => ?_, ?_, h.size⟩, ?_⟩
  · rcases Nat.lt_or_ge i (S ++ [x]).length with hi | hi
    · rw [List.getElem?_append_left hi] at e; exact h.wait i y e
    · rw [List.getElem?_append_right hi] at e
      obtain ⟨hi2, e2⟩ := List.getElem?_eq_some_iff.mp e
      have hy := hu y (e2 ▸ List.getElem_mem hi2)
      rw [List.length_append] at hi hi2
      simp at hi hi2
      refine ⟨hy.1, by omega, ?_⟩
      omega
  · rcases h.goal with g | g
    · exact .inl g
    · exact .inr (List.mem_append_left _ g)
  · rw [← List.dropLast_concat_getLast hm, ← List.append_assoc]
    unfold vmeas
    have hy := hu _ (List.getLast_mem hm)
    rw [vtop_snoc, vtop_snoc, hx, hy.2.2]
    simp only [Bool.false_eq_true, if_false]
    omega
theorem filter_drop {l : List Nat} (nd : l.Nodup) {P P' : Nat → Bool} {x : Nat} (hx : x ∈ l) (h1 : P x = true) (h2 : P' x = false) (h3 : ∀ y, y ≠ x → P' y = P y) : (l.filter P').length + 1 = (l.filter P).length := by
  induction l with
  | nil => cases hx
  | cons a r ih =>
    rw [List.nodup_cons] at nd
    by_cases e : a = x
    · subst e
      have : r.filter P' = r.filter P := List.filter_congr fun y hy => h3 y (fun e => nd.1 (e ▸ hy))
      simp [List.filter_cons, h1, h2, this]
    · have hx' : x ∈ r := by rcases List.mem_cons.mp hx with e' | e'; exact absurd e'.symm e; exact e'
      have := ih nd.2 hx'
      rw [List.filter_cons, List.filter_cons, h3 a e]
      split
      · simp only [List.length_cons]; omega
      · exact this
theorem unk_stored {gs : List Gate} {kv : List (Int × Value)} {x : Nat} (hx : x < gs.length) (v : Value) : unk gs (stored kv (x : Int) v) + (if (valueAt kv (x : Int)).isSome then 0 else 1) = unk gs kv := by
  unfold unk
  cases h : (valueAt kv (x : Int)).isSome with
  | true =>
    simp only [if_true, Nat.add_zero]
    congr 1
    refine List.filter_congr fun y _ => ?_
    rw [valueAt_stored]
    split
    · rename_i e; have : y = x := by omega
      subst this
      cases e2 : valueAt kv (y : Int) with
      | none => rw [e2] at h; cases h
      | some _ => rfl
    · rfl
  | false =>
    simp only [Bool.false_eq_true, if_false]
    refine filter_drop List.nodup_range (List.mem_range.mpr hx) ?_ ?_ ?_
    · cases e2 : valueAt kv (x : Int) with
      | none => rfl
      | some _ => rw [e2] at h; cases h
    · rw [valueAt_stored, if_pos rfl]; rfl
    · intro y hy
      rw [valueAt_stored, if_neg (by omega)]
theorem VOk.set {gs : List Gate} (W : WF gs) {σ : Nat → Bool} {root : Nat} {kv : List (Int × Value)} {S : List Nat} {x : Nat} (h : VOk gs σ root kv (S ++ [x])) {b : Bool} (hb : b = (vals σ gs).getD x false) :
    VOk gs σ root (stored kv (x : Int) (.bool b)) S ∧ vmeas gs root (stored kv (x : Int) (.bool b)) S < vmeas gs root kv (S ++ [x]) := by
  have hw := h.wait S.length x (by simp)
  have hu := unk_stored (kv := kv) hw.2.1 (.bool b)
  have hl := stored_len kv (x : Int) (.bool b)
  have hs := h.size
  have V : VOk gs σ root (stored kv (x : Int) (.bool b)) S := by
    refine ⟨?_, ?_, fun i y e => h.wait i y ?_, ?_, ?_⟩
    · rw [valueAt_stored]
      split
      · rename_i e
        have : x = 1 := by omega
        subst this
        rw [hb, vals_at σ W.g1]; rfl
      · exact h.one
    · intro i v e
      rw [valueAt_stored] at e
      split at e
      · rename_i e2; cases e; exact ⟨x, e2, hw.2.1, by rw [hb]⟩
      · exact h.val i v e
    · rw [List.getElem?_append_left (List.getElem?_eq_some_iff.mp e).1]; exact e
    · rcases h.goal with g | g
      · left; rw [valueAt_stored]; split
        · rfl
        · exact g
      · rcases List.mem_append.mp g with g | g
        · exact .inr g
        · rw [List.mem_singleton.mp g]; left; rw [valueAt_stored, if_pos rfl]; rfl
    · split at hu <;> split at hl <;> omega
  refine ⟨V, ?_⟩
  have hv := h.vtop_le.2
  have ht : vtop gs (stored kv (x : Int) (.bool b)) S ≤ gs.length + S.length := by
    unfold vtop
    cases e : S.getLast? with
    | none => simp
    | some y =>
      dsimp only
      split
      · omega
      · rw [List.getLast?_eq_getElem?] at e
        have := (V.wait (S.length - 1) y e).2.1
        omega
  unfold vmeas
  rw [vtop_snoc]
  cases e : (valueAt kv (x : Int)).isSome with
  | true =>
    rw [e] at hu; simp only [if_true, Nat.add_zero] at hu ⊢
    rw [hu]; omega
  | false =>
    rw [e] at hu; simp only [Bool.false_eq_true, if_false] at hu ⊢
    rw [← hu, Nat.add_mul]
    omega
theorem VOk.first {gs : List Gate} {σ : Nat → Bool} {g : Int} (W : WF gs) (hg : Ok gs g) : VOk gs σ g.natAbs [((1 : Int), Value.bool true)] [g.natAbs] := by
  refine ⟨rfl, ?_, ?_, .inr (by simp), ?_⟩
  · intro i v e
    simp only [valueAt, List.find?_cons, List.find?_nil] at e
    by_cases h1 : (1 : Int) = i
    · subst h1; simp at e; subst e
      exact ⟨1, rfl, W.two, by rw [vals_at σ W.g1]; rfl⟩
    · simp [h1] at e
  · intro i x e
    cases i with
    | zero => simp at e; subst e; have := hg.1; have := hg.2; omega
    | succ i => simp at e
  · have : unk gs [((1 : Int), Value.bool true)] ≤ gs.length := by
      unfold unk
      refine Nat.le_trans (List.length_filter_le _ _) (by simp)
    simp only [List.length_cons, List.length_nil]; omega
theorem VOk.last {gs : List Gate} {σ : Nat → Bool} {g : Int} {kv : List (Int × Value)} (h : VOk gs σ g.natAbs kv []) : valueAt kv (g.natAbs : Int) = some (.bool ((vals σ gs).getD g.natAbs false)) := by
  rcases h.goal with e | e
  · obtain ⟨v, hv⟩ := Option.isSome_iff_exists.mp e
    obtain ⟨k, e1, _, e2⟩ := h.val _ _ hv
    rw [hv, e2]
    have : k = g.natAbs := by omega
    rw [this]
  · cases e
theorem WF.pos {gs : List Gate} (W : WF gs) {i : Nat} {g : Gate} (hi : 1 ≤ i) (h : gs[i]? = some g) : g ≠ .blank ∧ (g = .tru → i = 1) ∧ ∀ p q, g = .and p q → p ≠ 0 ∧ q ≠ 0 ∧ p.natAbs < i ∧ q.natAbs < i := by
  rcases Nat.lt_or_ge i 2 with h' | h'
  · have : i = 1 := by omega
    subst this
    rw [W.g1] at h; cases h
    exact ⟨by simp, fun _ => rfl, fun _ _ e => by cases e⟩
  · rcases W.up i g h' h with rfl | ⟨p, q, rfl, a, b, c, d⟩
    · exact ⟨by simp, fun e => (by cases e), fun _ _ e => by cases e⟩
    · exact ⟨by simp, fun e => (by cases e), fun p' q' e => by cases e; exact ⟨a, b, c, d⟩⟩
theorem vals_inp {gs : List Gate} (σ : Nat → Bool) {i : Nat} (h : gs[i]? = some .inp) : (vals σ gs).getD i false = σ i := by rw [vals_at σ h]; rfl
theorem vals_and {gs : List Gate} (σ : Nat → Bool) {i : Nat} {p q : Int} (h : gs[i]? = some (.and p q)) (hp : p.natAbs < i) (hq : q.natAbs < i) :
    (vals σ gs).getD i false = (((vals σ gs).getD p.natAbs false == decide (p > 0)) && ((vals σ gs).getD q.natAbs false == decide (q > 0))) := by
  have hi : i < gs.length := (List.getElem?_eq_some_iff.mp h).1
  rw [vals_at σ h]
  show (lit _ p && lit _ q) = _
  rw [lit_take σ gs (Nat.le_of_lt hi) hp, lit_take σ gs (Nat.le_of_lt hi) hq]
  rfl
end Mine
end

section
open PySem PySem.W PyProof.Rows PySem.Calls
set_option maxHeartbeats 2000000
namespace Mine
section
variable {prog : Program} {w : World} {A : Around} {E : Value → Shared → Prop} {s : Shared} {h₀ : Heap} {L : Addr} {m : Str → Option Value} {news : List (Addr × Obj)}
theorem kd_set {sa kd ca : Nat} {sv : List Value} {ls c : Nat} {ko co : Obj} {kv : List (Int × Value)} {cv : Option Value} {k : Int} {t : Tok} {v : Value} {Q : Unit → Shared → Prop} (F : Fr h₀ L s.heap m) (N : News h₀ L s.heap news)
    (hK : ko.IsDictOf (PySem.intKind prog w) kv) (hc : co.data = .cell cv) (hsv : sv.length = ls) (h1 : (sa, PySem.W.listOf sv.toArray c) ∈ news) (h2 : (kd, ko) ∈ news) (h3 : (ca, co) ∈ news) (hz : kv.length ≤ 20000)
    (h : ∀ h' o', Fr h₀ L h' m → News h₀ L h' [(sa, PySem.W.listOf sv.toArray c), (kd, o'), (ca, co)] → o'.IsDictOf (PySem.intKind prog w) (stored kv k v) → Q () { s with heap := h', toks := s.toks + 1 }) :
    wpAny (model prog w) A (setItem (.ref kd) (.int k t) v) Q E s := by
  have N' : News h₀ L s.heap [(sa, PySem.W.listOf sv.toArray c), (kd, ko), (ca, co)] := news_sub N fun p hp => by
    simp only [List.mem_cons, List.not_mem_nil, or_false] at hp
    rcases hp with rfl | rfl | rfl <;> assumption
  obtain ⟨es, ep, q1, q2, _⟩ := hK
  have n1 : sa ≠ kd := by
    intro e
    have a := (N _ h1).1
    have b := (N _ h2).1
    dsimp only at a b
    rw [e, b] at a
    cases a
    cases q2
  have n2 : ca ≠ kd := by
    intro e
    have a := (N _ h3).1
    have b := (N _ h2).1
    dsimp only at a b
    rw [e, b] at a
    cases a
    rw [q2] at hc; cases hc
  exact kda_set F N' (.tail n1 (.head (by simp [n2]))) ⟨es, ep, q1, q2, by assumption⟩ (intKind_is prog w k t) (by rw [sizeLine_eq]; omega) h
end
theorem fr_name {h₀ h : Heap} {L : Addr} {m : Str → Option Value} {P : Prop} (F : Fr h₀ L h m) (k : ∀ m₀, m₀ = m → Fr h₀ L h m₀ → P) : P := k m rfl F
theorem sig_get {kvs : List (Int × Value)} (hb : ∀ kv ∈ kvs, ∃ b, kv.2 = .bool b) (i : Nat) : (valueAt kvs (i : Int)).getD (.bool false) = .bool (sig kvs i) := by
  unfold sig
  cases e : valueAt kvs (i : Int) with
  | none => rfl
  | some v =>
    obtain ⟨kv, h1, h2⟩ : ∃ kv ∈ kvs, kv.2 = v := by
      unfold valueAt at e
      obtain ⟨kv, e1, e2⟩ := Option.map_eq_some_iff.mp e
      exact ⟨kv, List.mem_of_find?_eq_some e1, e2⟩
    obtain ⟨b, hb'⟩ := hb kv h1
    rw [hb'] at h2; subst h2; rfl
theorem ints_app {v v' : List Value} {l l' : List Int} (h : IntsAre v l) (h' : IntsAre v' l') : IntsAre (v ++ v') (l ++ l') := by
  induction h with
  | nil => exact h'
  | cons k t _ ih => exact .cons k t ih
theorem absN (p : Int) : (if p < 0 then -p else p) = (p.natAbs : Int) := by split <;> omega

theorem ints_push1 {v : List Value} {l : List Int} {p : Int} {t : Tok} (h : IntsAre v l) : IntsAre (v ++ [.int (if p < 0 then -p else p) t]) (l ++ [(p.natAbs : Int)]) := ints_app h (by rw [absN]; exact .cons _ _ .nil)
theorem ints_push2 {v : List Value} {l : List Int} {p q : Int} {t u : Tok} (h : IntsAre v l) : IntsAre (v ++ [.int (if p < 0 then -p else p) t, .int (if q < 0 then -q else q) u]) (l ++ [(p.natAbs : Int), (q.natAbs : Int)]) := ints_app h (by rw [absN, absN]; exact .cons _ _ (.cons _ _ .nil))
def VJ (prog : Program) (w : World) (gs : List Gate) (σ : Nat → Bool) (root : Nat) (m₀ : Str → Option Value) (sa kd ca : Nat) (co : Obj) (n : Nat) (m₁ : Str → Option Value) (nx : List (Addr × Obj)) : Prop :=
  ∃ (u1 u2 : Option Value) (ko : Obj) (kv : List (Int × Value)) (stk : List Nat) (sv : List Value) (c : Nat),
    m₁ = (fun y => if y = Str.ofString "missing" then u1 else if y = Str.ofString "here" then u2 else m₀ y) ∧
    nx = [(sa, PySem.W.listOf sv.toArray c), (kd, ko), (ca, co)] ∧ IntsAre sv (stk.map fun n : Nat => (n : Int)) ∧ ko.IsDictOf (PySem.intKind prog w) kv ∧ VOk gs σ root kv stk ∧ n = vmeas gs root kv stk
theorem vj_end {prog : Program} {w : World} {gs : List Gate} {σ : Nat → Bool} {root : Nat} {m₀ m' : Str → Option Value} {sa kd ca : Nat} {co ko : Obj} {n c tk : Nat} {g h : Heap} {L : Addr} {nw : List (Addr × Obj)} {sv : List Value} {stk : List Nat} {kv : List (Int × Value)} {s : Shared}
    (F : Fr g L h m') (N : News g L h nw) (hm : ∀ y, y ≠ Str.ofString "missing" → y ≠ Str.ofString "here" → m' y = m₀ y)
    (h1 : (sa, PySem.W.listOf sv.toArray c) ∈ nw) (h2 : (kd, ko) ∈ nw) (h3 : (ca, co) ∈ nw) (hI : IntsAre sv (stk.map fun n : Nat => (n : Int))) (hK : ko.IsDictOf (PySem.intKind prog w) kv)
    (hV : VOk gs σ root kv stk ∧ vmeas gs root kv stk < n) :
    ∃ h' tk' m₂ news₂ n', ({ s with heap := h, toks := tk } : Shared) = { s with heap := h', toks := tk' } ∧ Fr g L h' m₂ ∧ News g L h' news₂ ∧ n' < n ∧ VJ prog w gs σ root m₀ sa kd ca co n' m₂ news₂ := by
  refine ⟨h, tk, m', [(sa, PySem.W.listOf sv.toArray c), (kd, ko), (ca, co)], _, rfl, F, news_sub N fun p hp => ?_, hV.2, m' (Str.ofString "missing"), m' (Str.ofString "here"), ko, kv, stk, sv, c, ?_, rfl, hI, hK, hV.1, rfl⟩
  · simp only [List.mem_cons, List.not_mem_nil, or_false] at hp
    rcases hp with rfl | rfl | rfl <;> assumption
  · funext y
    by_cases e1 : y = Str.ofString "missing"
    · rw [if_pos e1, e1]
    · rw [if_neg e1]
      by_cases e2 : y = Str.ofString "here"
      · rw [if_pos e2, e2]
      · rw [if_neg e2, hm y e1 e2]
end Mine
end

section
open PySem PySem.W PyProof.Rows PySem.Calls
set_option maxHeartbeats 2000000
namespace Mine
open LCg LCt
theorem small_n {n : Nat} (h : n ≤ 100000) : Builtin.Range.small 0 (n : Int) 1 = true := by
  have e : Builtin.Range.rangeSize 0 (n : Int) 1 = (n : Int) := by rw [rangeSize_nat]; simp
  unfold Builtin.Range.small Builtin.Range.rangeFitsLong
  rw [e]
  simp
  omega
section
variable {prog : Program} {w : World} {A : Around} {E : Value → Shared → Prop} {s : Shared} {env : Env} {h₀ : Heap} {x : Str} {body : List Stmt} {Q : Flow → Shared → Prop}
def RangePost (h₀ : Heap) (L : Addr) (J : (Str → Option Value) → List (Addr × Obj) → Prop) (I : Addr) (oI : Obj) (s₁ : Shared) (Q : Flow → Shared → Prop) (f : Flow) (s₂ : Shared) : Prop :=
  match f with
  | .ret v => Q (.ret v) s₂
  | .brk => Q .next s₂
  | _ => ∃ h' tk m' news', s₂ = { s₁ with heap := h', toks := tk } ∧ Fr h₀ L h' m' ∧ News h₀ L h' ((I, oI) :: news') ∧ (∀ p ∈ news', p.1 ≠ I) ∧ J m' news'
theorem iter_range {r : Addr} {n : Nat} {t u v : Tok} {m₀ : Str → Option Value} {news : List (Addr × Obj)} (J : Nat → (Str → Option Value) → List (Addr × Obj) → Prop)
    (hh : A.handled = none) (hr : IsRange s.heap r 0 (n : Int) 1 t u v) (hsm : Builtin.Range.small 0 (n : Int) 1 = true) (F : Fr h₀ env.locals s.heap m₀) (N : News h₀ env.locals s.heap news) (hJ : J 0 m₀ news)
    (turn : ∀ (i : Nat) t m₁ news₁ h tk (I : Nat) oI, i < n → J i m₁ news₁ → Fr h₀ env.locals h (fun y => if y = x then some (.int (i : Int) t) else m₁ y) → News h₀ env.locals h ((I, oI) :: news₁) → oI.cls = .type "range_iterator" → (∀ p ∈ news₁, p.1 ≠ I) →
      wpAny (model prog w) A (execs body env) (RangePost h₀ env.locals (J (i + 1)) I oI { s with heap := h, toks := tk } Q) E { s with heap := h, toks := tk })
    (done : ∀ m₁ news₁ h tk, J n m₁ news₁ → Fr h₀ env.locals h m₁ → News h₀ env.locals h news₁ → Q .next { s with heap := h, toks := tk }) :
    wpAny (model prog w) A (pyIter (.ref r)) (fun it s₂ => LoopAtV prog w A h₀ env x body Q E it s₂) E s := by
  have hn : Builtin.Range.rangeSize 0 (n : Int) 1 = (n : Int) := by rw [rangeSize_nat]; simp
  refine wpAny_pyIter_range hr hsm ?_
  rw [hn]
  have W := range_walks (prog := prog) (w := w) (I := s.heap.objs.size) hh 0 n
  refine ⟨s.heap.objs.size, [s.heap.objs.size], [s.heap.objs.size], n, _, _, m₀, news, J, rfl, W, ?_, ?_, ?_, ?_, F.push _, N.grown fun _ _ e => Heap.get?_push_of_some _ e, hJ, ?_, ?_⟩
  · intro hm
    exact absurd F.ns.lt (by rw [List.mem_singleton.mp hm]; exact Nat.lt_irrefl _)
  · intro b hb
    rw [List.mem_singleton.mp hb]
    exact next_is_new F
  · intro p hp hI
    exact absurd (Heap.lt_size (N p hp).1) ((List.mem_singleton.mp hI) ▸ Nat.lt_irrefl _)
  · show IsRangeIter _ _ _ _ _
    simpa using Heap.get?_push_size _ rfl
  · rintro i v m₁ news₁ s₁ own ⟨hh', tk', rfl⟩ hin hP hJ₁ hoff hfp hget hall hst F₁ N₁
    obtain ⟨t', rfl⟩ := hP
    rw [Int.zero_add] at F₁
    obtain ⟨oI, hst', hcl⟩ : ∃ oI : Obj, hh'.get? s.heap.objs.size = some oI ∧ oI.cls = .type "range_iterator" := ⟨_, hst, rfl⟩
    have hI₀ : h₀.get? s.heap.objs.size = none := next_is_new F
    have hown := hall _ (List.mem_singleton.mpr rfl) hI₀ _ hst'
    have N₁' := News.right N₁
    refine wpAny_mono (turn i t' m₁ news₁ hh' tk' s.heap.objs.size oI hin hJ₁ F₁ (fun p hp => ?_) hcl (fun p hp e => hoff p hp (List.mem_singleton.mpr e))) (fun f s₂ q => ?_) fun _ _ e => e
    · rcases List.mem_cons.mp hp with rfl | hp
      · exact N₁ _ (List.mem_append_left _ hown)
      · exact N₁' p hp
    · have fin : (∃ h' tk m' news', s₂ = { s with heap := h', toks := tk } ∧ Fr h₀ env.locals h' m' ∧ News h₀ env.locals h' ((s.heap.objs.size, oI) :: news') ∧ (∀ p ∈ news', p.1 ≠ s.heap.objs.size) ∧ J (i + 1) m' news') →
          LoopStepU h₀ env.locals [s.heap.objs.size] own (J (i + 1)) { s with heap := hh', toks := tk' } .next s₂ := by
        rintro ⟨h', tk, m', news', e, F', N', hn', hm⟩
        refine ⟨rfl, h', tk, m', news', e, F', fun p hp => ?_, fun p hp hb => hn' p hp (List.mem_singleton.mp hb), hm⟩
        rcases List.mem_append.mp hp with hp | hp
        · have e1 := List.mem_singleton.mp (hfp p hp)
          have e2 := hget p hp
          dsimp only at e2
          rw [e1, hst'] at e2
          have e3 := N' _ List.mem_cons_self
          refine ⟨?_, (N₁ p (List.mem_append_left _ hp)).2⟩
          rw [e1, ← e2]; exact e3.1
        · exact N' p (List.mem_cons_of_mem _ hp)
      cases f with
      | ret v => exact .ret q
      | brk => exact .brk q
      | next => exact .next (fin q)
      | cont => exact .cont (fin q)
  · rintro h' tk m' news' F' N' _ hJ'
    exact done m' news' h' tk hJ' F' N'
end
section
variable {prog : Program} {w : World} {A : Around} {s : Shared} {h₀ : Heap} {L : Addr} {m : Str → Option Value} {env : Env} {elt ct : PySem.Expr} {x : Str} {scope : Scope} {cl : List (Str × Addr)} {S : List (Addr × Obj) → Prop} {P : Nat → Value → Prop} {Fin : List Value → List (Addr × Obj) → Prop} {n : Nat} {news : List (Addr × Obj)}
theorem rest_inv (J : Nat → List Value → List (Addr × Obj) → Prop) (h0 : J 0 [] news) (fin : ∀ ys news', J n ys news' → Fin ys news')
    (turn : ∀ i ys news₁ v (I : Nat) oI (C : Nat) oC (D : Nat) m₂ h tk (E' : Value → Shared → Prop), i < n → J i ys news₁ → P i v → NsObj oC m₂ → m₂ x = some v → Fr h₀ L h m → News h₀ L h ((I, oI) :: (C, oC) :: (D, lst ys) :: news₁) → Off3 I C D news₁ → ((@Ne Nat I C) ∧ (@Ne Nat I D) ∧ (@Ne Nat C D)) →
      wpAny (model prog w) A (eval elt (compEnvC scope cl C env)) (CompEnd h₀ L m { s with heap := h, toks := tk } I oI C oC D (lst ys) S (fun y news' => J (i + 1) (ys ++ [y]) news')) E' { s with heap := h, toks := tk }) :
    CompRest prog w A h₀ L m env elt x scope cl s S P Fin n 0 [] news := by
  have key : ∀ k i ys news₁, i + k = n → J i ys news₁ → CompRest prog w A h₀ L m env elt x scope cl s S P Fin k i ys news₁ := by
    intro k
    induction k with
    | zero => intro i ys news₁ e hJ; have : i = n := by omega
              subst this; exact fin _ _ hJ
    | succ k ih =>
      intro i ys news₁ e hJ
      refine CompRest.succ fun v I oI C oC D m₂ h tk E' hP ns hx F N o3 ne => ?_
      refine wpAny_mono (turn i ys news₁ v I oI C oC D m₂ h tk E' (by omega) hJ hP ns hx F N o3 ne) (fun y s' hq => ?_) fun _ _ e => e
      obtain ⟨h', tk', news', a1, a2, a3, a4, a5, a6⟩ := hq
      exact ⟨h', tk', news', a1, a2, a3, a4, a5, ih (i + 1) _ _ (by omega) a6⟩
  exact key n 0 [] news (Nat.zero_add n) h0
theorem restT_inv (J : Nat → List Value → List (Addr × Obj) → Prop) (h0 : J 0 [] news) (fin : ∀ ys news', J n ys news' → Fin ys news')
    (turn : ∀ i ys news₁ v (I : Nat) oI (C : Nat) oC (D : Nat) m₂ h tk (E' : Value → Shared → Prop), i < n → J i ys news₁ → P i v → NsObj oC m₂ → m₂ x = some v → Fr h₀ L h m → News h₀ L h ((I, oI) :: (C, oC) :: (D, lst ys) :: news₁) → Off3 I C D news₁ → ((@Ne Nat I C) ∧ (@Ne Nat I D) ∧ (@Ne Nat C D)) →
      wpAny (model prog w) A (isTrue ct (compEnvC scope cl C env) (eval ct (compEnvC scope cl C env))) (fun ok s' => if ok = true then
        wpAny (model prog w) A (eval elt (compEnvC scope cl C env)) (CompEnd h₀ L m { s with heap := h, toks := tk } I oI C oC D (lst ys) S (fun y news' => J (i + 1) (ys ++ [y]) news')) E' s'
        else CompEnd h₀ L m { s with heap := h, toks := tk } I oI C oC D (lst ys) S (fun _ news' => J (i + 1) ys news') Value.none s') E' { s with heap := h, toks := tk }) :
    CompRestT prog w A h₀ L m env ct elt x scope cl s S P Fin n 0 [] news := by
  have key : ∀ k i ys news₁, i + k = n → J i ys news₁ → CompRestT prog w A h₀ L m env ct elt x scope cl s S P Fin k i ys news₁ := by
    intro k
    induction k with
    | zero => intro i ys news₁ e hJ; have : i = n := by omega
              subst this; exact fin _ _ hJ
    | succ k ih =>
      intro i ys news₁ e hJ
      refine CompRestT.succ fun v I oI C oC D m₂ h tk E' hP ns hx F N o3 ne => ?_
      refine wpAny_mono (turn i ys news₁ v I oI C oC D m₂ h tk E' (by omega) hJ hP ns hx F N o3 ne) (fun ok s' hq => ?_) fun _ _ e => e
      cases ok with
      | true =>
        simp only [if_true] at hq ⊢
        refine wpAny_mono hq (fun y s' hq => ?_) fun _ _ e => e
        obtain ⟨h', tk', news', a1, a2, a3, a4, a5, a6⟩ := hq
        exact ⟨h', tk', news', a1, a2, a3, a4, a5, ih (i + 1) _ _ (by omega) a6⟩
      | false =>
        simp only [Bool.false_eq_true, if_false] at hq ⊢
        obtain ⟨h', tk', news', a1, a2, a3, a4, a5, a6⟩ := hq
        exact ⟨h', tk', news', a1, a2, a3, a4, a5, ih (i + 1) _ _ (by omega) a6⟩
  exact key n 0 [] news (Nat.zero_add n) h0
end
/-- the circuit without an object that is none of it -/
theorem CircIn.off {prog : Program} {w : World} {h₀ h : Heap} {L : Addr} {news : List (Addr × Obj)} {cx cd ck cp ckn : Nat} {t1 t2 t3 : Tok} {gs : List Gate} (C : CircIn prog w news cx cd ck cp ckn t1 t2 t3 gs) (N : News h₀ L h news) {a : Nat} {o : Obj}
    (ha : (a, o) ∈ news) (h1 : o.cls ≠ .type "tuple") (h2 : o.cls ≠ .type "list" ∨ (a ≠ ck ∧ a ≠ cp)) (h3 : o.cls ≠ .type "dict" ∨ (a ≠ cd ∧ a ≠ ckn)) (h4 : ∀ d, o ≠ instObj 129 d) :
    CircIn prog w (news.filter fun p => decide (p.1 ≠ a)) cx cd ck cp ckn t1 t2 t3 gs := by
  obtain ⟨hx, hd, ⟨kv, n1, k1, k2⟩, ⟨pv, n2, p1, p2, p3⟩, ⟨ko, xs, o1, o2, o3, o4⟩, lo, wf, ne1, ne2⟩ := C
  have put : ∀ {b : Nat} {q : Obj}, (b, q) ∈ news → b ≠ a → (b, q) ∈ news.filter fun p => decide (p.1 ≠ a) := fun hb hne => List.mem_filter.mpr ⟨hb, decide_eq_true hne⟩
  have tup : ∀ {b : Nat} {its}, (b, tupOf its) ∈ news → b ≠ a := fun hb e => by subst e; exact h1 (by rw [news_fun N ha hb])
  have lis : ∀ {b : Nat} {its c}, (b, PySem.W.listOf its c) ∈ news → (a ≠ ck ∧ a ≠ cp → b ≠ a) → b ≠ a := fun hb k e => by
    rcases h2 with h2 | h2
    · subst e; exact h2 (by rw [news_fun N ha hb])
    · exact k h2 e
  refine ⟨put hx fun e => by subst e; exact h4 _ (news_fun N ha hx), put hd fun e => ?_, ⟨kv, n1, put k1 (lis k1 fun k => Ne.symm k.1), k2⟩, ⟨pv, n2, put p1 (lis p1 fun k => Ne.symm k.2), p2, fun i g e => ?_⟩, ⟨ko, xs, put o1 fun e => ?_, o2, o3, fun y hy => ?_⟩, lo, wf, ne1, ne2⟩
  · rcases h3 with h3 | h3
    · subst e; exact h3 (by rw [news_fun N ha hd])
    · exact h3.1 e.symm
  · obtain ⟨b, its, q1, q2, q3⟩ := p3 i g e
    exact ⟨b, its, q1, put q2 (tup q2), q3⟩
  · rcases h3 with h3 | h3
    · subst e; exact h3 (by rw [news_fun N ha o1]; exact o2.cls)
    · exact h3.2 e.symm
  · obtain ⟨p, q, k, tk, its, q1, q2, q3, q4, q5⟩ := o4 y hy
    exact ⟨p, q, k, tk, its, q1, q2, q3, put q4 (tup q4), q5⟩
end Mine
end

section
open PySem PySem.W PyProof.Rows PySem.Calls
namespace Mine
set_option maxRecDepth 100000
set_option maxHeartbeats 16000000
open LCg LCt
abbrev rDict (w : World) (cx : Nat) (t4 : Tok) : Obj := dictOf [⟨PyData.keyHash w.params (Str.ofString "circuit"), .str (Str.ofString "circuit") t4, .ref cx⟩] 1
theorem led_name {h₀ h : Heap} {L a1 a2 a3 a4 : Addr} {o1 o2 o3 o4 : Obj} {P : Prop} (N : News h₀ L h [(a1, o1), (a2, o2), (a3, o3), (a4, o4)])
    (k : ∀ (sa kd ca : Nat) lo ko co, sa = a2 → kd = a3 → ca = a4 → lo = o2 → ko = o3 → co = o4 → News h₀ L h [(sa, lo), (kd, ko), (ca, co)] → P) : P :=
  k a2 a3 a4 o2 o3 o4 rfl rfl rfl rfl rfl rfl (news_sub N fun p hp => List.mem_cons_of_mem _ hp)
theorem news_name {h₀ h : Heap} {L : Addr} {news : List (Addr × Obj)} {P : Prop} (N : News h₀ L h news) (k : ∀ LED, LED = news → News h₀ L h LED → P) : P := k news rfl N
def missL (kv : List (Int × Value)) (ps : List Int) : List Int := (ps.filter fun p => !(valueAt kv (p.natAbs : Int)).isSome).map fun p => (p.natAbs : Int)
theorem parts_two (g : Gate) : g.parts.length ≤ 2 := by cases g <;> simp [Gate.parts]
theorem parts_at {its : Array Value} {ps : List Int} {i : Nat} {v : Value} (h : IntsAre its.toList ps) (hv : its[i]? = some v) : ∃ x t, v = .int x t ∧ ps[i]? = some x := by
  rw [← Array.getElem?_toList] at hv
  generalize its.toList = l at h hv
  induction h generalizing i with
  | nil => simp at hv
  | cons k t _ ih =>
    cases i with
    | zero => simp at hv; subst hv; exact ⟨k, t, rfl, rfl⟩
    | succ i => simp at hv; simpa using ih hv
theorem ints_one {ys : List Value} {a : Int} (h : IntsAre ys [a]) : ∃ t, ys = [.int a t] := by
  cases h with | cons _ t h => cases h; exact ⟨t, rfl⟩
theorem ints_two {ys : List Value} {a b : Int} (h : IntsAre ys [a, b]) : ∃ t u, ys = [.int a t, .int b u] := by
  cases h with | cons _ t h => cases h with | cons _ u h => cases h; exact ⟨t, u, rfl⟩
theorem miss_step {kv : List (Int × Value)} {ps : List Int} {i : Nat} {x : Int} (h : ps[i]? = some x) : missL kv (ps.take (i + 1)) = missL kv (ps.take i) ++ (if (valueAt kv (x.natAbs : Int)).isSome then [] else [(x.natAbs : Int)]) := by
  unfold missL
  rw [List.take_add_one, h, List.filter_append, List.map_append]
  congr 1
  show List.map _ (List.filter _ [x]) = _
  cases hb : (valueAt kv (x.natAbs : Int)).isSome with
  | true => rw [List.filter_cons_of_neg (by simp [hb])]; rfl
  | false => rw [List.filter_cons_of_pos (by simp [hb])]; rfl
section
theorem parts_and_ok {prog : Program} {w : World} {p : Program} {loose : List Str} {mean : ExcName → Option Value} {mg mb : Str → Option Value}
   (hpr : prog = PySem.Challenge.rw_nz0380_01.row.prog)
   {dp un : Nat} {gd : Option (List Code)} {cn : Str} {cs : Scope} {a : Addr} {ccd : Value} {cl : List (Str × Addr)} {outer : List Env} {A₀ : Around} {base h₀ : Heap} {L : Addr} {m : Str → Option Value} {s : Shared} {Q E : Value → Shared → Prop}
   {cx cd ck cp ckn : Nat} {t1 t2 t3 tk : Tok} {i : Nat} {gs : List Gate} {p' q' : Int} {news : List (Addr × Obj)}
   (B : Below A₀ base outer h₀) (F : Fr h₀ L s.heap m) (X : (hd.heap_39 w.params).In h₀) (T : Top p loose mean mg mb h₀) (hk : cs.kind = .function) (N₁ : News h₀ L s.heap news) (C : CircB h₀ w cx cd ck cp ckn t1 t2 t3 gs) (hi : gs[i]? = some (.and p' q')) (hz : gs.length ≤ 10000)
   (hdp : dp + 60 < recursionLimit) (hun : un + 500 < cLine)
   (ret : ∀ a tp tq h' tk', Fr h₀ L h' m → News h₀ L h' news → h₀.get? a = some (tupOf #[.int p' tp, .int q' tq]) → Q (.ref a) { s with heap := h', toks := tk' }) :
   wpAny (model prog w) (ktrTop dp un gd cn cs L a ccd cl outer) (call (.ref 56) [.ref cx, .int (i : Int) tk]) Q E s :=
  parts_ok hpr B F X T hk N₁ C hi hz hdp hun fun a its h' tk' F' N' h1 h2 => by
    obtain ⟨l⟩ := its
    cases h2 with | cons _ tp h2 => cases h2 with | cons _ tq h2 => cases h2 with | nil => exact ret a tp tq h' tk' F' N' h1
theorem parts_nil_ok {prog : Program} {w : World} {p : Program} {loose : List Str} {mean : ExcName → Option Value} {mg mb : Str → Option Value}
   (hpr : prog = PySem.Challenge.rw_nz0380_01.row.prog)
   {dp un : Nat} {gd : Option (List Code)} {cn : Str} {cs : Scope} {a : Addr} {ccd : Value} {cl : List (Str × Addr)} {outer : List Env} {A₀ : Around} {base h₀ : Heap} {L : Addr} {m : Str → Option Value} {s : Shared} {Q E : Value → Shared → Prop}
   {cx cd ck cp ckn : Nat} {t1 t2 t3 tk : Tok} {i : Nat} {gs : List Gate} {gt : Gate} {news : List (Addr × Obj)}
   (B : Below A₀ base outer h₀) (F : Fr h₀ L s.heap m) (X : (hd.heap_39 w.params).In h₀) (T : Top p loose mean mg mb h₀) (hk : cs.kind = .function) (N₁ : News h₀ L s.heap news) (C : CircB h₀ w cx cd ck cp ckn t1 t2 t3 gs) (hi : gs[i]? = some gt) (hn : gt.parts = []) (hz : gs.length ≤ 10000)
   (hdp : dp + 60 < recursionLimit) (hun : un + 500 < cLine)
   (ret : ∀ a h' tk', Fr h₀ L h' m → News h₀ L h' news → h₀.get? a = some (tupOf #[]) → Q (.ref a) { s with heap := h', toks := tk' }) :
   wpAny (model prog w) (ktrTop dp un gd cn cs L a ccd cl outer) (call (.ref 56) [.ref cx, .int (i : Int) tk]) Q E s :=
  parts_ok hpr B F X T hk N₁ C hi hz hdp hun fun a its h' tk' F' N' h1 h2 => by
    obtain ⟨l⟩ := its
    rw [hn] at h2
    cases h2 with | nil => exact ret a h' tk' F' N' h1
local macro_rules | `(tactic| k_inst) => `(tactic| exact inst_base (by k_asm) (by assumption) (by assumption))
theorem value_of_ok : ∀ {prog : Program} {w : World} {p : Program} {loose : List Str} {mean : ExcName → Option Value} {mg mb : Str → Option Value}
   (hpr : prog = PySem.Challenge.rw_nz0380_01.row.prog)
   {dp un : Nat} {gd : Option (List Code)} {cn : Str} {cs : Scope} {a : Addr} {ccd : Value} {cl : List (Str × Addr)} {outer : List Env} {A₀ : Around} {base h₀ : Heap} {L : Addr} {m : Str → Option Value} {s : Shared} {Q E : Value → Shared → Prop}
   {cx cd ck cp ckn rx rd di : Nat} {t1 t2 t3 t4 tg : Tok} {gs : List Gate} {gq : Int} {kvs : List (Int × Value)} {news : List (Addr × Obj)}
   (B : Below A₀ base outer h₀) (F : Fr h₀ L s.heap m) (X : (hd.heap_39 w.params).In h₀) (T : Top p loose mean mg mb h₀) (hk : cs.kind = .function) (N₁ : News h₀ L s.heap news) (C : CircB s.heap w cx cd ck cp ckn t1 t2 t3 gs) (hr1 : s.heap.get? rx = some (instObj 155 rd)) (hr2 : s.heap.get? rd = some (rDict w cx t4))
   (hdi : s.heap.DictOf (PySem.intKind prog w) di kvs) (hlo : (di == sysModules) = false) (hbs : ∀ kv ∈ kvs, ∃ b, kv.2 = .bool b)
   (hz : gs.length ≤ 9000) (ho : Ok gs gq)
   (hdp : dp + 80 < recursionLimit) (hun : un + 700 < cLine)
   (ret : ∀ h' tk', Fr h₀ L h' m → News h₀ L h' news → Q (.bool (Lv gs (sig kvs) gq)) { s with heap := h', toks := tk' }),
   wpAny (model prog w) (ktrTop dp un gd cn cs L a ccd cl outer) (call (.ref 152) [.ref rx, .int gq tg, .ref di]) Q E s := by
  w_top off
  k_with_none
  k_with "exec While Compare" => (k_here; refine stopI ?_)
  k_with "WhileStep2" => (refine stopI ?_)
  k_with "subscriptTail" => (k_here; (with_reducible show wpAny _ _ (subscriptTail _ _ (Value.ref _) (Value.int _ _)) _ _ _); k_dflt (refine' kda_item (knd := PySem.intKind _ _) (by k_asm) (by k_mem) (by assumption) (intKind_is _ _ _ _) (by assumption) ?_))
  k_with "compareOp NotIn int ref" => (k_here; k_dflt (refine' sym_notin (by k_asm) (by k_mem) (by assumption) (by assumption) (by assumption) ?_); (try simp only [Bool.not_true, Bool.not_false]))
  k_with "setItem ref int" => (k_here; k_dflt (refine' kd_set (by k_asm) (by k_asm) (by assumption) (by assumption) (by assumption) (by k_mem) (by k_mem) (by k_mem) (by assumption) ?_); intro h'zq o'zq F'zq N'zq hd'zq)
  k_with "exec Assign cons ListComp" => (k_here; k_dflt (refine Assign_ListComp_TT (F₀ := by k_asm) (by rfl) (by with_unfolding_all rfl) (by with_unfolding_all rfl) (by decide) (by rfl) (by decide) (by rfl) (by rfl) (by rfl) ?_))
  k_with "eval ListComp" => (k_here; k_dflt (refine ListComp_UT (F₀ := by k_asm) (by with_unfolding_all rfl) (by decide) (by rfl) (by decide) (by rfl) ?_))
  k_with "SrcTupT" => (k_here; refine stopI ?_)
  k_with "SrcTup" => (k_here; k_dflt (refine SrcTup.intro (by rfl) (by k_asm) (by k_asm) (by assumption) (by exact Nat.le_of_ble_eq_true rfl) ?_; intro g'zq; lcg_lit))
  k_with "call ref" => (k_here; (with_reducible show wpAny _ _ (call (Value.ref 56) _ _) _ _ _); k_dflt (refine' parts_ok (by assumption) (by k_asm) (by k_asm) (by k_asm) (by k_asm) (by exact rfl) (by k_asm) (by assumption) (by assumption) (by omega) (by ktr_room) (by ktr_units) ?_); intro a9zq its9zq h9zq tk9zq F9zq N9zq ha9zq hi9zq; (try dsimp only))
  k_with "call ref" => (k_here; (with_reducible show wpAny _ _ (call (Value.ref 49) _ _) _ _ _); k_dflt (refine' kind_ok (by assumption) (by k_asm) (by k_asm) (by k_asm) (by k_asm) (by exact rfl) (by k_asm) (by assumption) (by assumption) (by omega) (by ktr_room) (by ktr_units) ?_); intro t9zq h9zq tk9zq F9zq N9zq; (try dsimp only [Gate.kind]))
  k_with "call ref" => (k_here; (with_reducible show wpAny _ _ (call (Value.ref 56) _ _) _ _ _); k_dflt (refine' parts_nil_ok (by assumption) (by k_asm) (by k_asm) (by k_asm) (by k_asm) (by exact rfl) (by k_asm) (by assumption) (by assumption) (by rfl) (by omega) (by ktr_room) (by ktr_units) ?_); intro a9zq h9zq tk9zq F9zq N9zq ha9zq; (try dsimp only))
  k_with "call ref" => (k_here; (with_reducible show wpAny _ _ (call (Value.ref 56) _ _) _ _ _); k_dflt (refine' parts_and_ok (by assumption) (by k_asm) (by k_asm) (by k_asm) (by k_asm) (by exact rfl) (by k_asm) (by assumption) (by assumption) (by omega) (by ktr_room) (by ktr_units) ?_); intro a9zq tp9zq tq9zq h9zq tk9zq F9zq N9zq ha9zq; (try dsimp only))
  k_with "call builtin:list.pop" => (k_here; k_dflt (refine' pop_snoc (by k_asm) (by k_asm) (by k_upd) (by omega) ?_); intro h'zq F'zq N'zq; (try dsimp only at N'zq))
  k_with "call builtin:list.extend" => (k_here; k_dflt (refine' ext_list (by k_asm) (by k_asm) (by k_mem) (by k_upd) (by (simp only [List.length_append, List.length_cons, List.length_nil]; omega)) (by exact Nat.le_of_ble_eq_true rfl) (by exact Nat.le_of_ble_eq_true rfl) ?_); intro h'zq F'zq N'zq; (try dsimp only at N'zq))
  k_with "getMethod ref" => (k_here; (with_reducible show wpAny _ _ (getMethod (Value.ref _) (Str.ofString "get") _) _ _ _); k_dflt (refine' base_getm (by k_asm) (by assumption) ?_))
  k_with "call builtin:dict.get" => (k_here; k_dflt (refine' base_get2 (by k_asm) (by assumption) (by assumption) (by assumption) ?_))
  k_fill
  intro prog w p loose mean mg mb hp dp un gd cn cs a ccd cl outer A₀ base h₀ L m s Q E cx cd ck cp ckn rx rd di t1 t2 t3 t4 tg gs gq kvs news B F X T hk N₁ C hr1 hr2 hdi hlo hbs hz ho hdp hun ret
  have N : News h₀ L s.heap [] := News.nil
  refine wpAny_call ?_
  k_dflt (refine' code_defCG ?k1 ?k2 ?k3 ?k4 ?k5 ?kA ?kF ?kK ?k6 ?k7 ?k8 ?k9 ?kB ?kD ?_ ?c2 ?c3 ?c4; (case kA => exact rfl); (case kF => exact rfl); (case kK => first | assumption | exact rfl); (case k1 => k_asm); (case k2 => k_asm); (case k3 => k_asm); (case k4 => exact N); (case k5 => k_asm); (case k6 => k_is); (case k7 => k_is); (case k8 => ktr_room); (case k9 => exact BindsTo.of_eq rfl); (case kB => exact rfl); (case kD => decide +kernel); (case c2 => exact rfl); (case c3 => exact rfl); (case c4 => exact rfl); k_whole)
  intro g L' h₁ tk₁ cells FG F' N' Y' B' X' T' ll gk
  (try k_lt ll)
  k_cells Y'
  try simp only [List.cons_append, List.nil_append] at N'
  try dsimp only
  try k_fold
  have gk0 : ∀ b o, s.heap.get? b = some o → g.get? b = some o := fun b o e => gk b o e (by simp)
  replace C := C.keeps gk0
  have hcx := C.hx
  have hcd := C.hd
  replace hr1 := gk0 _ _ hr1
  replace hr2 := gk0 _ _ hr2
  have hdg : g.DictOf (PySem.intKind prog w) di kvs := by
    obtain ⟨o, h1, h2⟩ := Heap.dictOf_iff.mp hdi
    exact Heap.dictOf_iff.mpr ⟨o, gk0 _ _ h1, h2⟩
  k_steps
  unfold Stop
  (with_reducible rename Fr g L' _ _ => F1)
  (with_reducible rename News g L' _ _ => N1)
  (with_reducible rename Obj.IsDictOf (PySem.intKind _ _) _ _ => hd1)
  (with_reducible rename Obj.data _ = Data.cell _ => hc1)
  generalize h₁.objs.size = kd' at *
  refine fr_name F1 (fun m₀ hm₀ F2 => ?_)
  refine led_name N1 (fun sa kd ca lo ko co ea eb ec ed ee ef N2 => ?_)
  rw [← eb, ← ef] at hc1
  rw [← ee] at hd1
  have hV0 := VOk.first (σ := sig kvs) C.wf ho
  refine While_inv2 (VJ prog w gs (sig kvs) gq.natAbs m₀ sa kd ca co) (n₀ := vmeas gs gq.natAbs [(1, .bool true)] [gq.natAbs]) F2 N2 ?_ ?_
  · refine ⟨m₀ (Str.ofString "missing"), m₀ (Str.ofString "here"), ko, [((1 : Int), .bool true)], [gq.natAbs], _, 0, ?_, by rw [ed], ?_, hd1, hV0, rfl⟩
    · funext y
      split
      · rename_i e; rw [e]
      · split
        · rename_i e; rw [e]
        · rfl
    · rw [absN]; exact .cons _ _ .nil
  · rintro n m₁ nx h₂ tk₂ F₂ N₂ ⟨u1, u2, ko2, kv, stk, sv, c2, rfl, rfl, hI, hK, hV, rfl⟩
    subst hm₀ ea eb ec ef
    rcases List.eq_nil_or_concat stk with rfl | ⟨S, top, rfl⟩
    · have hlast := hV.last
      rw [← absN] at hlast
      cases hI
      k_steps
      with_reducible rename Fr h₀ L _ _ => kF9
      with_reducible rename Fr g L' _ _ => kG9
      exact ret _ _ kF9 (fun q hq => ⟨kG9.keep _ _ (gk _ _ (N₁ q hq).1 (by simp)), (N₁ q hq).2⟩)
    · simp only [List.concat_eq_append, List.map_append, List.map_cons, List.map_nil] at hI hV ⊢
      have hw := hV.wait S.length top (by simp)
      obtain ⟨sv, tt, rfl, hI'⟩ := ints_snoc hI
      have hsl : sv.length = S.length := by have := hI'.length; simpa using this
      have hSl : S.length ≤ 20000 := by have := ho.2; omega
      have hkl : kv.length ≤ 20000 := by have := hV.size; omega
      obtain ⟨gt, hgt⟩ : ∃ gt, gs[top]? = some gt := ⟨_, List.getElem?_eq_getElem hw.2.1⟩
      have hpos := C.wf.pos hw.1 hgt
      k_steps
      unfold Stop
      with_reducible rename Fr g L' _ _ => F3
      with_reducible rename News g L' _ _ => N3
      with_reducible rename IntsAre _ (Gate.parts _) => hi3
      with_reducible rename g.get? _ = some (tupOf _) => ha3
      have hl3 := hi3.length
      rw [Array.length_toList] at hl3
      refine news_name N3 (fun LED hLED N4 => ?_)
      refine SrcTupT.intro (by rfl) F3 N4 ha3 (by rw [sizeLine_eq, hl3]; exact Nat.le_trans (parts_two gt) (by decide)) ?_
      intro g8
      refine restT_inv (fun i ys nw => nw = LED ∧ IntsAre ys (missL kv (gt.parts.take i))) ⟨rfl, .nil⟩ ?_ ?_
      · rintro ys nw ⟨enw, hys⟩ D9 h9 tk9 F4 N5 o4
        subst enw
        subst hLED
        simp only [LCg.Off1, and_true] at o4
        rw [hl3, List.take_length] at hys
        clear hl3 hi3
        cases hst : (valueAt kv (top : Int)).isSome with
        | true =>
          cases gt with
          | blank => exact absurd rfl hpos.1
          | tru =>
            k_steps
            all_goals (unfold Stop; exact vj_end (by k_asm) (by k_asm) (by intro y e1 e2; simp only [if_neg e1, if_neg e2] <;> rfl) (by k_mem) (by k_mem) (by k_mem) hI' hK (hV.pop hst))
          | inp =>
            have hvi := sig_get hbs top
            k_steps
            all_goals (unfold Stop; exact vj_end (by k_asm) (by k_asm) (by intro y e1 e2; simp only [if_neg e1, if_neg e2] <;> rfl) (by k_mem) (by k_mem) (by k_mem) hI' (by assumption) (hV.set C.wf (vals_inp _ hgt).symm))
          | and p₁ q₁ =>
            k_steps
            all_goals (unfold Stop; exact vj_end (by k_asm) (by k_asm) (by intro y e1 e2; simp only [if_neg e1, if_neg e2] <;> rfl) (by k_mem) (by k_mem) (by k_mem) hI' hK (hV.pop hst))
        | false =>
          cases gt with
          | blank => exact absurd rfl hpos.1
          | tru =>
            have ht1 := hpos.2.1 rfl
            rw [ht1] at hst
            have h1 : (valueAt kv 1).isSome = false := hst
            rw [hV.one] at h1
            cases h1
          | inp =>
            have hvi := sig_get hbs top
            cases hys
            k_steps
            all_goals (unfold Stop; exact vj_end (by k_asm) (by k_asm) (by intro y e1 e2; simp only [if_neg e1, if_neg e2] <;> rfl) (by k_mem) (by k_mem) (by k_mem) hI' (by assumption) (hV.set C.wf (vals_inp _ hgt).symm))
          | and p₁ q₁ =>
            obtain ⟨hp0, hq0, hpl, hql⟩ := hpos.2.2 p₁ q₁ rfl
            have hp1 : 1 ≤ p₁.natAbs := Int.natAbs_pos.mpr hp0
            have hq1 : 1 ≤ q₁.natAbs := Int.natAbs_pos.mpr hq0
            cases hvp : valueAt kv (p₁.natAbs : Int) with
            | none =>
              have hsp' : (valueAt kv (p₁.natAbs : Int)).isSome = false := by rw [hvp]; rfl
              cases hsq' : (valueAt kv (q₁.natAbs : Int)).isSome with
              | true =>
                simp only [missL, Gate.parts, List.filter_cons, hsp', hsq', Bool.not_false, Bool.not_true, if_true, Bool.false_eq_true, if_false, List.filter_nil, List.map_cons, List.map_nil] at hys
                obtain ⟨t1, rfl⟩ := ints_one hys
                k_steps
                all_goals (unfold Stop; exact vj_end (by k_asm) (by k_asm) (by intro y e1 e2; simp only [if_neg e1, if_neg e2] <;> rfl) (by k_mem) (by k_mem) (by k_mem) (by simp only [List.map_append, List.map_cons, List.map_nil]; exact ints_app hI (.cons _ _ .nil)) hK (hV.push hst (ms := [p₁.natAbs]) (by simp) (by simp) (by intro y hy; rw [List.mem_singleton.mp hy]; exact ⟨hp1, hpl, hsp'⟩)))
              | false =>
                simp only [missL, Gate.parts, List.filter_cons, hsp', hsq', Bool.not_false, Bool.not_true, if_true, Bool.false_eq_true, if_false, List.filter_nil, List.map_cons, List.map_nil] at hys
                obtain ⟨t1, t2, rfl⟩ := ints_two hys
                k_steps
                all_goals (unfold Stop; exact vj_end (by k_asm) (by k_asm) (by intro y e1 e2; simp only [if_neg e1, if_neg e2] <;> rfl) (by k_mem) (by k_mem) (by k_mem) (by simp only [List.map_append, List.map_cons, List.map_nil]; exact ints_app hI (.cons _ _ (.cons _ _ .nil))) hK (hV.push hst (ms := [p₁.natAbs, q₁.natAbs]) (by simp) (by simp) (by intro y hy; rcases List.mem_cons.mp hy with rfl | hy; exact ⟨hp1, hpl, hsp'⟩; rw [List.mem_singleton.mp hy]; exact ⟨hq1, hql, hsq'⟩)))
            | some vp =>
              have hsp' : (valueAt kv (p₁.natAbs : Int)).isSome = true := by rw [hvp]; rfl
              obtain ⟨kp, ekp, _, rfl⟩ := hV.val _ _ hvp
              have ekp' : kp = p₁.natAbs := by omega
              subst ekp'
              cases hvq : valueAt kv (q₁.natAbs : Int) with
              | none =>
                have hsq' : (valueAt kv (q₁.natAbs : Int)).isSome = false := by rw [hvq]; rfl
                simp only [missL, Gate.parts, List.filter_cons, hsp', hsq', Bool.not_false, Bool.not_true, if_true, Bool.false_eq_true, if_false, List.filter_nil, List.map_cons, List.map_nil] at hys
                obtain ⟨t1, rfl⟩ := ints_one hys
                k_steps
                all_goals (unfold Stop; exact vj_end (by k_asm) (by k_asm) (by intro y e1 e2; simp only [if_neg e1, if_neg e2] <;> rfl) (by k_mem) (by k_mem) (by k_mem) (by simp only [List.map_append, List.map_cons, List.map_nil]; exact ints_app hI (.cons _ _ .nil)) hK (hV.push hst (ms := [q₁.natAbs]) (by simp) (by simp) (by intro y hy; rw [List.mem_singleton.mp hy]; exact ⟨hq1, hql, hsq'⟩)))
              | some vq =>
                have hsq' : (valueAt kv (q₁.natAbs : Int)).isSome = true := by rw [hvq]; rfl
                obtain ⟨kq, ekq, _, rfl⟩ := hV.val _ _ hvq
                have ekq' : kq = q₁.natAbs := by omega
                subst ekq'
                simp only [missL, Gate.parts, List.filter_cons, hsp', hsq', Bool.not_false, Bool.not_true, if_true, Bool.false_eq_true, if_false, List.filter_nil, List.map_cons, List.map_nil] at hys
                cases hys
                rw [← absN] at hvp hvq
                clear hsp' hsq' hp1 hq1 ekp ekq
                k_steps
                all_goals (unfold Stop; exact vj_end (by k_asm) (by k_asm) (by intro y e1 e2; simp only [if_neg e1, if_neg e2] <;> rfl) (by k_mem) (by k_mem) (by k_mem) hI' (by assumption) (hV.set C.wf (vals_and _ hgt hpl hql).symm))
      · rintro i ys nw v I9 oI C9 oC D9 m9 h9 tk9 E9 hi ⟨enw, hl⟩ hP hns hx F4 N5 off4 ne4
        subst enw
        subst hLED
        have off5 := off4
        simp only [LCg.Off3, and_true] at off4
        obtain ⟨x, t, rfl, hx'⟩ := parts_at hi3 hP
        cases hsx : (valueAt kv (if x < 0 then -x else x)).isSome with
        | true =>
          k_steps
          exact CompEnd.intro F4 N5 _ (fun p hp => hp) off5 trivial ⟨rfl, by rw [miss_step hx', ← absN, hsx]; simpa using hl⟩
        | false =>
          k_steps
          exact CompEnd.intro F4 N5 _ (fun p hp => hp) off5 trivial ⟨rfl, by rw [miss_step hx', ← absN, hsx]; exact ints_app hl (.cons _ _ .nil)⟩
end

end Mine
end

section
open PySem PySem.W PyProof.Rows PySem.Calls
set_option maxHeartbeats 2000000
namespace Mine
section
variable {prog : Program} {w : World} {A : Around} {E : Value → Shared → Prop} {s : Shared} {h₀ : Heap} {L : Addr} {m : Str → Option Value} {news : List (Addr × Obj)}
theorem len_news {a : Nat} {vs : List Value} {c n : Nat} {Q : Value → Shared → Prop} (hn : vs.length = n) (N : News h₀ L s.heap news) (hm : (a, PySem.W.listOf vs.toArray c) ∈ news) (hz : n ≤ 100000)
    (h : Q (.int (n : Int) (s.toks + 1)) { s with toks := s.toks + 1 + 1 }) : wpAny (model prog w) A (call (.builtin "len") [.ref a]) Q E s := by
  refine call_len_list (items := vs.toArray) ⟨_, (N _ hm).1, rfl, c, rfl⟩ (by rw [List.size_toArray]; omega) ?_
  rw [List.size_toArray, hn]; exact h
theorem item_news {value slice : PySem.Expr} {a : Nat} {vs : List Value} {c : Nat} {k : Int} {u : Tok} {v : Value} {Q : Value → Shared → Prop} (hm : (a, PySem.W.listOf vs.toArray c) ∈ news) (N : News h₀ L s.heap news) (hx : vs[k.toNat]? = some v) (h0 : 0 ≤ k) (hhi : k < 2 ^ 63) (h : Q v s)
    (hs : subscripted slice false (.ref a) (.int k u) = operate [.ref a, .int k u] (getItem (.ref a) (.int k u)) := by with_unfolding_all rfl) :
    wpAny (model prog w) A (subscriptTail value slice (.ref a) (.int k u)) Q E s :=
  have hL : s.heap.IsList a vs.toArray := ⟨_, (N _ hm).1, rfl, c, rfl⟩
  tail_any hL.typeIs slot_list_getitem.lookup (wpAny_getItem_list hL h0 hhi (by simpa using hx) h) hs
/-- a dict of ints beside a list -/
theorem kd_set2 {di ia c n : Nat} {vs : List Value} {od : Obj} {kv : List (Int × Value)} {k : Int} {t : Tok} {v : Value} {Q : Unit → Shared → Prop} (F : Fr h₀ L s.heap m) (N : News h₀ L s.heap news) (hK : od.IsDictOf (PySem.intKind prog w) kv) (hl : vs.length = n)
    (h2 : (di, od) ∈ news) (h1 : (ia, PySem.W.listOf vs.toArray c) ∈ news) {I : Nat} {oI : Obj} (hI : oI.cls = .type "range_iterator") (h3 : (I, oI) ∈ news) (hz : kv.length ≤ 20000)
    (h : ∀ h' o', Fr h₀ L h' m → News h₀ L h' [(I, oI), (di, o'), (ia, PySem.W.listOf vs.toArray c)] → o'.IsDictOf (PySem.intKind prog w) (stored kv k v) → Q () { s with heap := h', toks := s.toks + 1 }) :
    wpAny (model prog w) A (setItem (.ref di) (.int k t) v) Q E s := by
  have N' : News h₀ L s.heap [(I, oI), (di, od), (ia, PySem.W.listOf vs.toArray c)] := news_sub N fun p hp => by
    simp only [List.mem_cons, List.not_mem_nil, or_false] at hp
    rcases hp with rfl | rfl | rfl <;> assumption
  obtain ⟨es, ep, q1, q2, _⟩ := hK
  have hc : od.cls = .type "dict" := q1.1
  have ne : ∀ {b : Nat} {o : Obj}, (b, o) ∈ news → o.cls ≠ .type "dict" → b ≠ di := by
    intro b o hb hne e
    have a := (N _ hb).1
    have b' := (N _ h2).1
    dsimp only at a b'
    rw [e, b'] at a
    cases a
    exact hne hc
  exact kda_set F N' (.tail (ne h3 (by rw [hI]; decide)) (.head (by simp [ne h1 (by show Value.type "list" ≠ _; decide)]))) ⟨es, ep, q1, q2, by assumption⟩ (intKind_is prog w k t) (by rw [sizeLine_eq]; omega) h
end
theorem bit_fact (row i : Nat) : ((row : Int).fdiv (2 ^ ((i : Int).toNat))).fmod 2 = if row.testBit i then 1 else 0 := by
  rw [Int.toNat_natCast]
  have e : (2 : Int) ^ i = ((2 ^ i : Nat) : Int) := by simp
  have h1 : (row : Int).fdiv ((2 ^ i : Nat) : Int) = ((row / 2 ^ i : Nat) : Int) := by rw [Int.fdiv_eq_ediv_of_nonneg _ (Int.natCast_nonneg _)]; rfl
  have h2 : ((row / 2 ^ i : Nat) : Int).fmod 2 = ((row / 2 ^ i % 2 : Nat) : Int) := by rw [Int.fmod_eq_emod_of_nonneg _ (by decide)]; rfl
  rw [e, h1, h2, Nat.testBit_eq_decide_div_mod_eq]
  have : row / 2 ^ i % 2 = 0 ∨ row / 2 ^ i % 2 = 1 := by omega
  rcases this with h | h <;> rw [h] <;> rfl
theorem sig_stored (kvs : List (Int × Value)) (k : Nat) (b : Bool) (j : Nat) : sig (stored kvs (k : Int) (.bool b)) j = if j = k then b else sig kvs j := by
  unfold sig
  rw [valueAt_stored]
  by_cases h : j = k
  · subst h; simp
  · rw [if_neg (by omega), if_neg h]
theorem stored_bools {kvs : List (Int × Value)} (hb : ∀ kv ∈ kvs, ∃ b, kv.2 = .bool b) (k : Int) (b : Bool) : ∀ kv ∈ stored kvs k (.bool b), ∃ b, kv.2 = .bool b := by
  unfold stored
  split
  · intro kv hkv
    obtain ⟨q, hq, rfl⟩ := List.mem_map.mp hkv
    split
    · exact ⟨b, rfl⟩
    · exact hb q hq
  · intro kv hkv
    rcases List.mem_append.mp hkv with h | h
    · exact hb kv h
    · rw [List.mem_singleton.mp h]; exact ⟨b, rfl⟩
def bitv (n row : Nat) (j : Nat) : Bool := decide (2 ≤ j) && (decide (j < n + 2) && row.testBit (j - 2))
theorem bitv_zero (row j : Nat) : bitv 0 row j = false := by
  unfold bitv
  by_cases h : 2 ≤ j
  · have : ¬ j < 0 + 2 := by omega
    simp [this]
  · simp [h]
theorem bitv_succ (i row j : Nat) : bitv (i + 1) row j = if j = i + 2 then row.testBit i else bitv i row j := by
  unfold bitv
  by_cases h : j = i + 2
  · subst h; simp
  · rw [if_neg h]
    have : (j < i + 1 + 2) ↔ (j < i + 2) := by omega
    simp [this]
def TJ (prog : Program) (w : World) (row : Nat) (m₀ : Str → Option Value) (di ia : Nat) (io : Obj) (i : Nat) (m₁ : Str → Option Value) (nx : List (Addr × Obj)) : Prop :=
  ∃ (u : Option Value) (od : Obj) (kvs : List (Int × Value)), m₁ = (fun y => if y = Str.ofString "k" then u else m₀ y) ∧ nx = [(di, od), (ia, io)] ∧ od.IsDictOf (PySem.intKind prog w) kvs ∧ (∀ kv ∈ kvs, ∃ b, kv.2 = .bool b) ∧ kvs.length ≤ i ∧ ∀ j, sig kvs j = bitv i row j
theorem tj_end {prog : Program} {w : World} {row di ia I i tk : Nat} {io oI od : Obj} {g h : Heap} {L : Addr} {m₀ m' : Str → Option Value} {nw : List (Addr × Obj)} {kvs : List (Int × Value)} {s : Shared}
    (F : Fr g L h m') (N : News g L h nw) (hm : ∀ y, y ≠ Str.ofString "k" → m' y = m₀ y) (h1 : (I, oI) ∈ nw) (h2 : (di, od) ∈ nw) (h3 : (ia, io) ∈ nw) (n1 : di ≠ I) (n2 : ia ≠ I)
    (hK : od.IsDictOf (PySem.intKind prog w) kvs) (hb : ∀ kv ∈ kvs, ∃ b, kv.2 = .bool b) (hl : kvs.length ≤ i) (hs : ∀ j, sig kvs j = bitv i row j) :
    ∃ h' tk' m₂ news', ({ s with heap := h, toks := tk } : Shared) = { s with heap := h', toks := tk' } ∧ Fr g L h' m₂ ∧ News g L h' ((I, oI) :: news') ∧ (∀ p ∈ news', p.1 ≠ I) ∧ TJ prog w row m₀ di ia io i m₂ news' := by
  refine ⟨h, tk, m', [(di, od), (ia, io)], rfl, F, news_sub N fun p hp => ?_, fun p hp => ?_, m' (Str.ofString "k"), od, kvs, ?_, rfl, hK, hb, hl, hs⟩
  · simp only [List.mem_cons, List.not_mem_nil, or_false] at hp
    rcases hp with rfl | rfl | rfl <;> assumption
  · simp only [List.mem_cons, List.not_mem_nil, or_false] at hp
    rcases hp with rfl | rfl <;> assumption
  · funext y
    by_cases e1 : y = Str.ofString "k"
    · rw [if_pos e1, e1]
    · rw [if_neg e1, hm y e1]
theorem ids_getD (n i : Nat) (h : i < n) : ((List.range n).map fun i => ((i + 2 : Nat) : Int)).getD ((i : Int).toNat) 0 = ((i + 2 : Nat) : Int) := by
  rw [Int.toNat_natCast]
  simp [List.getD, h]
end Mine
end

section
open PySem PySem.W PyProof.Rows PySem.Calls
namespace Mine
set_option maxRecDepth 100000
set_option maxHeartbeats 8000000
section
theorem led2_name {h₀ h : Heap} {L a1 a2 : Addr} {o1 o2 : Obj} {P : Prop} (N : News h₀ L h [(a1, o1), (a2, o2)])
    (k : ∀ (di : Nat) io od, di = a1 → od = o1 → True → io = o2 → News h₀ L h [(di, od), (a2, io)] → P) : P :=
  k a1 o2 o1 rfl rfl trivial rfl N
theorem law_told_ok : ∀ {prog : Program} {w : World} {p : Program} {loose : List Str} {mean : ExcName → Option Value} {mg mb : Str → Option Value}
   (hpr : prog = PySem.Challenge.rw_nz0380_01.row.prog)
   {dp un : Nat} {gd : Option (List Code)} {cn : Str} {cs : Scope} {a : Addr} {ccd : Value} {cl : List (Str × Addr)} {outer : List Env} {A₀ : Around} {base h₀ : Heap} {L : Addr} {m : Str → Option Value} {s : Shared} {Q E : Value → Shared → Prop}
   {ia n row c : Nat} {b : Bool} {tr : Tok} {vs : List Value} {news : List (Addr × Obj)}
   (B : Below A₀ base outer h₀) (F : Fr h₀ L s.heap m) (X : (hd.heap_39 w.params).In h₀) (T : Top p loose mean mg mb h₀) (hk : cs.kind = .function) (N₁ : News h₀ L s.heap news) (hia : (ia, PySem.W.listOf vs.toArray c) ∈ news) (hvs : IntsAre vs ((List.range n).map fun i => ((i + 2 : Nat) : Int))) (hn : n ≤ 4) (hrow : row < 65536)
   (hdp : dp + 60 < recursionLimit) (hun : un + 500 < cLine)
   (ret : ∀ di od kvs h' tk', Fr h₀ L h' m → News h₀ L h' ((di, od) :: news) → od.IsDictOf (PySem.intKind prog w) kvs → (∀ kv ∈ kvs, ∃ b, kv.2 = .bool b) → (di == sysModules) = false → sig kvs = bitv n row → Q (.ref di) { s with heap := h', toks := tk' }),
   wpAny (model prog w) (ktrTop dp un gd cn cs L a ccd cl outer) (call (.ref 180) [.ref ia, .int (row : Int) tr, .bool b]) Q E s := by
  w_top off
  k_with_none
  k_with "call builtin:len" => (k_here; k_dflt (refine' len_news (by assumption) (by k_asm) (by k_mem) (by omega) ?_))
  k_with "setItem ref int" => (k_here; k_dflt (refine' kd_set2 (by k_asm) (by k_asm) (by assumption) (by assumption) (by k_mem) (by k_mem) (by assumption) (by k_mem) (by omega) ?_); intro h'zq o'zq F'zq N'zq hd'zq)
  k_with "RangePost" => (refine stopI ?_)
  k_with "pyIter ref" => (k_here; refine stopI ?_)
  k_fill
  intro prog w p loose mean mg mb hp dp un gd cn cs a ccd cl outer A₀ base h₀ L m s Q E ia n row c b tr vs news B F X T hk N₁ hia hvs hn hrow hdp hun ret
  have N : News h₀ L s.heap [(ia, PySem.W.listOf vs.toArray c)] := news_sub N₁ (by intro p hp; rw [List.mem_singleton.mp hp]; exact hia)
  refine wpAny_call ?_
  k_dflt (refine' code_defG ?k1 ?k2 ?k3 ?k4 ?k5 ?kA ?kF ?kK ?k6 ?k7 ?k8 ?k9 ?kB ?_ ?c2 ?c3 ?c4 ?c5; (case kA => exact rfl); (case kF => exact rfl); (case kK => first | assumption | exact rfl); (case k1 => k_asm); (case k2 => k_asm); (case k3 => k_asm); (case k4 => exact N); (case k5 => k_asm); (case k6 => k_is); (case k7 => k_is); (case k8 => ktr_room); (case k9 => exact BindsTo.of_eq rfl); (case c5 => decide); (case kB => exact locs rfl); (case c2 => exact rfl); (case c3 => exact rfl); (case c4 => exact rfl); k_whole)
  intro g L' h₁ FG F' N' B' X' T' gk
  try dsimp only
  k_fold
  have hln : vs.length = n := by have := hvs.length; simpa using this
  k_steps
  unfold Stop
  (with_reducible rename IsRange _ _ _ _ _ _ _ _ => R1)
  (with_reducible rename Fr g L' _ _ => F1)
  (with_reducible rename News g L' _ _ => N1)
  (with_reducible rename Obj.IsDictOf (PySem.intKind _ _) _ _ => hd1)
  (with_reducible rename (_ == sysModules) = false => lo1)
  refine fr_name F1 (fun m₀ hm₀ F2 => ?_)
  refine led2_name N1 (fun di io od ea eb ec ed N2 => ?_)
  rw [← ea] at lo1
  rw [← eb] at hd1
  refine iter_range (J := TJ prog w row m₀ di ia io) (by exact rfl) R1 (small_n (by omega)) F2 N2 ?_ ?_ ?_
  · exact ⟨m₀ (Str.ofString "k"), od, [], by (funext y; split; (rename_i e; rw [e]); rfl), rfl, hd1, by simp, by simp, fun j => (bitv_zero row j).symm⟩
  · rintro i t m₁ nx h tk I oI hi ⟨u, od2, kvs, rfl, rfl, hK, hb, hlen, hsg⟩ F₁ N₁ hcI hne
    subst hm₀ ea ed
    have hbf := bit_fact row i
    have hn1 : di ≠ I := hne (di, od2) (by simp)
    have hn2 : ia ≠ I := hne (ia, PySem.W.listOf vs.toArray c) (by simp)
    k_steps
    · unfold Stop
      have hbt : row.testBit i = true := by
        cases e : row.testBit i with
        | true => rfl
        | false => rw [e] at hbf; simp_all
      (with_reducible rename Obj.IsDictOf (PySem.intKind _ _) _ _ => hd9)
      rw [hbf, hbt, ids_getD n i hi] at hd9
      exact tj_end (by k_asm) (by k_asm) (by intro y e1; simp only [if_neg e1] <;> rfl) (by k_mem) (by k_mem) (by k_mem) hn1 hn2 hd9 (stored_bools hb _ _) (Nat.le_trans (stored_len _ _ _) (by split <;> omega)) (fun j => by rw [bitv_succ, hbt, ← hsg]; exact sig_stored kvs (i + 2) _ j)
    · unfold Stop
      have hbt : row.testBit i = false := by
        cases e : row.testBit i with
        | false => rfl
        | true => rw [e] at hbf; simp_all
      exact tj_end (by k_asm) (by k_asm) (by intro y e1; simp only [if_neg e1] <;> rfl) (by k_mem) (by k_mem) (by k_mem) hn1 hn2 hK hb (Nat.le_succ_of_le hlen) (fun j => by rw [bitv_succ, hbt, hsg]; split; (rename_i e; rw [e]; simp [bitv]); rfl)
    · unfold Stop
      have hbt : row.testBit i = false := by
        cases e : row.testBit i with
        | false => rfl
        | true => rw [e] at hbf; simp_all
      (with_reducible rename Obj.IsDictOf (PySem.intKind _ _) _ _ => hd9)
      rw [hbf, hbt, ids_getD n i hi] at hd9
      exact tj_end (by k_asm) (by k_asm) (by intro y e1; simp only [if_neg e1] <;> rfl) (by k_mem) (by k_mem) (by k_mem) hn1 hn2 hd9 (stored_bools hb _ _) (Nat.le_trans (stored_len _ _ _) (by split <;> omega)) (fun j => by rw [bitv_succ, hbt, ← hsg]; exact sig_stored kvs (i + 2) _ j)
  · rintro m₁ nx h tk ⟨u, od2, kvs, rfl, rfl, hK, hb, hlen, hsg⟩ F₁ N₁'
    subst hm₀ ea ed
    k_steps
    with_reducible rename Fr h₀ L _ _ => kF9
    with_reducible rename News h₀ L _ _ => kN9
    refine ret _ od2 kvs _ _ kF9 (fun q hq => ?_) hK hb lo1 (funext hsg)
    rcases List.mem_cons.mp hq with rfl | hq
    · exact kN9 _ (by simp)
    · by_cases e : q.1 = ia
      · obtain ⟨q1, q2⟩ := q
        subst e
        rw [news_fun N₁ hq hia]
        exact kN9 _ (by simp)
      · exact ⟨F₁.keep _ _ (gk _ _ (N₁ q hq).1 (by simpa using e)), (N₁ q hq).2⟩
end

end Mine
end

section
open PySem PySem.W PyProof.Rows PySem.Calls
set_option maxHeartbeats 2000000
namespace Mine
theorem circ_inp {prog : Program} {w : World} {h₀ h h' : Heap} {L : Addr} {news : List (Addr × Obj)} {cx cd ck cp ckn D : Nat} {t1 t2 t3 t : Tok} {gs : List Gate} {kv pv : Array Value} {n1 n2 : Nat}
    (N : News h₀ L h news) (C : CircIn prog w news cx cd ck cp ckn t1 t2 t3 gs) (k1 : (ck, PySem.W.listOf kv n1) ∈ news) (p1 : (cp, PySem.W.listOf pv n2) ∈ news)
    (N' : News h₀ L h' [(D, tupOf #[]), (cx, instObj 129 cd), (cd, cDict w ck cp ckn t1 t2 t3), (ck, PySem.W.listOf (kv.push (.str (Str.ofString "input") t)) (n1 + 1)), (cp, PySem.W.listOf (pv.push (.ref D)) (n2 + 1))])
    (keep : ∀ p ∈ news, p.1 ∉ [cx, cd, ck, cp] → h'.get? p.1 = some p.2) :
    ∃ news', News h₀ L h' news' ∧ CircIn prog w news' cx cd ck cp ckn t1 t2 t3 (gs ++ [.inp]) ∧ KeepC ck cp ckn news news' ∧ ∀ q ∈ news', q.1 = D ∨ ∃ o, (q.1, o) ∈ news := by
  obtain ⟨hx, hd, ⟨kv', n1', k1', k2, k3⟩, ⟨pv', n2', p1', p2, p3⟩, ⟨ko, xs, o1, o2, o3, o4⟩, lo, wf, ne1, ne2⟩ := C
  have ek := news_fun N k1' k1
  have ep := news_fun N p1' p1
  have ekv : kv' = kv ∧ n1' = n1 := by injection ek with _ _ e _; injection e with e1 e2; exact ⟨e1, e2⟩
  have epv : pv' = pv ∧ n2' = n2 := by injection ep with _ _ e _; injection e with e1 e2; exact ⟨e1, e2⟩
  obtain ⟨rfl, rfl⟩ := ekv
  obtain ⟨rfl, rfl⟩ := epv
  have put : ∀ {b : Nat} {q : Obj}, (b, q) ∈ news → q.cls ≠ .type "list" → (b, q) ∈ news.filter fun p => decide (p.1 ≠ ck ∧ p.1 ≠ cp) := fun {b q} hb hne =>
    List.mem_filter.mpr ⟨hb, decide_eq_true ⟨fun e => by dsimp only at e; subst e; exact hne (by rw [news_fun N hb k1]), fun e => by dsimp only at e; subst e; exact hne (by rw [news_fun N hb p1])⟩⟩
  refine ⟨[(D, tupOf #[]), (ck, PySem.W.listOf (kv'.push (.str (Str.ofString "input") t)) (n1' + 1)), (cp, PySem.W.listOf (pv'.push (.ref D)) (n2' + 1))] ++ news.filter fun p => decide (p.1 ≠ ck ∧ p.1 ≠ cp), ?_, ?_, ?_, ?_⟩
  · intro p hp
    rcases List.mem_append.mp hp with hp | hp
    · refine N' p ?_
      simp only [List.mem_cons, List.not_mem_nil, or_false] at hp ⊢
      rcases hp with h | h | h
      · exact .inl h
      · exact .inr (.inr (.inr (.inl h)))
      · exact .inr (.inr (.inr (.inr h)))
    · obtain ⟨h1, h2⟩ := List.mem_filter.mp hp
      have h2 := of_decide_eq_true h2
      by_cases e1 : p.1 = cx
      · obtain ⟨a, o⟩ := p; dsimp only at e1; subst e1
        rw [news_fun N h1 hx]; exact N' _ (by simp)
      · by_cases e2 : p.1 = cd
        · obtain ⟨a, o⟩ := p; dsimp only at e2; subst e2
          rw [news_fun N h1 hd]; exact N' _ (by simp)
        · exact ⟨keep p h1 (by simp [e1, e2, h2.1, h2.2]), (N p h1).2⟩
  · refine ⟨List.mem_append_right _ (put hx (by intro e; cases e)), List.mem_append_right _ (put hd (by show Value.type "dict" ≠ _; decide)), ⟨kv'.push (.str (Str.ofString "input") t), n1' + 1, by simp, ?_, fun i g e => ?_⟩, ⟨pv'.push (.ref D), n2' + 1, by simp, ?_, fun i g e => ?_⟩, ⟨ko, xs, List.mem_append_right _ (put o1 (by rw [o2.cls]; decide)), o2, ?_, fun x hx => ?_⟩, lo, wf.snoc_inp, ne1, ne2⟩
    · simp [k2]
    · rcases Nat.lt_or_ge i gs.length with hi | hi
      · rw [List.getElem?_append_left hi] at e
        obtain ⟨t', ht⟩ := k3 i g e
        exact ⟨t', by rw [Array.getElem?_push_lt (by omega)]; rw [Array.getElem?_eq_getElem (by omega)] at ht; exact ht⟩
      · rw [List.getElem?_append_right hi] at e
        have hi2 : i = gs.length := by
          have := (List.getElem?_eq_some_iff.mp e).1; simp at this; omega
        subst hi2
        simp at e; subst e
        exact ⟨t, by rw [← k2]; simp [Gate.kind]⟩
    · simp [p2]
    · rcases Nat.lt_or_ge i gs.length with hi | hi
      · rw [List.getElem?_append_left hi] at e
        obtain ⟨a, its, q1, q2, q3⟩ := p3 i g e
        exact ⟨a, its, by rw [Array.getElem?_push_lt (by omega)]; rw [Array.getElem?_eq_getElem (by omega)] at q1; exact q1, List.mem_append_right _ (put q2 (by show Value.type "tuple" ≠ _; decide)), q3⟩
      · rw [List.getElem?_append_right hi] at e
        have hi2 : i = gs.length := by
          have := (List.getElem?_eq_some_iff.mp e).1; simp at this; omega
        subst hi2
        simp at e; subst e
        exact ⟨D, #[], by rw [← p2]; simp, by simp, .nil⟩
    · simp only [List.length_append, List.length_cons, List.length_nil]; omega
    · obtain ⟨p, q, k, tk, its, q1, q2, q3, q4, q5⟩ := o4 x hx
      exact ⟨p, q, k, tk, its, q1, q2, by rw [List.getElem?_append_left (List.getElem?_eq_some_iff.mp q3).1]; exact q3, List.mem_append_right _ (put q4 (by show Value.type "tuple" ≠ _; decide)), q5⟩
  · intro p hp h1 h2 h3
    exact List.mem_append_right _ (List.mem_filter.mpr ⟨hp, decide_eq_true ⟨h1, h2⟩⟩)
  · intro q hq
    rcases List.mem_append.mp hq with hq | hq
    · simp only [List.mem_cons, List.not_mem_nil, or_false] at hq
      rcases hq with rfl | rfl | rfl
      · exact .inl rfl
      · exact .inr ⟨_, k1⟩
      · exact .inr ⟨_, p1⟩
    · exact .inr ⟨q.2, (List.mem_filter.mp hq).1⟩
end Mine
end

section
open PySem PySem.W PyProof.Rows PySem.Calls
namespace Mine
set_option maxRecDepth 100000
set_option maxHeartbeats 8000000
section
theorem new_input_ok : ∀ {prog : Program} {w : World} {p : Program} {loose : List Str} {mean : ExcName → Option Value} {mg mb : Str → Option Value}
   (hpr : prog = PySem.Challenge.rw_nz0380_01.row.prog)
   {dp un : Nat} {gd : Option (List Code)} {cn : Str} {cs : Scope} {a : Addr} {ccd : Value} {cl : List (Str × Addr)} {outer : List Env} {A₀ : Around} {base h₀ : Heap} {L : Addr} {m : Str → Option Value} {s : Shared} {Q E : Value → Shared → Prop}
   {cx cd ck cp ckn : Nat} {t1 t2 t3 : Tok} {gs : List Gate} {pre news : List (Addr × Obj)}
   (B : Below A₀ base outer h₀) (F : Fr h₀ L s.heap m) (X : (hd.heap_39 w.params).In h₀) (T : Top p loose mean mg mb h₀) (hk : cs.kind = .function) (Np : News h₀ L s.heap (pre ++ news)) (C : CircIn prog w news cx cd ck cp ckn t1 t2 t3 gs) (hoff : ∀ p ∈ pre, ∀ q ∈ news, q.1 ≠ p.1) (hz : gs.length ≤ 9000)
   (hdp : dp + 60 < recursionLimit) (hun : un + 500 < cLine)
   (ret : ∀ t news' h' tk', Fr h₀ L h' m → News h₀ L h' (pre ++ news') → CircIn prog w news' cx cd ck cp ckn t1 t2 t3 (gs ++ [.inp]) → KeepC ck cp ckn news news' → (∀ p ∈ pre, ∀ q ∈ news', q.1 ≠ p.1) → Q (.int (gs.length : Int) t) { s with heap := h', toks := tk' }),
   wpAny (model prog w) (ktrTop dp un gd cn cs L a ccd cl outer) (call (.ref 70) [.ref cx]) Q E s := by
  w_top off
  k_with_none
  k_with "call ref" => (k_here; (with_reducible show wpAny _ _ (call (Value.ref 63) _ _) _ _ _); k_dflt (refine' new_gate_ok (by assumption) (by k_asm) (by k_asm) (by k_asm) (by k_asm) (by k_asm) (by exact rfl) (by k_mem) (by k_mem) (by k_updF) (by (intro o9zq; (try dsimp only); k_updF)) (by k_ne) (by assumption) (by assumption) (by ktr_room) (by ktr_units) ?_); intro t9zq h9zq tk9zq F9zq N9zq; (try dsimp only at N9zq))
  k_fill
  intro prog w p loose mean mg mb hp dp un gd cn cs a ccd cl outer A₀ base h₀ L m s Q E cx cd ck cp ckn t1 t2 t3 gs pre news B F X T hk Np C hoff hz hdp hun ret
  have N₁ : News h₀ L s.heap news := news_sub Np fun p hp => List.mem_append_right _ hp
  have C0 := C
  obtain ⟨hx, hcd, ⟨kv, n1, k1, k2, k3⟩, ⟨pv, n2, p1, p2, p3⟩, ⟨ko, xs, o1, o2, o3, o4⟩, lo, wf, ne1, ne2⟩ := C
  have ed1 : cd ≠ ck := fun e => by subst e; have := congrArg Obj.cls (news_fun N₁ hcd k1); simp at this
  have ed2 : cd ≠ cp := fun e => by subst e; have := congrArg Obj.cls (news_fun N₁ hcd p1); simp at this
  have ex1 : cx ≠ ck := fun e => by subst e; have := congrArg Obj.cls (news_fun N₁ hx k1); simp at this
  have ex2 : cx ≠ cp := fun e => by subst e; have := congrArg Obj.cls (news_fun N₁ hx p1); simp at this
  have N : News h₀ L s.heap [(cx, instObj 129 cd), (cd, cDict w ck cp ckn t1 t2 t3), (ck, PySem.W.listOf kv n1), (cp, PySem.W.listOf pv n2)] := news_sub N₁ (by
    intro p hp
    simp only [List.mem_cons, List.not_mem_nil, or_false] at hp
    rcases hp with rfl | rfl | rfl | rfl <;> assumption)
  have hkz : kv.size ≤ 10000 := by omega
  have hpz : pv.size ≤ 10000 := by omega
  refine wpAny_call ?_
  k_dflt (refine' code_defG ?k1 ?k2 ?k3 ?k4 ?k5 ?kA ?kF ?kK ?k6 ?k7 ?k8 ?k9 ?kB ?_ ?c2 ?c3 ?c4 ?c5; (case kA => exact rfl); (case kF => exact rfl); (case kK => first | assumption | exact rfl); (case k1 => k_asm); (case k2 => k_asm); (case k3 => k_asm); (case k4 => exact N); (case k5 => k_asm); (case k6 => k_is); (case k7 => k_is); (case k8 => ktr_room); (case k9 => exact BindsTo.of_eq rfl); (case c5 => decide); (case kB => exact locs rfl); (case c2 => exact rfl); (case c3 => exact rfl); (case c4 => exact rfl); k_whole)
  intro g L' h₁ FG F' N' B' X' T' gk
  try dsimp only
  k_fold
  k_steps
  with_reducible rename Fr h₀ L _ _ => kF9
  with_reducible rename News h₀ L _ _ => kN9
  with_reducible rename Fr g L' _ _ => kG9
  with_reducible rename News g L' _ _ => kNg
  have hfr : ∀ q ∈ pre, g.get? q.1 = some q.2 := fun q hq => gk _ _ (Np q (List.mem_append_left _ hq)).1 (by
    have h1 := hoff q hq _ hx
    have h2 := hoff q hq _ hcd
    have h3 := hoff q hq _ k1
    have h4 := hoff q hq _ p1
    simp only [List.map_cons, List.map_nil, List.mem_cons, List.not_mem_nil, or_false, not_or]
    exact ⟨Ne.symm h1, Ne.symm h2, Ne.symm h3, Ne.symm h4⟩)
  obtain ⟨news', q1, q2, q3, q4⟩ := circ_inp N₁ C0 k1 p1 kN9 (fun q hq hn => kG9.keep _ _ (gk _ _ (N₁ q hq).1 (by simpa using hn)))
  rw [k2]
  refine ret _ news' _ _ kF9 (fun q hq => ?_) q2 q3 (fun q hq r hr e => ?_)
  · rcases List.mem_append.mp hq with hq | hq
    · exact ⟨kG9.keep _ _ (hfr q hq), (Np q (List.mem_append_left _ hq)).2⟩
    · exact q1 q hq
  · rcases q4 r hr with h | ⟨o, h⟩
    · have := (kNg _ (List.mem_cons_self ..)).2.2
      rw [← h, e, hfr q hq] at this
      cases this
    · exact hoff q hq _ h e
end

end Mine
end

section
open PySem PySem.W PyProof.Rows PySem.Calls
set_option maxHeartbeats 2000000
namespace Mine
open LCg LCt
section
variable {M : Model} {A : Around} {E : Value → Shared → Prop} {s : Shared}
theorem newEnv_cell {scope : Scope} {globals : Addr} {cl : List (Str × Addr)} {qual : Str} {env : Env} {x : Str} {Q : Env → Shared → Prop}
    (h1 : ∀ n, cellsFrom n scope.names cl = (x, n) :: cl) (h2 : ∀ h, pushCells h scope.names = h.push { cls := .type "cell", data := .cell none })
    (hQ : Q { scope := scope, locals := s.heap.objs.size, globals := globals, cells := (x, s.heap.objs.size + 1) :: cl, qual := qual, func := none, code := env.code, frame := env.frame, builtins := env.builtins }
      { s with heap := (s.heap.push { cls := .type "dict", data := .dict #[] }).push { cls := .type "cell", data := .cell none } }) :
    wpAny M A (newFunctionEnv scope globals cl [] qual none .none (some env)) Q E s := by
  simp only [newFunctionEnv, Option.isSome_some, if_true]
  refine wpAny_bind (wpAny_alloc ?_)
  refine wpAny_bind (wpAny_layCells _ (fun name kind cells => by cases hkc : kind == NameKind.cell <;> simp [hkc]) _ _ _ _ ?_)
  rw [h1, h2]
  rw [show ({ s with heap := s.heap.push { cls := .type "dict", data := .dict #[] } } : Shared).heap.objs.size = s.heap.objs.size + 1 from Heap.size_push ..]
  exact wpAny_bind (by rw [List.forIn_nil]; exact wpAny_pure (wpAny_pure hQ))
end
section
variable {prog : Program} {w : World} {A : Around} {E : Value → Shared → Prop} {s : Shared} {h₀ : Heap} {L : Addr} {m : Str → Option Value} {env : Env}
def EndK (h₀ : Heap) (L : Addr) (m : Str → Option Value) (s₂ : Shared) (I : Nat) (oI : Obj) (C : Nat) (oC : Obj) (D : Nat) (ys : List Value) (kc : Nat) (oK : Obj) (J : List Value → List (Addr × Obj) → Prop) (y : Value) (s' : Shared) : Prop :=
  ∃ h' tk' news', s' = { s₂ with heap := h', toks := tk' } ∧ Fr h₀ L h' m ∧ News h₀ L h' ((I, oI) :: (C, oC) :: (D, lst ys) :: (kc, oK) :: news') ∧ (∀ p ∈ news', p.1 ≠ I ∧ p.1 ≠ C ∧ p.1 ≠ D ∧ p.1 ≠ kc) ∧ J (ys ++ [y]) news'
def TurnK (prog : Program) (w : World) (A : Around) (h₀ : Heap) (L : Addr) (m : Str → Option Value) (env : Env) (elt : PySem.Expr) (x : Str) (scope : Scope) (cl : List (Str × Addr)) (J : Nat → List Value → List (Addr × Obj) → Prop) (n : Nat) (s₂ : Shared) : Prop :=
  ∀ i ys news₁ t (I : Nat) oI (C : Nat) oC (D : Nat) (kc : Nat) oK h tk (E' : Value → Shared → Prop), i < n → J i ys news₁ → oK.data = .cell (some (.int (i : Int) t)) → Fr h₀ L h m →
    News h₀ L h ((I, oI) :: (C, oC) :: (D, lst ys) :: (kc, oK) :: news₁) → (∀ p ∈ news₁, p.1 ≠ I ∧ p.1 ≠ C ∧ p.1 ≠ D ∧ p.1 ≠ kc) →
    wpAny (model prog w) A (eval elt (compEnvC scope ((x, kc) :: cl) C env)) (EndK h₀ L m s₂ I oI C oC D ys kc oK (J (i + 1))) E' { s₂ with heap := h, toks := tk }

theorem block_K {elt iter : PySem.Expr} {x : Str} {px : Pos} {scope : Scope} {cl : List (Str × Addr)} {pos : Pos} {s₂ : Shared} {I n : Nat} {news : List (Addr × Obj)} {J : Nat → List Value → List (Addr × Obj) → Prop} {RR : Value → Addr → Result → Shared → Prop}
    (hh : A.handled = none) (hsz : n ≤ sizeLine) (hkind : scope.kind = .function) (hx : (relabel scope env).names.lookup x = some .cell)
    (h1 : ∀ n, cellsFrom n scope.names cl = (x, n) :: cl) (h2 : ∀ h, pushCells h scope.names = h.push { cls := .type "cell", data := .cell none })
    (hst : IsRangeIter s₂.heap I (0 + (0 : Nat) * 1) ((n : Int) - (0 : Nat)) 1) (hIlt : I < s₂.heap.objs.size)
    (F : Fr h₀ L s₂.heap m) (N : News h₀ L s₂.heap news) (hIL : L ≠ I) (hI₀ : h₀.get? I = none) (off : ∀ p ∈ news, p.1 ≠ I) (hJ : J 0 [] news)
    (turn : TurnK prog w A h₀ L m env elt x scope cl J n s₂)
    (hRR : ∀ D C h tk m' ys news', Fr h₀ L h m → News h₀ L h ((D, lst ys) :: news') → (∀ p ∈ news', p.1 ≠ D) → h.Ns C m' → h₀.get? C = none → C ≠ L → C ≠ D → (∀ p ∈ news', p.1 ≠ C) → J n ys news' → RR (.ref D) C (.ok .next) { s₂ with heap := h, toks := tk }) :
    wpAny (model prog w) A (newList []) (fun acc s₃ => wpAny (model prog w) A (newFunctionEnv scope env.globals cl [] env.qual none .none (some env)) (fun cenv s₄ =>
      codeAny (model prog w) A (.compStart (.ListComp elt [⟨.Name x px, iter, [], 0⟩] scope pos) 0 (.ref I) acc { cenv with scope := relabel scope env }) (RR acc cenv.locals) s₄) E s₃) E s₂ := by
  have W := range_walks (prog := prog) (w := w) (I := I) hh 0 n
  refine wpAny_newObj_type (newEnv_cell h1 h2 ?_)
  dsimp only
  generalize hH2 : s₂.heap.push { cls := .type "list", dict := none, data := .seq ([] : List Value).toArray } = H2
  generalize hH3 : H2.push { cls := .type "dict", data := .dict #[] } = H3
  generalize hH4 : H3.push { cls := .type "cell", data := .cell none } = H4
  have hC : H2.objs.size = s₂.heap.objs.size + 1 := by rw [← hH2, Heap.size_push]
  have hK : H3.objs.size = s₂.heap.objs.size + 2 := by rw [← hH3, Heap.size_push, hC]
  have hK' : H2.objs.size + 1 = H3.objs.size := by rw [hK, hC]
  rw [hK']
  have up2 : ∀ b o, s₂.heap.get? b = some o → H2.get? b = some o := fun b o e => hH2 ▸ Heap.get?_push_of_some _ e
  have up3 : ∀ b o, H2.get? b = some o → H3.get? b = some o := fun b o e => hH3 ▸ Heap.get?_push_of_some _ e
  have up4 : ∀ b o, H3.get? b = some o → H4.get? b = some o := fun b o e => hH4 ▸ Heap.get?_push_of_some _ e
  have old : ∀ b o, s₂.heap.get? b = some o → H4.get? b = some o := fun b o e => up4 _ _ (up3 _ _ (up2 _ _ e))
  have hDat : H4.get? s₂.heap.objs.size = some (lst []) := up4 _ _ (up3 _ _ (hH2 ▸ Heap.get?_push_size _ rfl))
  have hNs : H4.Ns H2.objs.size (fun _ => none) := (show H3.Ns H2.objs.size (fun _ => none) from hH3 ▸ Heap.Ns.new H2 (.type "dict")).keeps up4
  have hCell : H4.IsCell H3.objs.size none := ⟨_, hH4 ▸ Heap.get?_push_size _ rfl, rfl⟩
  generalize hDn : s₂.heap.objs.size = D at *
  generalize hCn : H2.objs.size = C at *
  generalize hKn : H3.objs.size = kc at *
  have below : ∀ b, b < D → b ≠ D ∧ b ≠ C ∧ b ≠ kc := fun b hb => by refine ⟨?_, ?_, ?_⟩ <;> (intro e; omega)
  have fresh₀ : ∀ a, D ≤ a → h₀.get? a = none := fun a ha => by
    cases e : h₀.get? a with
    | none => rfl
    | some o' =>
      have := Heap.lt_size (F.keep a o' e)
      rw [hDn] at this
      exact absurd this (Nat.not_lt.mpr ha)
  have hD₀ : h₀.get? D = none := fresh₀ _ (Nat.le_refl _)
  have hC₀ : h₀.get? C = none := fresh₀ _ (by omega)
  have hK₀ : h₀.get? kc = none := fresh₀ _ (by omega)
  have hLlt : L < D := hDn ▸ F.ns.lt
  have hDL : D ≠ L := Ne.symm (below L hLlt).1
  have hCL : C ≠ L := Ne.symm (below L hLlt).2.1
  have hKL : kc ≠ L := Ne.symm (below L hLlt).2.2
  have hID : I ≠ D := (below I hIlt).1
  have hIC : I ≠ C := (below I hIlt).2.1
  have hIK : I ≠ kc := (below I hIlt).2.2
  have hDC : D ≠ C := by omega
  have hDK : D ≠ kc := by omega
  have hCK : C ≠ kc := by omega
  have off₀ : ∀ p ∈ news, p.1 ≠ I ∧ p.1 ≠ C ∧ p.1 ≠ D ∧ p.1 ≠ kc := fun p hp => by
    have := below p.1 (hDn ▸ Heap.lt_size (N p hp).1)
    exact ⟨off p hp, this.2.1, this.1, this.2.2⟩
  have hst₁ : IsRangeIter H4 I (0 + (0 : Nat) * 1) ((n : Int) - (0 : Nat)) 1 := W.frame _ _ _ hst fun b _ o e => old b o e
  have hkx : Env.kindOf (compEnvC scope ((x, kc) :: cl) C env) x = some .cell := hx
  have hcx : (compEnvC scope ((x, kc) :: cl) C env).cells.lookup x = some kc := by simp [compEnvC]
  have loop : ∀ s₃ : Shared, s₃ = { s₂ with heap := H4 } →
      codeAny (model prog w) A (.compLoop (.ListComp elt [⟨.Name x px, iter, [], 0⟩] scope pos) 0 (.ref I) (.ref D) (compEnvC scope ((x, kc) :: cl) C env)) (RR (.ref D) C) s₃ := by
    rintro s₃ rfl
    refine codeAny_compLoop_tests
      (fun k s' => ∃ h' tk i ys m' cv news', s' = { s₂ with heap := h', toks := tk } ∧ i ≤ n ∧ k = n + 1 - i ∧ ys.length = i ∧ IsRangeIter h' I (0 + (i : Nat) * 1) ((n : Int) - (i : Nat)) 1 ∧ Fr h₀ L h' m ∧ h'.Ns C m' ∧ h'.IsCell kc cv ∧ News h₀ L h' ((D, lst ys) :: news') ∧
        (∀ p ∈ news', p.1 ≠ I ∧ p.1 ≠ C ∧ p.1 ≠ D ∧ p.1 ≠ kc) ∧ J i ys news') ?_ (n + 1)
      ⟨H4, _, 0, [], _, none, news, rfl, Nat.zero_le _, rfl, rfl, hst₁, F.keeps old, hNs, hCell, fun p hp => ?_, off₀, hJ⟩
    · rintro k s' ⟨h', tk, i, ys, m', cv, news', rfl, hi, rfl, hyl, hst', F', hn', hcv, N', off', hJ'⟩
      by_cases hlt : i < n
      · refine W.item i _ _ _ hlt hst' fun v h₂ tk₂ hPv hst₂ hk₂ => ?_
        obtain ⟨t, rfl⟩ := hPv
        rw [Int.zero_add]
        have kp : ∀ b o, b ≠ I → h'.get? b = some o → h₂.get? b = some o := fun b o hb e => hk₂ b o (by simpa using hb) e
        have hcv₂ : h₂.IsCell kc cv := let ⟨o, ho, hd⟩ := hcv; ⟨o, kp _ _ (Ne.symm hIK) ho, hd⟩
        refine wpAny_assign_Name (wpAny_storeName_cell (by simp [compEnvC, relabel, hkind]) hkx hcx hcv₂ fun h₃ hv₃ hs₃ => ?_)
        refine wpAny_tests_nil ?_
        simp only [if_true]
        have k3 : ∀ b o, b ≠ kc → h₂.get? b = some o → h₃.get? b = some o := fun b o hb e => (hs₃.2 b hb).trans e
        have hst₃ : IsRangeIter h₃ I (0 + ((i + 1 : Nat) : Nat) * 1) ((n : Int) - ((i + 1 : Nat) : Nat)) 1 := W.frame _ _ _ hst₂ fun b hb o e => k3 b o (by rw [List.mem_singleton.mp hb]; exact hIK) e
        obtain ⟨oI, heI⟩ : ∃ o, h₃.get? I = some o := ⟨_, hst₃⟩
        obtain ⟨oC, heC, hoC⟩ := ns_obj (((hn'.at' fun o e => kp C o (Ne.symm hIC) e).at' fun o e => k3 C o hCK e))
        obtain ⟨oK, heK, hdK⟩ := hv₃
        have F₂ : Fr h₀ L h₂ m := fr_but F' hk₂ hIL hI₀
        have F₃ : Fr h₀ L h₃ m := ⟨F₂.ns.at' fun o e => k3 L o (Ne.symm hKL) e, fun b o e => k3 b o (fun q => by rw [q, hK₀] at e; cases e) (F₂.keep b o e), F₂.above⟩
        have N₃ : News h₀ L h₃ ((I, oI) :: (C, oC) :: (D, lst ys) :: (kc, oK) :: news') := fun p hp => by
          rcases List.mem_cons.mp hp with rfl | hp
          · exact ⟨heI, Ne.symm hIL, hI₀⟩
          · rcases List.mem_cons.mp hp with rfl | hp
            · exact ⟨heC, hCL, hC₀⟩
            · rcases List.mem_cons.mp hp with rfl | hp
              · have z := N' (D, lst ys) List.mem_cons_self
                exact ⟨k3 _ _ hDK (kp _ _ (Ne.symm hID) z.1), z.2⟩
              · rcases List.mem_cons.mp hp with rfl | hp
                · exact ⟨heK, hKL, hK₀⟩
                · have z := N' p (List.mem_cons_of_mem _ hp)
                  have o3 := off' p hp
                  exact ⟨k3 _ _ o3.2.2.2 (kp _ _ o3.1 z.1), z.2⟩
        refine wpAny_mono (turn i ys news' t I oI C oC D kc oK h₃ _ _ hlt hJ' hdK F₃ N₃ off') (fun y s₄ h₄ => ?_) fun _ _ e => e
        obtain ⟨h₄, tk₄, news₄, rfl, F₄, N₄, off₄, hJ₄⟩ := h₄
        have zI := (N₄ (I, oI) (by simp)).1
        have zC := (N₄ (C, oC) (by simp)).1
        have zD := (N₄ (D, lst ys) (by simp)).1
        have zK := (N₄ (kc, oK) (by simp)).1
        have N₄' : News h₀ L h₄ news₄ := fun p hp => N₄ p (List.mem_cons_of_mem _ (List.mem_cons_of_mem _ (List.mem_cons_of_mem _ (List.mem_cons_of_mem _ hp))))
        have hst₄ : IsRangeIter h₄ I (0 + ((i + 1 : Nat) : Nat) * 1) ((n : Int) - ((i + 1 : Nat) : Nat)) 1 := by
          show h₄.get? I = some _
          have q : h₃.get? I = some _ := hst₃
          rw [zI, ← heI]; exact q
        refine append_at (hsz := by show ys.toArray.size ≤ sizeLine; rw [List.size_toArray, hyl]; exact Nat.le_trans hi hsz) zD fun h₅ hs₅ hD₅ => ?_
        refine ⟨n + 1 - (i + 1), by omega, h₅, tk₄, i + 1, ys ++ [y], _, some (.int (i : Int) t), news₄, rfl, hlt, rfl, by rw [List.length_append, List.length_singleton, hyl], W.frame _ _ _ hst₄ fun b hb o e => hs₅.extBut b o (by rw [List.mem_singleton.mp hb]; exact hID) e, F₄.change hs₅ hDL hD₀,
          (hoC.ns zC).sameBut hs₅ (Ne.symm hDC), ⟨oK, hs₅.extBut _ _ (Ne.symm hDK) zK, hdK⟩, fun p hp => ?_, off₄, hJ₄⟩
        rcases List.mem_cons.mp hp with rfl | hp
        · exact ⟨hD₅.trans (congrArg some (lst_snoc ys y)), hDL, hD₀⟩
        · exact ⟨hs₅.extBut _ _ (off₄ p hp).2.2.1 (N₄' p hp).1, (N₄' p hp).2⟩
      · obtain rfl : i = n := Nat.le_antisymm hi (Nat.not_lt.mp hlt)
        refine W.done _ _ _ hst' fun h₂ tk₂ hk₂ => ?_
        exact hRR _ _ h₂ tk₂ _ ys news' (fr_but F' hk₂ hIL hI₀) (news_but N' hk₂ fun p hp => by
          rcases List.mem_cons.mp hp with rfl | hp
          · exact Ne.symm hID
          · exact (off' p hp).1) (fun p hp => (off' p hp).2.2.1) (hn'.at' fun o e => hk₂ _ o (by simpa using Ne.symm hIC) e) hC₀ hCL (Ne.symm hDC) (fun p hp => (off' p hp).2.1) hJ'
    · rcases List.mem_cons.mp hp with rfl | hp
      · exact ⟨hDat, hDL, hD₀⟩
      · exact ⟨old _ _ (N p hp).1, (N p hp).2⟩
  exact codeAny_compStart_list (loop _ rfl) (W.self 0 _ _ _ hst₁ (loop _ rfl))

def SrcK (prog : Program) (w : World) (A : Around) (h₀ : Heap) (L : Addr) (m : Str → Option Value) (env : Env) (elt : PySem.Expr) (x : Str) (scope : Scope) (cl : List (Str × Addr)) (Fin : Shared → List Value → List (Addr × Obj) → Prop) (xv : Value) (s₁ : Shared) : Prop :=
  ∃ r t u v n news J, xv = .ref r ∧ A.handled = none ∧ Fr h₀ L s₁.heap m ∧ News h₀ L s₁.heap news ∧ IsRange s₁.heap r 0 (n : Nat) 1 t u v ∧ Builtin.Range.small 0 (n : Nat) 1 = true ∧ n ≤ sizeLine ∧ J 0 [] news ∧
    ∀ s₂ : Shared, (∃ h, s₂ = { s₁ with heap := h }) → TurnK prog w A h₀ L m env elt x scope cl J n s₂ ∧ ∀ ys news', J n ys news' → Fin s₂ ys news'
theorem Assign_ListComp_K {elt iter : PySem.Expr} {x y : Str} {px py : Pos} {scope : Scope} {cl : List (Str × Addr)} {pos spos : Pos} {Q : Flow → Shared → Prop} (F₀ : Fr h₀ L s.heap m) (hLe : env.locals = L)
    (hsw : swapsWith (.ListComp elt [⟨.Name x px, iter, [], 0⟩] scope pos) (some (.Name y py)) spos.line env = pure true)
    (hclos : closureFor scope env = pure cl) (hkind : scope.kind = .function)
    (hnames : ∀ z ∈ scope.names, z.2 = .local → scope.names.lookup z.1 = some .local) (hx : (relabel scope env).names.lookup x = some .cell)
    (h1 : ∀ n, cellsFrom n scope.names cl = (x, n) :: cl) (h2 : ∀ h, pushCells h scope.names = h.push { cls := .type "cell", data := .cell none })
    (hy : env.kindOf y = some .local) (hp : (env.scope.kind == .class || (env.scope.kind == .module && env.locals != env.globals)) = false)
    (h : wpAny (model prog w) A (eval iter env) (SrcK prog w A h₀ L m env elt x scope cl (fun s₂ => FinA h₀ L m s₂ y Q)) E s)
    (hs : ∀ x, foldedSetIterable iter env x = pure x := by intro _; rfl) :
    wpAny (model prog w) A (exec (.Assign [.Name y py] (.ListComp elt [⟨.Name x px, iter, [], 0⟩] scope pos) spos) env) Q E s := by
  subst hLe
  rw [exec_Assign_Name_used _ _ _ _ hsw]
  refine wpAny_bind (wpAny_standAt (wpAny_bind ?_))
  show wpAny _ A (do let _ ← comprehension (.ListComp elt [⟨.Name x px, iter, [], 0⟩] scope pos) scope env _ (newList []) false (eval iter env) (some (assign (.Name y py) env))) _ _ s
  refine wpAny_bind (wpAny_mono (wpAny_comprehension_free (use := some (assign (.Name y py) env)) (Q := fun _ s' => Q .next s') rfl hs hclos hkind hnames
    (wpAny_mono h (fun xv s₁ h₁ => ?_) fun _ _ e => e)) (fun _ s' hq => wpAny_pure (wpAny_pure hq)) fun _ _ e => e)
  obtain ⟨r, t, u, v, n, news, J, rfl, hh, F, N, hr, hsm, hsz, hJ, R⟩ := h₁
  have hn : Builtin.Range.rangeSize 0 (n : Int) 1 = (n : Int) := by rw [rangeSize_nat]; simp
  refine wpAny_pyIter_range hr hsm ?_
  obtain ⟨R1, R2⟩ := R _ ⟨_, rfl⟩
  refine block_K hh hsz hkind hx h1 h2 (by show IsRangeIter _ _ _ _ _; rw [hn]; simpa using Heap.get?_push_size _ rfl) (by show s₁.heap.objs.size < (s₁.heap.push _).objs.size; rw [Heap.size_push]; exact Nat.lt_succ_self _)
      (F.keeps fun _ _ e => Heap.get?_push_of_some _ e) (N.grown fun _ _ e => Heap.get?_push_of_some _ e) (Nat.ne_of_lt F.ns.lt) (next_is_new F) (fun p hp => Nat.ne_of_lt (Heap.lt_size (N p hp).1)) hJ R1 ?_
  intro D C h' tk m' ys news' F' N' o1 hn hC₀ hCL hCD offC fin
  show wpAny _ A (assign (.Name y py) env (.ref D)) _ _ _
  refine wpAny_assign_Name (wpAny_storeName_local hy F'.ns (fun h₂ hn₂ hs₂ => ?_) hp)
  have hL₀ : h₀.get? env.locals = none := Heap.get?_none_of_le F'.above
  have F₂ : Fr h₀ env.locals h₂ (fun z => if z = y then some (.ref D) else m z) := ⟨hn₂, fun b o e => hs₂.extBut b o (fun q => by rw [q, hL₀] at e; cases e) (F'.keep b o e), F'.above⟩
  have off1 : ∀ (l : List (Addr × Obj)), (∀ p ∈ l, p.1 ≠ D) → Off1 D l := fun l => by
    induction l with
    | nil => intro _; trivial
    | cons a r ih => intro q; exact ⟨q a List.mem_cons_self, ih fun p hp => q p (List.mem_cons_of_mem _ hp)⟩
  refine ⟨m', hn.sameBut hs₂ hCL, fun h'' hs'' => R2 ys news' fin D h'' _ (F₂.change hs'' hCL hC₀) (fun p hp => ?_) (off1 _ o1)⟩
  have z : h₂.get? p.1 = some p.2 := hs₂.extBut _ _ (N' p hp).2.1 (N' p hp).1
  refine ⟨hs''.extBut _ _ ?_ z, (N' p hp).2⟩
  rcases List.mem_cons.mp hp with rfl | hp
  · exact Ne.symm hCD
  · exact offC p hp
end
end Mine
end

section
open PySem PySem.W PyProof.Rows PySem.Calls
namespace Mine
set_option maxRecDepth 100000
set_option maxHeartbeats 8000000
open LCg LCt
theorem put_mem {news : List (Addr × Obj)} {a b : Nat} {o o' : Obj} (hb : (b, o) ∈ news) (hne : b ≠ a) : (b, o) ∈ (a, o') :: news.filter fun p => decide (p.1 ≠ a) :=
  List.mem_cons_of_mem _ (List.mem_filter.mpr ⟨hb, decide_eq_true hne⟩)
theorem ne_data {h₀ h : Heap} {L : Addr} {news : List (Addr × Obj)} (N : News h₀ L h news) {a b : Nat} {o o' : Obj} (h1 : (a, o) ∈ news) (h2 : (b, o') ∈ news) (hd : o.data ≠ o'.data) : a ≠ b := fun e => by
  subst e; exact hd (congrArg Obj.data (news_fun N h1 h2))
abbrev cellObj (v : Option Value) : Obj := { cls := .type "cell", data := .cell v }

/-- the ledger bears the law's feed and circuit -/
structure LB (prog : Program) (w : World) (news : List (Addr × Obj)) (c3 c4 fd ca cx cd ck cp ckn : Nat) (t1 t2 t3 : Tok) (ns : List Int) (gs : List Gate) (k : Int) : Prop where
  h3 : ∃ o, (c3, o) ∈ news ∧ o.data = .cell (some (.ref cx))
  h4 : ∃ o, (c4, o) ∈ news ∧ o.data = .cell (some (.ref fd))
  hf : ∃ o t, (fd, o) ∈ news ∧ o.IsDictOf (PySem.strKind prog w) [(Str.ofString "cells", .ref ca), (Str.ofString "spot", .int k t)]
  hl : ∃ vs n, (ca, PySem.W.listOf vs.toArray n) ∈ news ∧ IntsAre vs ns
  hn : ns.length ≤ 30
  hk : 0 ≤ k
  C : CircIn prog w news cx cd ck cp ckn t1 t2 t3 gs
  n1 : fd ≠ cd
  n2 : fd ≠ ckn
  n3 : ca ≠ ck
  n4 : ca ≠ cp
section
variable {prog : Program} {w : World} {news news' : List (Addr × Obj)} {c3 c4 fd ca cx cd ck cp ckn : Nat} {t1 t2 t3 : Tok} {ns : List Int} {gs : List Gate} {k : Int} {h₀ h : Heap} {L : Addr}
theorem LB.mono (B : LB prog w news c3 c4 fd ca cx cd ck cp ckn t1 t2 t3 ns gs k) (h : ∀ p ∈ news, p ∈ news') : LB prog w news' c3 c4 fd ca cx cd ck cp ckn t1 t2 t3 ns gs k := by
  obtain ⟨⟨o3, a1, a2⟩, ⟨o4, a3, a4⟩, ⟨of, t, a5, a6⟩, ⟨vs, n, a7, a8⟩, hn, hk, C, n1, n2, n3, n4⟩ := B
  exact ⟨⟨o3, h _ a1, a2⟩, ⟨o4, h _ a3, a4⟩, ⟨of, t, h _ a5, a6⟩, ⟨vs, n, h _ a7, a8⟩, hn, hk, C.mono h, n1, n2, n3, n4⟩
/-- the circuit has turned -/
theorem LB.turn {gs' : List Gate} (B : LB prog w news c3 c4 fd ca cx cd ck cp ckn t1 t2 t3 ns gs k) (N : News h₀ L h news) (K : KeepC ck cp ckn news news') (C' : CircIn prog w news' cx cd ck cp ckn t1 t2 t3 gs') :
    LB prog w news' c3 c4 fd ca cx cd ck cp ckn t1 t2 t3 ns gs' k := by
  obtain ⟨⟨o3, a1, a2⟩, ⟨o4, a3, a4⟩, ⟨of, t, a5, a6⟩, ⟨vs, n, a7, a8⟩, hn, hk, C, n1, n2, n3, n4⟩ := B
  obtain ⟨hx, hcd, ⟨kv, m1, k1, k2⟩, ⟨pv, m2, p1, p2⟩, ⟨ko, xs, o1, o2, _⟩, lo, wf, ne1, ne2⟩ := C
  obtain ⟨es, ep, _, od, _⟩ := o2
  have a6' := a6
  obtain ⟨es', ep', _, od', _⟩ := a6
  refine ⟨⟨o3, K _ a1 ?_ ?_ ?_, a2⟩, ⟨o4, K _ a3 ?_ ?_ ?_, a4⟩, ⟨of, t, K _ a5 ?_ ?_ n2, a6'⟩, ⟨vs, n, K _ a7 n3 n4 ?_, a8⟩, hn, hk, C', n1, n2, n3, n4⟩
  · exact ne_data N a1 k1 (by rw [a2]; intro e; cases e)
  · exact ne_data N a1 p1 (by rw [a2]; intro e; cases e)
  · exact ne_data N a1 o1 (by rw [a2, od]; intro e; cases e)
  · exact ne_data N a3 k1 (by rw [a4]; intro e; cases e)
  · exact ne_data N a3 p1 (by rw [a4]; intro e; cases e)
  · exact ne_data N a3 o1 (by rw [a4, od]; intro e; cases e)
  · exact ne_data N a5 k1 (by rw [od']; intro e; cases e)
  · exact ne_data N a5 p1 (by rw [od']; intro e; cases e)
  · exact ne_data N a7 o1 (by rw [od]; intro e; cases e)
theorem circ_offc (C : CircIn prog w news cx cd ck cp ckn t1 t2 t3 gs) (N : News h₀ L h news) {a : Nat} {v₀ : Option Value} {o : Obj} (ha : (a, o) ∈ news) (hd : o.data = .cell v₀) :
    CircIn prog w (news.filter fun p => decide (p.1 ≠ a)) cx cd ck cp ckn t1 t2 t3 gs := by
  obtain ⟨hx, hcd, ⟨kv, n1, k1, k2⟩, ⟨pv, n2, p1, p2, p3⟩, ⟨ko, xs, o1, o2, o3, o4⟩, lo, wf, ne1, ne2⟩ := C
  have put : ∀ {b : Nat} {q : Obj}, (b, q) ∈ news → q.data ≠ .cell v₀ → (b, q) ∈ news.filter fun p => decide (p.1 ≠ a) := fun hb hne => List.mem_filter.mpr ⟨hb, decide_eq_true (ne_data N hb ha (by rw [hd]; exact hne))⟩
  have o2' := o2
  obtain ⟨es, ep, _, od, _⟩ := o2
  refine ⟨put hx (by intro e; cases e), put hcd (by intro e; cases e), ⟨kv, n1, put k1 (by intro e; cases e), k2⟩, ⟨pv, n2, put p1 (by intro e; cases e), p2, fun i g e => ?_⟩, ⟨ko, xs, put o1 (by rw [od]; intro e; cases e), o2', o3, fun y hy => ?_⟩, lo, wf, ne1, ne2⟩
  · obtain ⟨b, its, q1, q2, q3⟩ := p3 i g e
    exact ⟨b, its, q1, put q2 (by intro e; cases e), q3⟩
  · obtain ⟨p, q, k, tk, its, q1, q2, q3, q4, q5⟩ := o4 y hy
    exact ⟨p, q, k, tk, its, q1, q2, q3, put q4 (by intro e; cases e), q5⟩
/-- a cell of the law's own has turned -/
theorem LB.off (B : LB prog w news c3 c4 fd ca cx cd ck cp ckn t1 t2 t3 ns gs k) (N : News h₀ L h news) {a : Nat} {v₀ : Option Value} {o o' : Obj} (hc : (a, o) ∈ news) (hd : o.data = .cell v₀) (h3 : a ≠ c3) (h4 : a ≠ c4) :
    LB prog w ((a, o') :: news.filter fun p => decide (p.1 ≠ a)) c3 c4 fd ca cx cd ck cp ckn t1 t2 t3 ns gs k := by
  obtain ⟨⟨o3, a1, a2⟩, ⟨o4, a3, a4⟩, ⟨of, t, a5, a6⟩, ⟨vs, n, a7, a8⟩, hn, hk, C, n1, n2, n3, n4⟩ := B
  have a6' := a6
  obtain ⟨es', ep', _, od', _⟩ := a6
  refine ⟨⟨o3, put_mem a1 (Ne.symm h3), a2⟩, ⟨o4, put_mem a3 (Ne.symm h4), a4⟩, ⟨of, t, put_mem a5 ?_, a6'⟩, ⟨vs, n, put_mem a7 ?_, a8⟩, hn, hk, (circ_offc C N hc hd).mono fun p hp => List.mem_cons_of_mem _ hp, n1, n2, n3, n4⟩
  · exact ne_data N a5 hc (by rw [hd, od']; intro e; cases e)
  · exact ne_data N a7 hc (by rw [hd]; intro e; cases e)
theorem LB.cell_ne (B : LB prog w news c3 c4 fd ca cx cd ck cp ckn t1 t2 t3 ns gs k) (N : News h₀ L h news) {a : Nat} {v₀ : Option Value} {o : Obj} (hc : (a, o) ∈ news) (hd : o.data = .cell v₀) :
    a ≠ fd ∧ a ≠ ck ∧ a ≠ cp ∧ a ≠ ckn ∧ a ≠ ca := by
  obtain ⟨⟨o3, a1, a2⟩, ⟨o4, a3, a4⟩, ⟨of, t, a5, a6⟩, ⟨vs, n, a7, a8⟩, hn, hk, C, n1, n2, n3, n4⟩ := B
  obtain ⟨hx, hcd, ⟨kv, m1, k1, k2⟩, ⟨pv, m2, p1, p2⟩, ⟨ko, xs, o1, o2, _⟩, lo, wf, ne1, ne2⟩ := C
  obtain ⟨es, ep, _, od, _⟩ := o2
  obtain ⟨es', ep', _, od', _⟩ := a6
  refine ⟨ne_data N hc a5 ?_, ne_data N hc k1 ?_, ne_data N hc p1 ?_, ne_data N hc o1 ?_, ne_data N hc a7 ?_⟩
  · rw [hd, od']; intro e; cases e
  · rw [hd]; intro e; cases e
  · rw [hd]; intro e; cases e
  · rw [hd, od]; intro e; cases e
  · rw [hd]; intro e; cases e
end
/-- a store into a cell -/
theorem cell_set {M : Model} {A : Around} {E : Value → Shared → Prop} {s : Shared} {h₀ : Heap} {L a : Addr} {m : Str → Option Value} {cn : Str} {cs : Scope} {ccd : Value} {cl : List (Str × Addr)} {x : Str} {v : Value} {Q : Unit → Shared → Prop} {news : List (Addr × Obj)} {c : Addr} {v₀ : Option Value} {o : Obj}
    (F : Fr h₀ L s.heap m) (N : News h₀ L s.heap news) (hc : cl.lookup x = some c) (hm : (c, o) ∈ news) (hd : o.data = .cell v₀)
    (h : ∀ h' o', Fr h₀ L h' m → News h₀ L h' ((c, o') :: news.filter fun p => decide (p.1 ≠ c)) → o'.data = .cell (some v) → Q () { s with heap := h' })
    (hk : cs.kind = .function := by rfl) (hx : (envX cn cs L a ccd cl).kindOf x = some .cell := by rfl) : wpAny M A (storeName (envX cn cs L a ccd cl) x v) Q E s :=
  storeX_C F (N := fun p hp => by
      rcases List.mem_cons.mp hp with rfl | hp
      · exact N _ hm
      · exact N p (List.mem_filter.mp hp).1) hc (.head (r := news.filter fun p => decide (p.1 ≠ c)) fun p hp => of_decide_eq_true (List.mem_filter.mp hp).2) hd h hk hx
theorem law_next_LB {prog : Program} {w : World} {p : Program} {loose : List Str} {mean : ExcName → Option Value} {mg mb : Str → Option Value}
   (hpr : prog = PySem.Challenge.rw_nz0380_01.row.prog)
   {dp un : Nat} {gd : Option (List Code)} {cn : Str} {cs : Scope} {a : Addr} {ccd : Value} {cl : List (Str × Addr)} {outer : List Env} {A₀ : Around} {base h₀ : Heap} {L : Addr} {m : Str → Option Value} {s : Shared} {Q E : Value → Shared → Prop}
   {c3 c4 fd ca cx cd ck cp ckn : Nat} {t1 t2 t3 t4 : Tok} {ns : List Int} {gs : List Gate} {k wide : Int} {pre news : List (Addr × Obj)}
   (B : Below A₀ base outer h₀) (F : Fr h₀ L s.heap m) (X : (hd.heap_39 w.params).In h₀) (T : Top p loose mean mg mb h₀) (hk : cs.kind = .function) (LB₀ : LB prog w news c3 c4 fd ca cx cd ck cp ckn t1 t2 t3 ns gs k) (hoff : ∀ p ∈ pre, ∀ q ∈ news, q.1 ≠ p.1) (N : News h₀ L s.heap (pre ++ news)) (hk1 : k < 1000) (hw0 : 0 < wide) (hw1 : wide < 1000)
   (hdp : dp + 50 < recursionLimit) (hun : un + 400 < cLine)
   (ret : ∀ v t h' tk' news', Fr h₀ L h' m → News h₀ L h' (pre ++ news') → LB prog w news' c3 c4 fd ca cx cd ck cp ckn t1 t2 t3 ns gs (k + 1) → (∀ p ∈ news, p.1 ≠ fd → p ∈ news') → (∀ p ∈ pre, ∀ q ∈ news', q.1 ≠ p.1) →
     0 ≤ v → v < wide → Q (.int v t) { s with heap := h', toks := tk' }) :
   wpAny (model prog w) (ktrTop dp un gd cn cs L a ccd cl outer) (call (.ref 166) [.ref fd, .int wide t4]) Q E s := by
  obtain ⟨⟨o3, a1, a2⟩, ⟨o4, a3, a4⟩, ⟨of, t, a5, a6⟩, ⟨vs, n, a7, a8⟩, hn, hk0, C, n1, n2, n3, n4⟩ := LB₀
  have a6' := a6
  obtain ⟨es', ep', ex, od', _⟩ := a6
  have Nn : News h₀ L s.heap news := news_sub N fun p hp => List.mem_append_right _ hp
  have hcl : of.cls = .type "dict" := ex.1
  have e3 : c3 ≠ fd := ne_data Nn a1 a5 (by rw [a2, od']; intro e; cases e)
  have e4 : c4 ≠ fd := ne_data Nn a3 a5 (by rw [a4, od']; intro e; cases e)
  have ea : ca ≠ fd := ne_data Nn a7 a5 (by rw [od']; intro e; cases e)
  refine law_next_body hpr dp un gd cn cs a ccd cl outer A₀ base h₀ L m s Q E fd ca of vs ns n k wide t t4 (pre ++ news.filter fun p => decide (p.1 ≠ fd)) B F X
    (fun p hp => ?_) T hk (fun q hq => ?_) (List.mem_append_right _ (List.mem_filter.mpr ⟨a7, decide_eq_true ea⟩)) a6' a8 hn hk0 hk1 hw0 hw1 (by omega) (by omega)
    (fun v t t' o' h' tk' F' N' hd' h3 h4 => ret v t h' tk' ((fd, o') :: news.filter fun p => decide (p.1 ≠ fd)) F' (fun p hp => N' p ?_) ⟨⟨o3, put_mem a1 e3, a2⟩, ⟨o4, put_mem a3 e4, a4⟩, ⟨o', t', .head _, hd'⟩, ⟨vs, n, put_mem a7 ea, a8⟩, hn, by omega,
      (C.off Nn a5 ?_ (.inl ?_) (.inr ⟨n1, n2⟩) ?_).mono fun p hp => List.mem_cons_of_mem _ hp, n1, n2, n3, n4⟩ (fun p hp hne => put_mem hp hne) (fun p hp q hq => ?_) h3 h4)
  · rcases List.mem_cons.mp hp with rfl | hp
    · exact Nn _ a5
    · rcases List.mem_append.mp hp with hp | hp
      · exact N p (List.mem_append_left _ hp)
      · exact Nn p (List.mem_filter.mp hp).1
  · rcases List.mem_append.mp hq with hq | hq
    · exact Ne.symm (hoff q hq _ a5)
    · exact of_decide_eq_true (List.mem_filter.mp hq).2
  · rcases List.mem_append.mp hp with hp | hp
    · exact .tail _ (List.mem_append_left _ hp)
    · rcases List.mem_cons.mp hp with rfl | hp
      · exact .head _
      · exact .tail _ (List.mem_append_right _ hp)
  · rw [hcl]; decide
  · rw [hcl]; decide
  · intro d e; rw [e] at hcl; cases hcl
  · rcases List.mem_cons.mp hq with rfl | hq
    · exact hoff p hp (fd, of) a5
    · exact hoff p hp q (List.mem_filter.mp hq).1
theorem new_input_LB {prog : Program} {w : World} {p : Program} {loose : List Str} {mean : ExcName → Option Value} {mg mb : Str → Option Value}
   (hpr : prog = PySem.Challenge.rw_nz0380_01.row.prog)
   {dp un : Nat} {gd : Option (List Code)} {cn : Str} {cs : Scope} {a : Addr} {ccd : Value} {cl : List (Str × Addr)} {outer : List Env} {A₀ : Around} {base h₀ : Heap} {L : Addr} {m : Str → Option Value} {s : Shared} {Q E : Value → Shared → Prop}
   {c3 c4 fd ca cx cd ck cp ckn : Nat} {t1 t2 t3 : Tok} {ns : List Int} {gs : List Gate} {k : Int} {pre news : List (Addr × Obj)}
   (B : Below A₀ base outer h₀) (F : Fr h₀ L s.heap m) (X : (hd.heap_39 w.params).In h₀) (T : Top p loose mean mg mb h₀) (hk : cs.kind = .function) (LB₀ : LB prog w news c3 c4 fd ca cx cd ck cp ckn t1 t2 t3 ns gs k) (hoff : ∀ p ∈ pre, ∀ q ∈ news, q.1 ≠ p.1) (N : News h₀ L s.heap (pre ++ news)) (hz : gs.length ≤ 9000)
   (hdp : dp + 60 < recursionLimit) (hun : un + 500 < cLine)
   (ret : ∀ t news' h' tk', Fr h₀ L h' m → News h₀ L h' (pre ++ news') → LB prog w news' c3 c4 fd ca cx cd ck cp ckn t1 t2 t3 ns (gs ++ [.inp]) k → KeepC ck cp ckn news news' → (∀ p ∈ pre, ∀ q ∈ news', q.1 ≠ p.1) → Q (.int (gs.length : Int) t) { s with heap := h', toks := tk' }) :
   wpAny (model prog w) (ktrTop dp un gd cn cs L a ccd cl outer) (call (.ref 70) [.ref cx]) Q E s :=
  new_input_ok hpr B F X T hk N LB₀.C hoff hz hdp hun fun t news' h' tk' F' N' C' K' o' => ret t news' h' tk' F' N' (LB₀.turn (news_sub N fun p hp => List.mem_append_right _ hp) K' C') K' o'
theorem law_next_L0 {prog : Program} {w : World} {p : Program} {loose : List Str} {mean : ExcName → Option Value} {mg mb : Str → Option Value}
   (hpr : prog = PySem.Challenge.rw_nz0380_01.row.prog)
   {dp un : Nat} {gd : Option (List Code)} {cn : Str} {cs : Scope} {a : Addr} {ccd : Value} {cl : List (Str × Addr)} {outer : List Env} {A₀ : Around} {base h₀ : Heap} {L : Addr} {m : Str → Option Value} {s : Shared} {Q E : Value → Shared → Prop}
   {c3 c4 fd ca cx cd ck cp ckn : Nat} {t1 t2 t3 t4 : Tok} {ns : List Int} {gs : List Gate} {k wide : Int} {news : List (Addr × Obj)}
   (B : Below A₀ base outer h₀) (F : Fr h₀ L s.heap m) (X : (hd.heap_39 w.params).In h₀) (T : Top p loose mean mg mb h₀) (hk : cs.kind = .function) (N : News h₀ L s.heap news) (LB₀ : LB prog w news c3 c4 fd ca cx cd ck cp ckn t1 t2 t3 ns gs k) (hk1 : k < 1000) (hw0 : 0 < wide) (hw1 : wide < 1000)
   (hdp : dp + 50 < recursionLimit) (hun : un + 400 < cLine)
   (ret : ∀ v t h' tk' news', Fr h₀ L h' m → News h₀ L h' news' → LB prog w news' c3 c4 fd ca cx cd ck cp ckn t1 t2 t3 ns gs (k + 1) → (∀ p ∈ news, p.1 ≠ fd → p ∈ news') →
     0 ≤ v → v < wide → Q (.int v t) { s with heap := h', toks := tk' }) :
   wpAny (model prog w) (ktrTop dp un gd cn cs L a ccd cl outer) (call (.ref 166) [.ref fd, .int wide t4]) Q E s :=
  law_next_LB (pre := []) hpr B F X T hk LB₀ (fun p hp => nomatch hp) N hk1 hw0 hw1 hdp hun fun v t h' tk' news' F' N' B' K' _ v0 v1 => ret v t h' tk' news' F' N' B' K' v0 v1
theorem comp_off {I C D : Nat} {oI oC oD : Obj} {news : List (Addr × Obj)} (h : Off3 I C D news) : ∀ p ∈ [(I, oI), (C, oC), (D, oD)], ∀ q ∈ news, q.1 ≠ p.1 := by
  intro p hp q hq
  have := h.mem q hq
  simp only [List.mem_cons, List.not_mem_nil, or_false] at hp
  rcases hp with rfl | rfl | rfl
  · exact this.1
  · exact this.2.1
  · exact this.2.2
theorem off_comp {I C D : Nat} {oI oC oD : Obj} {news : List (Addr × Obj)} (h : ∀ p ∈ [(I, oI), (C, oC), (D, oD)], ∀ q ∈ news, q.1 ≠ p.1) : Off3 I C D news :=
  Off3.of fun q hq => ⟨h (I, oI) (by simp) q hq, h (C, oC) (by simp) q hq, h (D, oD) (by simp) q hq⟩
theorem off1_mem {D : Nat} : ∀ {l : List (Addr × Obj)}, Off1 D l → ∀ p ∈ l, p.1 ≠ D
  | [], _, _, h => nomatch h
  | _ :: _, x, p, h => by
    rcases List.mem_cons.mp h with rfl | h
    · exact x.1
    · exact off1_mem x.2 p h
theorem LB.new_ne {prog : Program} {w : World} {news : List (Addr × Obj)} {c3 c4 fd ca cx cd ck cp ckn D : Nat} {t1 t2 t3 : Tok} {ns : List Int} {gs : List Gate} {k : Int} (B : LB prog w news c3 c4 fd ca cx cd ck cp ckn t1 t2 t3 ns gs k) (h : ∀ p ∈ news, p.1 ≠ D) :
    D ≠ fd ∧ D ≠ ck ∧ D ≠ cp ∧ D ≠ ckn := by
  obtain ⟨_, _, ⟨of, t, a5, a6⟩, _, hn, hk, ⟨hx, hcd, ⟨kv, m1, k1, k2⟩, ⟨pv, m2, p1, p2⟩, ⟨ko, xs, o1, o2, _⟩, lo, wf, ne1, ne2⟩, n1, n2, n3, n4⟩ := B
  exact ⟨Ne.symm (h _ a5), Ne.symm (h _ k1), Ne.symm (h _ p1), Ne.symm (h _ o1)⟩

end Mine
end

section
open PySem PySem.W PyProof.Rows
namespace Mine
set_option maxRecDepth 100000
def lawBody : List Stmt := match PySem.Challenge.pw_nz0380_01.main.body.getLast? with
  | some (.FunctionDef (body := b) ..) => b
  | _ => []
def lawScope : Scope := match PySem.Challenge.pw_nz0380_01.main.body.getLast? with
  | some (.FunctionDef (scope := b) ..) => b
  | _ => { kind := .function, names := [], isGenerator := false, isCoroutine := false, more := [] }
def lawSt (i : Nat) : Stmt := lawBody.getD i (.Pass ⟨0,0,0,0⟩)
abbrev lawCells (c1 c2 c3 c4 : Nat) : List (Str × Addr) := [(Str.ofString "rows", c1), (Str.ofString "inputs", c2), (Str.ofString "circuit", c3), (Str.ofString "feed", c4)]
end Mine
end

section
open PySem PySem.W PyProof.Rows PySem.Calls
namespace Mine
set_option maxRecDepth 100000
set_option maxHeartbeats 8000000
open LCg LCt
section
local macro_rules | `(tactic| k_mem) => `(tactic| assumption)
theorem stage1 : ∀ {prog : Program} {w : World} {p : Program} {loose : List Str} {mean : ExcName → Option Value} {mg mb : Str → Option Value}
   (hpr : prog = PySem.Challenge.rw_nz0380_01.row.prog)
   {dp un : Nat} {gd : Option (List Code)} {a : Addr} {ccd : Value} {outer : List Env} {A₀ : Around} {base h₀ : Heap} {L : Addr} {m : Str → Option Value} {s : Shared} {Q : Flow → Shared → Prop} {E : Value → Shared → Prop}
   {c1 c2 c3 c4 fd ca cx cd ck cp ckn : Nat} {t1 t2 t3 : Tok} {ns : List Int} {gs : List Gate} {kf : Int} {news : List (Addr × Obj)} {o2 : Obj} {v2 : Option Value}
   (B : Below A₀ base outer h₀) (F : Fr h₀ L s.heap m) (X : (hd.heap_39 w.params).In h₀) (T : Top p loose mean mg mb h₀) (N : News h₀ L s.heap news) (LB₀ : LB prog w news c3 c4 fd ca cx cd ck cp ckn t1 t2 t3 ns gs kf) (hgs : gs = [.blank, .tru]) (h2 : (c2, o2) ∈ news) (d2 : o2.data = .cell v2) (h23 : c2 ≠ c3) (h24 : c2 ≠ c4) (hkf : kf ≤ 100)
   (hdp : dp + 100 < recursionLimit) (hun : un + 900 < cLine)
   (ret : ∀ n h' tk' news' o' (ia : Nat) vs cc, Fr h₀ L h' m → News h₀ L h' news' → LB prog w news' c3 c4 fd ca cx cd ck cp ckn t1 t2 t3 ns ([.blank, .tru] ++ List.replicate n .inp) (kf + 1) → 2 ≤ n → n ≤ 4 →
      (c2, o') ∈ news' → o'.data = .cell (some (.ref ia)) → (ia, PySem.W.listOf vs.toArray cc) ∈ news' → IntsAre vs ((List.range n).map fun i => ((i + 2 : Nat) : Int)) → (ia ≠ fd ∧ ia ≠ ck ∧ ia ≠ cp ∧ ia ≠ ckn) →
      (∀ p ∈ news, p.1 ≠ c2 → p.1 ≠ fd → p.1 ≠ ck → p.1 ≠ cp → p.1 ≠ ckn → p ∈ news') → Q .next { s with heap := h', toks := tk' }),
   wpAny (model prog w) (ktrTop dp un gd (Str.ofString "law") lawScope L a ccd (lawCells c1 c2 c3 c4) outer) (exec (lawSt 1) (envX (Str.ofString "law") lawScope L a ccd (lawCells c1 c2 c3 c4))) Q E s := by
  w_top off
  k_with_none
  k_with "CompSrc" => (k_here; refine stopI ?_)
  k_with "eval ListComp" => (k_here; k_dflt (refine LCg.ListComp_U (F₀ := by k_asm) (by with_unfolding_all rfl) (by decide) (by rfl) (by decide) (by rfl) ?_))
  k_with "storeName" => (k_here; k_dflt (refine' cell_set (by k_asm) (by k_asm) (by rfl) (by k_mem) (by assumption) ?_ (by rfl) (by rfl)); intro h9zq o9zq F9zq N9zq d9zq)
  k_with "call ref" => (k_here; (with_reducible show wpAny _ _ (call (Value.ref 166) _ _) _ _ _); k_dflt (refine' law_next_L0 (by assumption) (by k_asm) (by k_asm) (by k_asm) (by k_asm) (by exact rfl) (by k_asm) (by assumption) (by omega) (by omega) (by omega) (by ktr_room) (by ktr_units) ?_); intro v9zq t9zq h9zq tk9zq news9zq F9zq N9zq LB9zq K9zq v0zq v1zq)
  k_with "CompEnd" => (k_here; refine stopI ?_)
  k_with "call ref" => (k_here; (with_reducible show wpAny _ _ (call (Value.ref 70) _) _ _ _); k_dflt (refine' new_input_LB (by assumption) (by k_asm) (by k_asm) (by k_asm) (by k_asm) (by exact rfl) (by assumption) (by assumption) (by k_asm) (by assumption) (by ktr_room) (by ktr_units) ?_); intro t9zq news9zq h9zq tk9zq F9zq N9zq LB9zq K9zq off9zq)
  k_fill
  intro prog w p loose mean mg mb hp dp un gd a ccd outer A₀ base h₀ L m s Q E c1 c2 c3 c4 fd ca cx cd ck cp ckn t1 t2 t3 ns gs kf news o2 v2 B F X T N LB₀ hgs h2 d2 h23 h24 hkf hdp hun ret
  (generalize e2 : lawScope = sc9; conv at e2 => lhs; whnf); dsimp only at e2; subst e2
  generalize e1 : lawSt 1 = st9
  conv at e1 => lhs; whnf
  subst e1
  obtain ⟨⟨o3, m3, d3⟩, ⟨o4, m4, d4⟩, _⟩ := id LB₀
  k_steps
  unfold Stop
  (with_reducible rename IsRange _ _ _ _ _ _ _ _ => R1)
  (with_reducible rename Fr h₀ L _ _ => F1)
  (with_reducible rename News h₀ L _ _ => N1)
  (with_reducible rename LB _ _ _ _ _ _ _ _ _ _ _ _ _ _ _ _ _ _ => LB1)
  (with_reducible rename ∀ p ∈ news, p.1 ≠ fd → _ => K1)
  (with_reducible rename (0 : Int) ≤ _ => v0)
  (with_reducible rename _ < (3 : Int) => v1)
  obtain ⟨n, hn, en⟩ : ∃ n : Nat, n ≤ 2 ∧ _ = (n : Int) := ⟨_, by omega, (Int.toNat_of_nonneg v0).symm⟩
  rw [en] at R1
  rw [show (2 : Int) + (n : Int) = ((n + 2 : Nat) : Int) by omega] at R1
  refine CompSrc.range (n := n + 2) (by exact rfl) F1 N1 R1 (small_n (by omega)) (by rw [rangeSize_nat]; generalize n + 2 = q; simp) (by rw [sizeLine_eq]; omega) ?_
  intro g9
  refine rest_inv (fun i ys nw => LB prog w nw c3 c4 fd ca cx cd ck cp ckn t1 t2 t3 ns ([.blank, .tru] ++ List.replicate i .inp) (kf + 1) ∧ IntsAre ys ((List.range i).map fun i => ((i + 2 : Nat) : Int)) ∧ (∀ p ∈ news, p.1 ≠ fd → p.1 ≠ ck → p.1 ≠ cp → p.1 ≠ ckn → p ∈ nw)) ?_ ?_ ?_
  · refine ⟨?_, .nil, fun p hp h1 _ _ _ => K1 p hp h1⟩
    subst hgs
    exact LB1
  · rintro ys nw ⟨LBn, Hys, Hk⟩ D h tk F2 N2 o1
    dsimp only
    obtain ⟨q1, q2, q3, q4, q5⟩ := LB₀.cell_ne N h2 d2
    have m2 : (c2, o2) ∈ nw := Hk _ h2 q1 q2 q3 q4
    have m2' : (c2, o2) ∈ (D, lst ys) :: nw := .tail _ m2
    k_steps
    (with_reducible rename Fr h₀ L _ _ => F9)
    (with_reducible rename News h₀ L _ ((c2, _) :: _) => N9)
    (with_reducible rename Obj.data _ = Data.cell (some (Value.ref D)) => d9)
    refine ret (n + 2) _ _ _ _ D ys ys.length F9 N9 ((LBn.mono fun p hp => List.mem_cons_of_mem _ hp).off N2 m2' d2 h23 h24) (by omega) (by omega) (.head _) d9 (put_mem (.head _) ?_) Hys (LBn.new_ne (off1_mem o1)) (fun p hp a1 a2 a3 a4 a5 => put_mem (.tail _ (Hk p hp a2 a3 a4 a5)) a1)
    exact ne_data N2 (.head _) m2' (by rw [d2]; intro e; cases e)
  · rintro i ys news₁ v I oI C oC D m₂ h tk E' hi ⟨LBi, Hys, Hk⟩ hP hns hx F2 N2 off ne
    have LBi' := LBi
    obtain ⟨⟨o3', m3', d3'⟩, -, -, -, -, -, CI, -, -, -, -⟩ := LBi
    have m3'' : (c3, o3') ∈ (I, oI) :: (C, oC) :: (D, lst ys) :: news₁ := .tail _ (.tail _ (.tail _ m3'))
    have mx : (cx, instObj 129 cd) ∈ (I, oI) :: (C, oC) :: (D, lst ys) :: news₁ := .tail _ (.tail _ (.tail _ CI.hx))
    have md : (cd, cDict w ck cp ckn t1 t2 t3) ∈ (I, oI) :: (C, oC) :: (D, lst ys) :: news₁ := .tail _ (.tail _ (.tail _ CI.hd))
    have hoff := comp_off (oI := oI) (oC := oC) (oD := lst ys) off
    have hz : ([Gate.blank, Gate.tru] ++ List.replicate i Gate.inp).length ≤ 9000 := by simp; omega
    k_steps
    unfold Stop
    (with_reducible rename Fr h₀ L _ _ => F9)
    (with_reducible rename News h₀ L _ _ => N9)
    (with_reducible rename LB _ _ _ _ _ _ _ _ _ _ _ _ _ _ _ _ _ _ => LB9)
    (with_reducible rename KeepC _ _ _ _ _ => K9)
    (with_reducible rename ∀ p ∈ _, ∀ q ∈ _, _ => off9)
    refine CompEnd.intro F9 N9 _ (fun p hp => hp) (off_comp off9) trivial ⟨?_, ?_, fun p hp a1 a2 a3 a4 => K9 p (Hk p hp a1 a2 a3 a4) a2 a3 a4⟩
    · rw [List.replicate_succ', ← List.append_assoc]; exact LB9
    · rw [List.range_succ, List.map_append]
      refine ints_app Hys ?_
      rw [show ([Gate.blank, Gate.tru] ++ List.replicate i Gate.inp).length = i + 2 by simp]
      exact .cons _ _ .nil
end

end Mine
end

section
open PySem PySem.W PyProof.Rows PySem.Calls
namespace Mine
set_option maxRecDepth 100000
set_option maxHeartbeats 8000000
open LCg LCt
section
local macro_rules | `(tactic| k_mem) => `(tactic| assumption)
theorem stage2 : ∀ {prog : Program} {w : World} {p : Program} {loose : List Str} {mean : ExcName → Option Value} {mg mb : Str → Option Value}
   (hpr : prog = PySem.Challenge.rw_nz0380_01.row.prog)
   {dp un : Nat} {gd : Option (List Code)} {a : Addr} {ccd : Value} {outer : List Env} {A₀ : Around} {base h₀ : Heap} {L : Addr} {m : Str → Option Value} {s : Shared} {Q : Flow → Shared → Prop} {E : Value → Shared → Prop}
   {c1 c2 c3 c4 fd ca cx cd ck cp ckn : Nat} {t1 t2 t3 : Tok} {ns : List Int} {gs : List Gate} {kf : Int} {news : List (Addr × Obj)} {o1 o2 : Obj} {v1 : Option Value} {ia n cc : Nat} {vs : List Value}
   (B : Below A₀ base outer h₀) (F : Fr h₀ L s.heap m) (X : (hd.heap_39 w.params).In h₀) (T : Top p loose mean mg mb h₀) (N : News h₀ L s.heap news) (LB₀ : LB prog w news c3 c4 fd ca cx cd ck cp ckn t1 t2 t3 ns gs kf) (h1 : (c1, o1) ∈ news) (d1 : o1.data = .cell v1) (h13 : c1 ≠ c3) (h14 : c1 ≠ c4)
   (h2 : (c2, o2) ∈ news) (d2 : o2.data = .cell (some (.ref ia))) (hia : (ia, PySem.W.listOf vs.toArray cc) ∈ news) (hvs : vs.length = n) (hn : n ≤ 4)
   (hdp : dp + 100 < recursionLimit) (hun : un + 900 < cLine)
   (ret : ∀ t h' tk' news' o', Fr h₀ L h' m → News h₀ L h' news' → LB prog w news' c3 c4 fd ca cx cd ck cp ckn t1 t2 t3 ns gs kf →
      (c1, o') ∈ news' → o'.data = .cell (some (.int ((2 ^ n : Nat) : Int) t)) →
      (∀ p ∈ news, p.1 ≠ c1 → p ∈ news') → Q .next { s with heap := h', toks := tk' }),
   wpAny (model prog w) (ktrTop dp un gd (Str.ofString "law") lawScope L a ccd (lawCells c1 c2 c3 c4) outer) (exec (lawSt 2) (envX (Str.ofString "law") lawScope L a ccd (lawCells c1 c2 c3 c4))) Q E s := by
  w_top off
  k_with_none
  k_with "storeName" => (k_here; k_dflt (refine' cell_set (by k_asm) (by k_asm) (by rfl) (by k_mem) (by assumption) ?_ (by rfl) (by rfl)); intro h9zq o9zq F9zq N9zq d9zq)
  k_with "call builtin:len" => (k_here; k_dflt (refine' len_news (by assumption) (by k_asm) (by k_mem) (by omega) ?_))
  k_with "call ref" => (k_here; (with_reducible show wpAny _ _ (call (Value.ref 166) _ _) _ _ _); k_dflt (refine' law_next_L0 (by assumption) (by k_asm) (by k_asm) (by k_asm) (by k_asm) (by exact rfl) (by k_asm) (by assumption) (by omega) (by omega) (by omega) (by ktr_room) (by ktr_units) ?_); intro v9zq t9zq h9zq tk9zq news9zq F9zq N9zq LB9zq K9zq v0zq v1zq)
  k_fill
  intro prog w p loose mean mg mb hp dp un gd a ccd outer A₀ base h₀ L m s Q E c1 c2 c3 c4 fd ca cx cd ck cp ckn t1 t2 t3 ns gs kf news o1 o2 v1 ia n cc vs B F X T N LB₀ h1 d1 h13 h14 h2 d2 hia hvs hn hdp hun ret
  (generalize e2 : lawScope = sc9; conv at e2 => lhs; whnf); dsimp only at e2; subst e2
  generalize e1 : lawSt 2 = st9
  conv at e1 => lhs; whnf
  subst e1
  k_steps
  (with_reducible rename Fr h₀ L _ _ => F9)
  (with_reducible rename News h₀ L _ ((c1, _) :: _) => N9)
  (with_reducible rename Obj.data _ = Data.cell (some (Value.int _ _)) => d9)
  rw [show (2 : Int) ^ ((n : Int).toNat) = ((2 ^ n : Nat) : Int) by simp] at d9
  exact ret _ _ _ _ _ F9 N9 (LB₀.off N h1 d1 h13 h14) (.head _) d9 fun p hp hne => put_mem hp hne
theorem stage3 : ∀ {prog : Program} {w : World} {p : Program} {loose : List Str} {mean : ExcName → Option Value} {mg mb : Str → Option Value}
   (hpr : prog = PySem.Challenge.rw_nz0380_01.row.prog)
   {dp un : Nat} {gd : Option (List Code)} {a : Addr} {ccd : Value} {outer : List Env} {A₀ : Around} {base h₀ : Heap} {L : Addr} {m : Str → Option Value} {s : Shared} {Q : Flow → Shared → Prop} {E : Value → Shared → Prop}
   {c1 c2 c3 c4 fd ca cx cd ck cp ckn : Nat} {t1 t2 t3 : Tok} {ns : List Int} {gs : List Gate} {kf : Int} {news : List (Addr × Obj)} {o1 : Obj} {R : Nat} {tR : Tok}
   (B : Below A₀ base outer h₀) (F : Fr h₀ L s.heap m) (X : (hd.heap_39 w.params).In h₀) (T : Top p loose mean mg mb h₀) (N : News h₀ L s.heap news) (LB₀ : LB prog w news c3 c4 fd ca cx cd ck cp ckn t1 t2 t3 ns gs kf) (h1 : (c1, o1) ∈ news) (d1 : o1.data = .cell (some (.int (R : Int) tR))) (hR : R ≤ 16) (hkf : kf ≤ 100)
   (hdp : dp + 100 < recursionLimit) (hun : un + 900 < cLine)
   (ret : ∀ l tf tl h' tk' news', Fr h₀ L h' (fun y => if y = Str.ofString "full" then some (.int (((2 ^ R : Nat) : Int) - 1) tf) else if y = Str.ofString "links" then some (.int ((l + 8 : Nat) : Int) tl) else m y) →
      News h₀ L h' news' → LB prog w news' c3 c4 fd ca cx cd ck cp ckn t1 t2 t3 ns gs (kf + 1) → l < 40 →
      (∀ p ∈ news, p.1 ≠ fd → p ∈ news') → Q .next { s with heap := h', toks := tk' }),
   wpAny (model prog w) (ktrTop dp un gd (Str.ofString "law") lawScope L a ccd (lawCells c1 c2 c3 c4) outer) (exec (lawSt 3) (envX (Str.ofString "law") lawScope L a ccd (lawCells c1 c2 c3 c4))) Q E s := by
  w_top off
  k_with_none
  k_with "storeName" => (k_here; k_dflt (refine' cell_set (by k_asm) (by k_asm) (by rfl) (by k_mem) (by assumption) ?_ (by rfl) (by rfl)); intro h9zq o9zq F9zq N9zq d9zq)
  k_with "call builtin:len" => (k_here; k_dflt (refine' len_news (by assumption) (by k_asm) (by k_mem) (by omega) ?_))
  k_with "call ref" => (k_here; (with_reducible show wpAny _ _ (call (Value.ref 166) _ _) _ _ _); k_dflt (refine' law_next_L0 (by assumption) (by k_asm) (by k_asm) (by k_asm) (by k_asm) (by exact rfl) (by k_asm) (by assumption) (by omega) (by omega) (by omega) (by ktr_room) (by ktr_units) ?_); intro v9zq t9zq h9zq tk9zq news9zq F9zq N9zq LB9zq K9zq v0zq v1zq)
  k_fill
  intro prog w p loose mean mg mb hp dp un gd a ccd outer A₀ base h₀ L m s Q E c1 c2 c3 c4 fd ca cx cd ck cp ckn t1 t2 t3 ns gs kf news o1 R tR B F X T N LB₀ h1 d1 hR hkf hdp hun ret
  (generalize e2 : lawScope = sc9; conv at e2 => lhs; whnf); dsimp only at e2; subst e2
  generalize e1 : lawSt 3 = st9
  conv at e1 => lhs; whnf
  subst e1
  obtain ⟨o4, m4, d4⟩ := LB₀.h4
  k_steps
  (with_reducible rename Fr h₀ L _ _ => F9)
  (with_reducible rename News h₀ L _ (_ :: _) => N9)
  (with_reducible rename LB _ _ _ _ _ _ _ _ _ _ _ _ _ _ _ _ _ _ => LB9)
  (with_reducible rename ∀ p ∈ news, p.1 ≠ fd → _ => K9)
  (with_reducible rename (0 : Int) ≤ _ => v0)
  (with_reducible rename _ < (40 : Int) => v1)
  obtain ⟨l, en⟩ : ∃ l : Nat, _ = (l : Int) := ⟨_, (Int.toNat_of_nonneg v0).symm⟩
  rw [show (2 : Int) ^ ((R : Int).toNat) = ((2 ^ R : Nat) : Int) by simp, en, show (8 : Int) + (l : Int) = ((l + 8 : Nat) : Int) by omega] at F9
  exact ret l _ _ _ _ _ F9 N9 (LB9.mono fun p hp => .tail _ hp) (by omega) fun p hp hne => .tail _ (K9 p hp hne)
end

end Mine
end

section
open PySem PySem.W PyProof.Rows PySem.Calls
namespace Mine
set_option maxRecDepth 100000
set_option maxHeartbeats 8000000
open LCg LCt
def DrawJ (prog : Program) (w : World) (news : List (Addr × Obj)) (c3 c4 fd ca cx cd ck cp ckn : Nat) (t1 t2 t3 : Tok) (ns : List Int) (gs : List Gate) (kf : Int) (W i : Nat) (ys : List Value) (nw : List (Addr × Obj)) : Prop :=
  LB prog w nw c3 c4 fd ca cx cd ck cp ckn t1 t2 t3 ns gs (kf + (i : Int)) ∧ (∀ p ∈ news, p.1 ≠ fd → p ∈ nw) ∧ ∃ l : List Nat, IntsAre ys (l.map fun x : Nat => (x : Int)) ∧ l.length = i ∧ ∀ x ∈ l, x < W
section
local macro_rules | `(tactic| k_mem) => `(tactic| assumption)
theorem stage5 : ∀ {prog : Program} {w : World} {p : Program} {loose : List Str} {mean : ExcName → Option Value} {mg mb : Str → Option Value}
   (hpr : prog = PySem.Challenge.rw_nz0380_01.row.prog)
   {dp un : Nat} {gd : Option (List Code)} {a : Addr} {ccd : Value} {outer : List Env} {A₀ : Around} {base h₀ : Heap} {L : Addr} {m : Str → Option Value} {s : Shared} {Q : Flow → Shared → Prop} {E : Value → Shared → Prop}
   {c1 c2 c3 c4 fd ca cx cd ck cp ckn : Nat} {t1 t2 t3 : Tok} {ns : List Int} {gs : List Gate} {kf : Int} {news : List (Addr × Obj)}
   (B : Below A₀ base outer h₀) (F : Fr h₀ L s.heap m) (X : (hd.heap_39 w.params).In h₀) (T : Top p loose mean mg mb h₀) (N : News h₀ L s.heap news) (LB₀ : LB prog w news c3 c4 fd ca cx cd ck cp ckn t1 t2 t3 ns gs kf) (hkf : kf ≤ 100)
   (hdp : dp + 100 < recursionLimit) (hun : un + 900 < cLine)
   (ret : ∀ (l : List Nat) (D : Nat) ys h' tk' news', Fr h₀ L h' (fun z => if z = Str.ofString "ways" then some (.ref D) else m z) → News h₀ L h' news' → LB prog w news' c3 c4 fd ca cx cd ck cp ckn t1 t2 t3 ns gs (kf + 6) →
      (D, PySem.W.listOf ys.toArray ys.length) ∈ news' → IntsAre ys (l.map fun x : Nat => (x : Int)) → l.length = 6 → (∀ x ∈ l, x < 5) → (D ≠ fd ∧ D ≠ ck ∧ D ≠ cp ∧ D ≠ ckn) →
      (∀ p ∈ news, p.1 ≠ fd → p ∈ news') → Q .next { s with heap := h', toks := tk' }),
   wpAny (model prog w) (ktrTop dp un gd (Str.ofString "law") lawScope L a ccd (lawCells c1 c2 c3 c4) outer) (exec (lawSt 5) (envX (Str.ofString "law") lawScope L a ccd (lawCells c1 c2 c3 c4))) Q E s := by
  w_top off
  k_with_none
  k_with "CompSrc" => (k_here; refine stopI ?_)
  k_with "CompEnd" => (k_here; refine stopI ?_)
  k_with "exec Assign cons ListComp" => (k_here; k_dflt (refine LCg.Assign_ListComp_U (F₀ := by k_asm) (by rfl) (by with_unfolding_all rfl) (by with_unfolding_all rfl) (by decide) (by rfl) (by decide) (by rfl) (by rfl) (by rfl) ?_))
  k_with "call builtin:len" => (k_here; k_dflt (refine' len_news (by assumption) (by k_asm) (by k_mem) (by omega) ?_))
  k_with "call ref" => (k_here; (with_reducible show wpAny _ _ (call (Value.ref 166) _ _) _ _ _); k_dflt (refine' law_next_LB (by assumption) (by k_asm) (by k_asm) (by k_asm) (by k_asm) (by exact rfl) (by assumption) (by assumption) (by k_asm) (by omega) (by omega) (by omega) (by ktr_room) (by ktr_units) ?_); intro v9zq t9zq h9zq tk9zq news9zq F9zq N9zq LB9zq K9zq off9zq v0zq v1zq)
  k_fill
  intro prog w p loose mean mg mb hp dp un gd a ccd outer A₀ base h₀ L m s Q E c1 c2 c3 c4 fd ca cx cd ck cp ckn t1 t2 t3 ns gs kf news B F X T N LB₀ hkf hdp hun ret
  (generalize e2 : lawScope = sc9; conv at e2 => lhs; whnf); dsimp only at e2; subst e2
  generalize e1 : lawSt 5 = st9
  conv at e1 => lhs; whnf
  subst e1
  k_steps
  unfold Stop
  (with_reducible rename IsRange _ _ _ _ _ _ _ _ => R1)
  (with_reducible rename Fr h₀ L _ _ => F1)
  (with_reducible rename News h₀ L _ _ => N1)
  refine CompSrc.range (n := 6) (by exact rfl) F1 N1 R1 (small_n (n := 6) (by omega)) (by rfl) (by rw [sizeLine_eq]; omega) ?_
  intro g9
  refine rest_inv (DrawJ prog w news c3 c4 fd ca cx cd ck cp ckn t1 t2 t3 ns gs kf (5)) ?_ ?_ ?_
  · exact ⟨by simpa using LB₀, fun p hp _ => hp, [], .nil, rfl, fun x hx => nomatch hx⟩
  · rintro ys nw ⟨LBn, Hk, l, Hys, Hl, Hw⟩ D h tk F2 N2 o1
    exact ret l D ys _ _ _ F2 N2 (LBn.mono fun p hp => .tail _ hp) (.head _) Hys Hl Hw (LBn.new_ne (off1_mem o1)) fun p hp hne => .tail _ (Hk p hp hne)
  · rintro i ys news₁ v I oI C oC D m₂ h tk E' hi ⟨LBi, Hk, l, Hys, Hl, Hw⟩ hP hns hx F2 N2 off ne
    have LBi' := LBi
    obtain ⟨-, ⟨o4', m4', d4'⟩, -, -, -, -, -, -, -, -, -⟩ := LBi
    have m4'' : (c4, o4') ∈ (I, oI) :: (C, oC) :: (D, lst ys) :: news₁ := .tail _ (.tail _ (.tail _ m4'))
    have hoff := comp_off (oI := oI) (oC := oC) (oD := lst ys) off
    k_steps
    unfold Stop
    (with_reducible rename Fr h₀ L _ _ => F9)
    (with_reducible rename News h₀ L _ _ => N9)
    (with_reducible rename LB _ _ _ _ _ _ _ _ _ _ _ _ _ _ _ _ _ _ => LB9)
    (with_reducible rename ∀ p ∈ news₁, p.1 ≠ fd → _ => K9)
    (with_reducible rename ∀ p ∈ _, ∀ q ∈ _, _ => off9)
    (with_reducible rename (0 : Int) ≤ _ => v0)
    (with_reducible rename (_ : Int) < _ => v1)
    obtain ⟨x, en⟩ : ∃ x : Nat, _ = (x : Int) := ⟨_, (Int.toNat_of_nonneg v0).symm⟩
    refine CompEnd.intro F9 N9 _ (fun p hp => hp) (off_comp off9) trivial ⟨?_, fun p hp a1 => K9 p (Hk p hp a1) a1, l ++ [x], ?_, by simp [Hl], fun y hy => ?_⟩
    · rw [show kf + ((i + 1 : Nat) : Int) = kf + (i : Int) + 1 by omega]; exact LB9
    · rw [List.map_append]
      refine ints_app Hys ?_
      rw [en]
      exact .cons _ _ .nil
    · rcases List.mem_append.mp hy with hy | hy
      · exact Hw y hy
      · rw [List.mem_singleton.mp hy]; omega
theorem stage6 : ∀ {prog : Program} {w : World} {p : Program} {loose : List Str} {mean : ExcName → Option Value} {mg mb : Str → Option Value}
   (hpr : prog = PySem.Challenge.rw_nz0380_01.row.prog)
   {dp un : Nat} {gd : Option (List Code)} {a : Addr} {ccd : Value} {outer : List Env} {A₀ : Around} {base h₀ : Heap} {L : Addr} {m : Str → Option Value} {s : Shared} {Q : Flow → Shared → Prop} {E : Value → Shared → Prop}
   {c1 c2 c3 c4 fd ca cx cd ck cp ckn : Nat} {t1 t2 t3 : Tok} {ns : List Int} {gs : List Gate} {kf : Int} {news : List (Addr × Obj)} {o2 : Obj} {ia n cc : Nat} {vs : List Value}
   (B : Below A₀ base outer h₀) (F : Fr h₀ L s.heap m) (X : (hd.heap_39 w.params).In h₀) (T : Top p loose mean mg mb h₀) (N : News h₀ L s.heap news) (LB₀ : LB prog w news c3 c4 fd ca cx cd ck cp ckn t1 t2 t3 ns gs kf) (h2 : (c2, o2) ∈ news) (d2 : o2.data = .cell (some (.ref ia))) (hia : (ia, PySem.W.listOf vs.toArray cc) ∈ news) (hvs : vs.length = n) (hn0 : 2 ≤ n) (hn : n ≤ 4) (hf2 : c2 ≠ fd) (hfi : ia ≠ fd) (hkf : kf ≤ 100)
   (hdp : dp + 100 < recursionLimit) (hun : un + 900 < cLine)
   (ret : ∀ (l : List Nat) (D : Nat) ys h' tk' news', Fr h₀ L h' (fun z => if z = Str.ofString "picks" then some (.ref D) else m z) → News h₀ L h' news' → LB prog w news' c3 c4 fd ca cx cd ck cp ckn t1 t2 t3 ns gs (kf + 6) →
      (D, PySem.W.listOf ys.toArray ys.length) ∈ news' → IntsAre ys (l.map fun x : Nat => (x : Int)) → l.length = 6 → (∀ x ∈ l, x < n) → (D ≠ fd ∧ D ≠ ck ∧ D ≠ cp ∧ D ≠ ckn) →
      (∀ p ∈ news, p.1 ≠ fd → p ∈ news') → Q .next { s with heap := h', toks := tk' }),
   wpAny (model prog w) (ktrTop dp un gd (Str.ofString "law") lawScope L a ccd (lawCells c1 c2 c3 c4) outer) (exec (lawSt 6) (envX (Str.ofString "law") lawScope L a ccd (lawCells c1 c2 c3 c4))) Q E s := by
  w_top off
  k_with_none
  k_with "CompSrc" => (k_here; refine stopI ?_)
  k_with "CompEnd" => (k_here; refine stopI ?_)
  k_with "exec Assign cons ListComp" => (k_here; k_dflt (refine LCg.Assign_ListComp_U (F₀ := by k_asm) (by rfl) (by with_unfolding_all rfl) (by with_unfolding_all rfl) (by decide) (by rfl) (by decide) (by rfl) (by rfl) (by rfl) ?_))
  k_with "call builtin:len" => (k_here; k_dflt (refine' len_news (by assumption) (by k_asm) (by k_mem) (by omega) ?_))
  k_with "call ref" => (k_here; (with_reducible show wpAny _ _ (call (Value.ref 166) _ _) _ _ _); k_dflt (refine' law_next_LB (by assumption) (by k_asm) (by k_asm) (by k_asm) (by k_asm) (by exact rfl) (by assumption) (by assumption) (by k_asm) (by omega) (by omega) (by omega) (by ktr_room) (by ktr_units) ?_); intro v9zq t9zq h9zq tk9zq news9zq F9zq N9zq LB9zq K9zq off9zq v0zq v1zq)
  k_fill
  intro prog w p loose mean mg mb hp dp un gd a ccd outer A₀ base h₀ L m s Q E c1 c2 c3 c4 fd ca cx cd ck cp ckn t1 t2 t3 ns gs kf news o2 ia n cc vs B F X T N LB₀ h2 d2 hia hvs hn0 hn hf2 hfi hkf hdp hun ret
  (generalize e2 : lawScope = sc9; conv at e2 => lhs; whnf); dsimp only at e2; subst e2
  generalize e1 : lawSt 6 = st9
  conv at e1 => lhs; whnf
  subst e1
  k_steps
  unfold Stop
  (with_reducible rename IsRange _ _ _ _ _ _ _ _ => R1)
  (with_reducible rename Fr h₀ L _ _ => F1)
  (with_reducible rename News h₀ L _ _ => N1)
  refine CompSrc.range (n := 6) (by exact rfl) F1 N1 R1 (small_n (n := 6) (by omega)) (by rfl) (by rw [sizeLine_eq]; omega) ?_
  intro g9
  refine rest_inv (DrawJ prog w news c3 c4 fd ca cx cd ck cp ckn t1 t2 t3 ns gs kf (n)) ?_ ?_ ?_
  · exact ⟨by simpa using LB₀, fun p hp _ => hp, [], .nil, rfl, fun x hx => nomatch hx⟩
  · rintro ys nw ⟨LBn, Hk, l, Hys, Hl, Hw⟩ D h tk F2 N2 o1
    exact ret l D ys _ _ _ F2 N2 (LBn.mono fun p hp => .tail _ hp) (.head _) Hys Hl Hw (LBn.new_ne (off1_mem o1)) fun p hp hne => .tail _ (Hk p hp hne)
  · rintro i ys news₁ v I oI C oC D m₂ h tk E' hi ⟨LBi, Hk, l, Hys, Hl, Hw⟩ hP hns hx F2 N2 off ne
    have LBi' := LBi
    obtain ⟨-, ⟨o4', m4', d4'⟩, -, -, -, -, -, -, -, -, -⟩ := LBi
    have m4'' : (c4, o4') ∈ (I, oI) :: (C, oC) :: (D, lst ys) :: news₁ := .tail _ (.tail _ (.tail _ m4'))
    have hoff := comp_off (oI := oI) (oC := oC) (oD := lst ys) off
    have m2 : (c2, o2) ∈ (I, oI) :: (C, oC) :: (D, lst ys) :: news₁ := .tail _ (.tail _ (.tail _ (Hk _ h2 hf2)))
    have mi : (ia, PySem.W.listOf vs.toArray cc) ∈ (I, oI) :: (C, oC) :: (D, lst ys) :: news₁ := .tail _ (.tail _ (.tail _ (Hk _ hia hfi)))
    k_steps
    unfold Stop
    (with_reducible rename Fr h₀ L _ _ => F9)
    (with_reducible rename News h₀ L _ _ => N9)
    (with_reducible rename LB _ _ _ _ _ _ _ _ _ _ _ _ _ _ _ _ _ _ => LB9)
    (with_reducible rename ∀ p ∈ news₁, p.1 ≠ fd → _ => K9)
    (with_reducible rename ∀ p ∈ _, ∀ q ∈ _, _ => off9)
    (with_reducible rename (0 : Int) ≤ _ => v0)
    (with_reducible rename (_ : Int) < _ => v1)
    obtain ⟨x, en⟩ : ∃ x : Nat, _ = (x : Int) := ⟨_, (Int.toNat_of_nonneg v0).symm⟩
    refine CompEnd.intro F9 N9 _ (fun p hp => hp) (off_comp off9) trivial ⟨?_, fun p hp a1 => K9 p (Hk p hp a1) a1, l ++ [x], ?_, by simp [Hl], fun y hy => ?_⟩
    · rw [show kf + ((i + 1 : Nat) : Int) = kf + (i : Int) + 1 by omega]; exact LB9
    · rw [List.map_append]
      refine ints_app Hys ?_
      rw [en]
      exact .cons _ _ .nil
    · rcases List.mem_append.mp hy with hy | hy
      · exact Hw y hy
      · rw [List.mem_singleton.mp hy]; omega
theorem stage7 : ∀ {prog : Program} {w : World} {p : Program} {loose : List Str} {mean : ExcName → Option Value} {mg mb : Str → Option Value}
   (hpr : prog = PySem.Challenge.rw_nz0380_01.row.prog)
   {dp un : Nat} {gd : Option (List Code)} {a : Addr} {ccd : Value} {outer : List Env} {A₀ : Around} {base h₀ : Heap} {L : Addr} {m : Str → Option Value} {s : Shared} {Q : Flow → Shared → Prop} {E : Value → Shared → Prop}
   {c1 c2 c3 c4 fd ca cx cd ck cp ckn : Nat} {t1 t2 t3 : Tok} {ns : List Int} {gs : List Gate} {kf : Int} {news : List (Addr × Obj)}
   (B : Below A₀ base outer h₀) (F : Fr h₀ L s.heap m) (X : (hd.heap_39 w.params).In h₀) (T : Top p loose mean mg mb h₀) (N : News h₀ L s.heap news) (LB₀ : LB prog w news c3 c4 fd ca cx cd ck cp ckn t1 t2 t3 ns gs kf) (hkf : kf ≤ 100)
   (hdp : dp + 100 < recursionLimit) (hun : un + 900 < cLine)
   (ret : ∀ (l : List Nat) (D : Nat) ys h' tk' news', Fr h₀ L h' (fun z => if z = Str.ofString "signs" then some (.ref D) else m z) → News h₀ L h' news' → LB prog w news' c3 c4 fd ca cx cd ck cp ckn t1 t2 t3 ns gs (kf + 6) →
      (D, PySem.W.listOf ys.toArray ys.length) ∈ news' → IntsAre ys (l.map fun x : Nat => (x : Int)) → l.length = 6 → (∀ x ∈ l, x < 2) → (D ≠ fd ∧ D ≠ ck ∧ D ≠ cp ∧ D ≠ ckn) →
      (∀ p ∈ news, p.1 ≠ fd → p ∈ news') → Q .next { s with heap := h', toks := tk' }),
   wpAny (model prog w) (ktrTop dp un gd (Str.ofString "law") lawScope L a ccd (lawCells c1 c2 c3 c4) outer) (exec (lawSt 7) (envX (Str.ofString "law") lawScope L a ccd (lawCells c1 c2 c3 c4))) Q E s := by
  w_top off
  k_with_none
  k_with "CompSrc" => (k_here; refine stopI ?_)
  k_with "CompEnd" => (k_here; refine stopI ?_)
  k_with "exec Assign cons ListComp" => (k_here; k_dflt (refine LCg.Assign_ListComp_U (F₀ := by k_asm) (by rfl) (by with_unfolding_all rfl) (by with_unfolding_all rfl) (by decide) (by rfl) (by decide) (by rfl) (by rfl) (by rfl) ?_))
  k_with "call builtin:len" => (k_here; k_dflt (refine' len_news (by assumption) (by k_asm) (by k_mem) (by omega) ?_))
  k_with "call ref" => (k_here; (with_reducible show wpAny _ _ (call (Value.ref 166) _ _) _ _ _); k_dflt (refine' law_next_LB (by assumption) (by k_asm) (by k_asm) (by k_asm) (by k_asm) (by exact rfl) (by assumption) (by assumption) (by k_asm) (by omega) (by omega) (by omega) (by ktr_room) (by ktr_units) ?_); intro v9zq t9zq h9zq tk9zq news9zq F9zq N9zq LB9zq K9zq off9zq v0zq v1zq)
  k_fill
  intro prog w p loose mean mg mb hp dp un gd a ccd outer A₀ base h₀ L m s Q E c1 c2 c3 c4 fd ca cx cd ck cp ckn t1 t2 t3 ns gs kf news B F X T N LB₀ hkf hdp hun ret
  (generalize e2 : lawScope = sc9; conv at e2 => lhs; whnf); dsimp only at e2; subst e2
  generalize e1 : lawSt 7 = st9
  conv at e1 => lhs; whnf
  subst e1
  k_steps
  unfold Stop
  (with_reducible rename IsRange _ _ _ _ _ _ _ _ => R1)
  (with_reducible rename Fr h₀ L _ _ => F1)
  (with_reducible rename News h₀ L _ _ => N1)
  refine CompSrc.range (n := 6) (by exact rfl) F1 N1 R1 (small_n (n := 6) (by omega)) (by rfl) (by rw [sizeLine_eq]; omega) ?_
  intro g9
  refine rest_inv (DrawJ prog w news c3 c4 fd ca cx cd ck cp ckn t1 t2 t3 ns gs kf (2)) ?_ ?_ ?_
  · exact ⟨by simpa using LB₀, fun p hp _ => hp, [], .nil, rfl, fun x hx => nomatch hx⟩
  · rintro ys nw ⟨LBn, Hk, l, Hys, Hl, Hw⟩ D h tk F2 N2 o1
    exact ret l D ys _ _ _ F2 N2 (LBn.mono fun p hp => .tail _ hp) (.head _) Hys Hl Hw (LBn.new_ne (off1_mem o1)) fun p hp hne => .tail _ (Hk p hp hne)
  · rintro i ys news₁ v I oI C oC D m₂ h tk E' hi ⟨LBi, Hk, l, Hys, Hl, Hw⟩ hP hns hx F2 N2 off ne
    have LBi' := LBi
    obtain ⟨-, ⟨o4', m4', d4'⟩, -, -, -, -, -, -, -, -, -⟩ := LBi
    have m4'' : (c4, o4') ∈ (I, oI) :: (C, oC) :: (D, lst ys) :: news₁ := .tail _ (.tail _ (.tail _ m4'))
    have hoff := comp_off (oI := oI) (oC := oC) (oD := lst ys) off
    k_steps
    unfold Stop
    (with_reducible rename Fr h₀ L _ _ => F9)
    (with_reducible rename News h₀ L _ _ => N9)
    (with_reducible rename LB _ _ _ _ _ _ _ _ _ _ _ _ _ _ _ _ _ _ => LB9)
    (with_reducible rename ∀ p ∈ news₁, p.1 ≠ fd → _ => K9)
    (with_reducible rename ∀ p ∈ _, ∀ q ∈ _, _ => off9)
    (with_reducible rename (0 : Int) ≤ _ => v0)
    (with_reducible rename (_ : Int) < _ => v1)
    obtain ⟨x, en⟩ : ∃ x : Nat, _ = (x : Int) := ⟨_, (Int.toNat_of_nonneg v0).symm⟩
    refine CompEnd.intro F9 N9 _ (fun p hp => hp) (off_comp off9) trivial ⟨?_, fun p hp a1 => K9 p (Hk p hp a1) a1, l ++ [x], ?_, by simp [Hl], fun y hy => ?_⟩
    · rw [show kf + ((i + 1 : Nat) : Int) = kf + (i : Int) + 1 by omega]; exact LB9
    · rw [List.map_append]
      refine ints_app Hys ?_
      rw [en]
      exact .cons _ _ .nil
    · rcases List.mem_append.mp hy with hy | hy
      · exact Hw y hy
      · rw [List.mem_singleton.mp hy]; omega
end

end Mine
end

section
open PySem PyProof.Rows
namespace Mine
theorem tab_sum (i : Nat) : ∀ R, ∃ T : Nat, (((List.range R).filter fun r => r.testBit i).map fun r => ((2 ^ r : Nat) : Int)).sum = (T : Int) ∧ T < 2 ^ R ∧ ∀ r, T.testBit r = (decide (r < R) && r.testBit i)
  | 0 => ⟨0, rfl, by decide, fun r => by simp⟩
  | R + 1 => by
    obtain ⟨T, h1, h2, h3⟩ := tab_sum i R
    rw [List.range_succ, List.filter_append, List.map_append, List.sum_append, h1]
    cases hb : R.testBit i with
    | false =>
      refine ⟨T, by simp [hb], by rw [Nat.pow_succ]; omega, fun r => ?_⟩
      rw [h3]
      by_cases e : r = R
      · subst e; simp [hb]
      · have : (r < R + 1) ↔ (r < R) := by omega
        simp [this]
    | true =>
      refine ⟨2 ^ R + T, by simp [hb]; omega, by rw [Nat.pow_succ]; omega, fun r => ?_⟩
      have e := Nat.two_pow_add_eq_or_of_lt (a := 1) h2
      rw [Nat.mul_one] at e
      rw [e, Nat.testBit_or, Nat.testBit_two_pow, h3]
      by_cases e : r = R
      · subst e; simp [hb]
      · have e' : ¬ R = r := fun q => e q.symm
        have : (r < R + 1) ↔ (r < R) := by omega
        simp [this, e']
theorem tab_of_nat {R T : Nat} (h : T < 2 ^ R) : Tab R (T : Int) := ⟨by omega, by omega⟩
end Mine
end

section
open PySem PySem.W PyProof.Rows PySem.Calls
namespace Mine
set_option maxRecDepth 100000
set_option maxHeartbeats 8000000
open LCg LCt
section
local macro_rules | `(tactic| k_mem) => `(tactic| assumption)
theorem stage4 : ∀ {prog : Program} {w : World} {p : Program} {loose : List Str} {mean : ExcName → Option Value} {mg mb : Str → Option Value}
   (hpr : prog = PySem.Challenge.rw_nz0380_01.row.prog)
   {dp un : Nat} {gd : Option (List Code)} {a : Addr} {ccd : Value} {outer : List Env} {A₀ : Around} {base h₀ : Heap} {L : Addr} {m : Str → Option Value} {s : Shared} {Q : Flow → Shared → Prop} {E : Value → Shared → Prop}
   {c1 c2 c3 c4 fd ca cx cd ck cp ckn : Nat} {t1 t2 t3 : Tok} {ns : List Int} {gs : List Gate} {kf : Int} {news : List (Addr × Obj)} {o1 o2 : Obj} {R ia n cc : Nat} {tR : Tok} {vs : List Value}
   (B : Below A₀ base outer h₀) (F : Fr h₀ L s.heap m) (X : (hd.heap_39 w.params).In h₀) (T : Top p loose mean mg mb h₀) (N : News h₀ L s.heap news) (LB₀ : LB prog w news c3 c4 fd ca cx cd ck cp ckn t1 t2 t3 ns gs kf) (h1 : (c1, o1) ∈ news) (d1 : o1.data = .cell (some (.int (R : Int) tR))) (hR : R ≤ 16)
   (h2 : (c2, o2) ∈ news) (d2 : o2.data = .cell (some (.ref ia))) (hia : (ia, PySem.W.listOf vs.toArray cc) ∈ news) (hvs : vs.length = n) (hn : n ≤ 4)
   (hdp : dp + 100 < recursionLimit) (hun : un + 900 < cLine)
   (ret : ∀ (Ts : List Int) (D : Nat) ys h' tk' news', Fr h₀ L h' (fun z => if z = Str.ofString "tables" then some (.ref D) else m z) → News h₀ L h' news' →
      (D, PySem.W.listOf ys.toArray ys.length) ∈ news' → IntsAre ys Ts → Ts.length = n → (∀ k, k < n → Tab R (Ts.getD k 0) ∧ ∀ r, r < R → tb (Ts.getD k 0) r = r.testBit k) → (D ≠ fd ∧ D ≠ ck ∧ D ≠ cp ∧ D ≠ ckn) →
      (∀ p ∈ news, p ∈ news') → Q .next { s with heap := h', toks := tk' }),
   wpAny (model prog w) (ktrTop dp un gd (Str.ofString "law") lawScope L a ccd (lawCells c1 c2 c3 c4) outer) (exec (lawSt 4) (envX (Str.ofString "law") lawScope L a ccd (lawCells c1 c2 c3 c4))) Q E s := by
  w_top off
  k_with_none
  k_with "SrcK" => (k_here; refine stopI ?_)
  k_with "EndK" => (k_here; refine stopI ?_)
  k_with "CompSrcT" => (k_here; refine stopI ?_)
  k_with "CompEnd" => (k_here; refine stopI ?_)
  k_with "exec Assign cons ListComp" => (k_here; k_dflt (refine Assign_ListComp_K (F₀ := by k_asm) (by rfl) (by with_unfolding_all rfl) (by with_unfolding_all rfl) (by rfl) (by decide) (by with_unfolding_all rfl) (by intro n9zq; rfl) (by intro h9zq; rfl) (by rfl) (by rfl) ?_))
  k_with "eval ListComp" => (k_here; k_dflt (refine LCt.ListComp_T (F₀ := by k_asm) (by with_unfolding_all rfl) (by decide) (by rfl) (by decide) (by rfl) ?_))
  k_with "call builtin:len" => (k_here; k_dflt (refine' len_news (by assumption) (by k_asm) (by k_mem) (by omega) ?_))
  k_with "binaryOp FloorDiv int int" => (k_here; (with_reducible refine floordiv_int (by exact Int.ne_of_gt (pow_pos_of (by decide) _)) ?_ (Or.inl (PyProof.noPylong_of_log2 (by exact kbt_py (by omega))))))
  k_with "binaryOp Pow int int" => (k_here; (with_reducible refine pow_int_small (by omega) (by omega) (by decide) ?_))
  k_fill
  intro prog w p loose mean mg mb hp dp un gd a ccd outer A₀ base h₀ L m s Q E c1 c2 c3 c4 fd ca cx cd ck cp ckn t1 t2 t3 ns gs kf news o1 o2 R ia n cc tR vs B F X T N LB₀ h1 d1 hR h2 d2 hia hvs hn hdp hun ret
  (generalize e2 : lawScope = sc9; conv at e2 => lhs; whnf); dsimp only at e2; subst e2
  generalize e1 : lawSt 4 = st9
  conv at e1 => lhs; whnf
  subst e1
  k_steps
  unfold Stop
  (with_reducible rename IsRange _ _ _ _ _ _ _ _ => R1)
  (with_reducible rename Fr h₀ L _ _ => F1)
  (with_reducible rename News h₀ L _ _ => N1)
  refine ⟨_, _, _, _, n, news, fun i ys nw => (∀ p ∈ news, p ∈ nw) ∧ ∃ Ts : List Int, IntsAre ys Ts ∧ Ts.length = i ∧ ∀ k, k < i → Tab R (Ts.getD k 0) ∧ ∀ r, r < R → tb (Ts.getD k 0) r = r.testBit k, rfl, by exact rfl, F1, N1, R1, small_n (by omega), by rw [sizeLine_eq]; omega, ?_, ?_⟩
  · exact ⟨fun p hp => hp, [], .nil, rfl, fun k hk => absurd hk (Nat.not_lt_zero _)⟩
  · rintro s₂ ⟨g9, rfl⟩
    refine ⟨?_, ?_⟩
    · rintro i ys news₁ t I oI C oC D kc oK h tk E' hi ⟨Hk, Ts, Hys, Hl, HT⟩ hK F2 N2 off
      have m1 : (c1, o1) ∈ (I, oI) :: (C, oC) :: (D, lst ys) :: (kc, oK) :: news₁ := .tail _ (.tail _ (.tail _ (.tail _ (Hk _ h1))))
      have mk : (kc, oK) ∈ (I, oI) :: (C, oC) :: (D, lst ys) :: (kc, oK) :: news₁ := .tail _ (.tail _ (.tail _ (.head _)))
      k_steps
      unfold Stop
      (with_reducible rename IsRange _ _ _ _ _ _ _ _ => R3)
      (with_reducible rename Fr h₀ L _ _ => F3)
      (with_reducible rename News h₀ L _ _ => N3)
      refine CompSrcT.range (n := R) (by exact rfl) F3 N3 R3 (small_n (by omega)) (by rw [rangeSize_nat]; simp) (by rw [sizeLine_eq]; omega) ?_
      intro g8
      refine restT_inv (fun j zs nw => nw = (I, oI) :: (C, oC) :: (D, lst ys) :: (kc, oK) :: news₁ ∧ IntsAre zs (((List.range j).filter fun r => r.testBit i).map fun r => ((2 ^ r : Nat) : Int))) ⟨rfl, .nil⟩ ?_ ?_
      · rintro zs nw ⟨rfl, Hzs⟩ D2 h2' tk2 F4 N4 o4
        dsimp only
        k_steps
        unfold Stop
        (with_reducible rename Fr h₀ L _ _ => F5)
        (with_reducible rename News h₀ L _ _ => N5)
        obtain ⟨T, q1, q2, q3⟩ := tab_sum i R
        rw [q1]
        have o5 := off1_mem o4
        refine ⟨_, _, (D2, lst zs) :: news₁, rfl, F5, news_sub N5 fun p hp => ?_, fun p hp => ?_, fun p hp => .tail _ (Hk p hp), Ts ++ [(T : Int)], ints_app (by assumption) (.cons _ _ .nil), by simp [Hl], fun k hk => ?_⟩
        · simp only [List.mem_cons] at hp ⊢
          rcases hp with h | h | h | h | h | h
          · exact .inr (.inl h)
          · exact .inr (.inr (.inl h))
          · exact .inr (.inr (.inr (.inl h)))
          · exact .inr (.inr (.inr (.inr (.inl h))))
          · exact .inl h
          · exact .inr (.inr (.inr (.inr (.inr h))))
        · rcases List.mem_cons.mp hp with rfl | hp
          · exact ⟨Ne.symm (o5 (I, oI) (by simp)), Ne.symm (o5 (C, oC) (by simp)), Ne.symm (o5 (D, lst ys) (by simp)), Ne.symm (o5 (kc, oK) (by simp))⟩
          · exact off p hp
        · rcases Nat.lt_or_ge k i with h | h
          · rw [List.getD_eq_getElem?_getD, List.getElem?_append_left (by omega), ← List.getD_eq_getElem?_getD]
            exact HT k h
          · obtain rfl : k = i := by omega
            rw [List.getD_eq_getElem?_getD, List.getElem?_append_right (by omega), Hl, Nat.sub_self]
            exact ⟨tab_of_nat q2, fun r hr => (q3 r).trans (by simp [hr])⟩
      · rintro j zs nw v I2 oI2 C2 oC2 D2 m₂ h tk E' hj ⟨rfl, Hzs⟩ ⟨tv, rfl⟩ hns hx F4 N4 off4 ne4
        have m1' : (c1, o1) ∈ (I2, oI2) :: (C2, oC2) :: (D2, lst zs) :: (I, oI) :: (C, oC) :: (D, lst ys) :: (kc, oK) :: news₁ := .tail _ (.tail _ (.tail _ m1))
        have mk' : (kc, oK) ∈ (I2, oI2) :: (C2, oC2) :: (D2, lst zs) :: (I, oI) :: (C, oC) :: (D, lst ys) :: (kc, oK) :: news₁ := .tail _ (.tail _ (.tail _ mk))
        have mC' : (C2, oC2) ∈ (I2, oI2) :: (C2, oC2) :: (D2, lst zs) :: (I, oI) :: (C, oC) :: (D, lst ys) :: (kc, oK) :: news₁ := .tail _ (.head _)
        have hbf := bit_fact j i
        rw [Int.zero_add] at hx
        k_steps
        · unfold Stop
          have hbt : j.testBit i = true := by
            cases e : j.testBit i with
            | true => rfl
            | false => rw [e] at hbf; simp_all
          refine CompEnd.intro F4 N4 _ (fun p hp => hp) off4 trivial ⟨rfl, ?_⟩
          rw [List.range_succ, List.filter_append, List.map_append]
          refine ints_app Hzs ?_
          simp only [List.filter_cons, hbt, if_true, List.filter_nil, List.map_cons, List.map_nil]
          rw [show (2 : Int) ^ ((j : Int).toNat) = ((2 ^ j : Nat) : Int) by simp]
          exact .cons _ _ .nil
        · unfold Stop
          have hbt : j.testBit i = false := by
            cases e : j.testBit i with
            | false => rfl
            | true => rw [e] at hbf; simp_all
          refine CompEnd.intro F4 N4 _ (fun p hp => hp) off4 trivial ⟨rfl, ?_⟩
          rw [List.range_succ, List.filter_append]
          simpa [hbt] using Hzs
    · rintro ys nw ⟨Hk, Ts, Hys, Hl, HT⟩ D h tk F2 N2 o1
      exact ret Ts D ys _ _ _ F2 N2 (.head _) Hys Hl HT ((LB₀.mono Hk).new_ne (off1_mem o1)) fun p hp => .tail _ (Hk p hp)
end

end Mine
end

section
open PySem PySem.W PyProof.Rows PySem.Calls
namespace Mine
set_option maxRecDepth 100000
set_option maxHeartbeats 8000000
open LCg LCt
/-- a gate and its table, over the circuit gs with n inputs and R rows -/
structure Good (n R : Nat) (gs : List Gate) (g T : Int) : Prop where
  ok : Ok gs g
  tab : Tab R T
  val : ∀ r, r < R → Lv gs (bitv n r) g = tb T r
theorem Good.mono {n R : Nat} {gs gs' : List Gate} {g T : Int} (h : Good n R gs g T) (hp : gs <+: gs') : Good n R gs' g T :=
  ⟨h.ok.prefix hp, h.tab, fun r hr => by rw [Lv_prefix hp _ h.ok]; exact h.val r hr⟩
theorem Good.neg {n R : Nat} {gs : List Gate} {g T full : Int} (h : Good n R gs g T) (hf : full = ((2 ^ R : Nat) : Int) - 1) : Good n R gs (0 - g) (full - T) := by
  rw [Int.zero_sub]
  refine ⟨h.ok.neg, (tab_not hf h.tab).1, fun r hr => ?_⟩
  rw [Lv_neg _ _ h.ok.1, h.val r hr, (tab_not hf h.tab).2 r hr]
theorem Good.one {n R : Nat} {gs : List Gate} {full : Int} (w : WF gs) (hf : full = ((2 ^ R : Nat) : Int) - 1) : Good n R gs 1 full :=
  ⟨.one w, (tab_full hf).1, fun r hr => by rw [Lv_one w, (tab_full hf).2 r hr]⟩
theorem Good.inp {n R j : Nat} {gs : List Gate} {T : Int} (hj : j < n) (hp : [Gate.blank, Gate.tru] ++ List.replicate n Gate.inp <+: gs) (ht : Tab R T ∧ ∀ r, r < R → tb T r = r.testBit j) : Good n R gs ((j + 2 : Nat) : Int) T := by
  have hl : ([Gate.blank, Gate.tru] ++ List.replicate n Gate.inp).length = n + 2 := by simp
  have hle := hp.length_le
  have hg : gs[j + 2]? = some .inp := by
    obtain ⟨t, rfl⟩ := hp
    rw [List.getElem?_append_left (by rw [hl]; omega)]
    simp [hj]
  refine ⟨⟨by omega, by rw [Int.natAbs_natCast]; omega⟩, ht.1, fun r hr => ?_⟩
  rw [Lv_inp _ hg (by omega), ht.2 r hr]
  simp [bitv, hj]
theorem ints_get {vs : List Value} {ns : List Int} {i : Nat} {z : Int} (h : IntsAre vs ns) (hi : ns[i]? = some z) : ∃ t, vs[i]? = some (.int z t) := by
  induction h generalizing i with
  | nil => simp at hi
  | cons k t _ ih =>
    cases i with
    | zero => simp at hi; subst hi; exact ⟨t, rfl⟩
    | succ i => simp at hi; simpa using ih hi
section
local macro_rules | `(tactic| k_mem) => `(tactic| first | assumption | exact List.mem_cons_self | (refine List.mem_cons_of_mem _ ?_; assumption) | (refine List.mem_cons_of_mem _ (List.mem_cons_of_mem _ ?_); assumption) | (refine List.mem_cons_of_mem _ (List.mem_cons_of_mem _ (List.mem_cons_of_mem _ ?_)); assumption))
theorem stage8 : ∀ {prog : Program} {w : World} {p : Program} {loose : List Str} {mean : ExcName → Option Value} {mg mb : Str → Option Value}
   (hpr : prog = PySem.Challenge.rw_nz0380_01.row.prog)
   {dp un : Nat} {gd : Option (List Code)} {a : Addr} {ccd : Value} {outer : List Env} {A₀ : Around} {base h₀ : Heap} {L : Addr} {m : Str → Option Value} {s : Shared} {Q : Flow → Shared → Prop} {E : Value → Shared → Prop}
   {c1 c2 c3 c4 fd ca cx cd ck cp ckn : Nat} {t1 t2 t3 : Tok} {ns : List Int} {gs : List Gate} {kf : Int} {news : List (Addr × Obj)} {o2 : Obj} {R ia ta n cc : Nat} {tf : Tok} {vs ys : List Value} {Ts : List Int} {full : Int}
   (B : Below A₀ base outer h₀) (F : Fr h₀ L s.heap m) (X : (hd.heap_39 w.params).In h₀) (T : Top p loose mean mg mb h₀) (N : News h₀ L s.heap news) (LB₀ : LB prog w news c3 c4 fd ca cx cd ck cp ckn t1 t2 t3 ns gs kf) (h2 : (c2, o2) ∈ news) (d2 : o2.data = .cell (some (.ref ia))) (hia : (ia, PySem.W.listOf vs.toArray cc) ∈ news) (hvs : IntsAre vs ((List.range n).map fun i => ((i + 2 : Nat) : Int))) (hn0 : 2 ≤ n)
   (hta : (ta, PySem.W.listOf ys.toArray ys.length) ∈ news) (hys : IntsAre ys Ts) (hTl : Ts.length = n) (mT : m (Str.ofString "tables") = some (.ref ta)) (mF : m (Str.ofString "full") = some (.int full tf))
   (hdp : dp + 100 < recursionLimit) (hun : un + 900 < cLine)
   (ret : ∀ m' (ah ab : Nat) k1 k2 k3 k4 h' tk' news', Fr h₀ L h' m' → News h₀ L h' news' → LB prog w news' c3 c4 fd ca cx cd ck cp ckn t1 t2 t3 ns gs kf →
      m' (Str.ofString "here") = some (.ref ah) → m' (Str.ofString "before") = some (.ref ab) → m' (Str.ofString "first") = some .none → (∀ y, y ≠ Str.ofString "here" → y ≠ Str.ofString "before" → y ≠ Str.ofString "first" → m' y = m y) →
      (ah, tupOf #[.int 2 k1, .int (Ts.getD 0 0) k2]) ∈ news' → (ab, tupOf #[.int 1 k3, .int full k4]) ∈ news' →
      (∀ p ∈ news, p ∈ news') → Q .next { s with heap := h', toks := tk' }),
   wpAny (model prog w) (ktrTop dp un gd (Str.ofString "law") lawScope L a ccd (lawCells c1 c2 c3 c4) outer) (exec (lawSt 8) (envX (Str.ofString "law") lawScope L a ccd (lawCells c1 c2 c3 c4))) Q E s := by
  w_top off
  k_with_none
  k_with "subscriptTail" => (k_here; (with_reducible show wpAny _ _ (subscriptTail _ _ (Value.ref _) (Value.int _ _)) _ _ _); k_dflt (refine' item_news (by k_mem) (by k_asm) (by assumption) (by omega) (by omega) ?_ (by with_unfolding_all rfl); k_whole))
  k_with "eval Name" => (k_here; (with_reducible show wpAny _ _ (eval (Expr.Name _ _) (envX _ _ _ _ _ _)) _ _ _); k_dflt (refine' nameX_L (by k_asm) (by first | assumption | (refine (if_neg (by decide)).trans ?_; assumption) | (refine (if_neg (by decide)).trans ((if_neg (by decide)).trans ?_); assumption) | (refine (if_neg (by decide)).trans ((if_neg (by decide)).trans ((if_neg (by decide)).trans ?_)); assumption)) ?_ (by rfl) (by rfl) (by decide)))
  k_fill
  intro prog w p loose mean mg mb hp dp un gd a ccd outer A₀ base h₀ L m s Q E c1 c2 c3 c4 fd ca cx cd ck cp ckn t1 t2 t3 ns gs kf news o2 R ia ta n cc tf vs ys Ts full B F X T N LB₀ h2 d2 hia hvs hn0 hta hys hTl mT mF hdp hun ret
  (generalize e2 : lawScope = sc9; conv at e2 => lhs; whnf); dsimp only at e2; subst e2
  generalize e1 : lawSt 8 = st9
  conv at e1 => lhs; whnf
  subst e1
  obtain ⟨u1, x1⟩ := ints_get (i := (0 : Int).toNat) (z := 2) hvs (by cases n with | zero => omega | succ n => simp [List.range_succ_eq_map])
  obtain ⟨u2, x2⟩ := ints_get (i := (0 : Int).toNat) (z := Ts.getD 0 0) hys (by cases Ts with | nil => simp at hTl; omega | cons a r => rfl)
  k_steps
  (with_reducible rename Fr h₀ L _ _ => F9)
  (with_reducible rename News h₀ L _ (_ :: _ :: _ :: _) => N9)
  refine ret _ _ _ _ _ _ _ _ _ _ F9 N9 (LB₀.mono fun p hp => .tail _ (.tail _ (.tail _ hp))) (if_pos rfl) ?_ ?_ (fun y a b c => by rw [if_neg a, if_neg b, if_neg c]) (.tail _ (.tail _ (.head _))) (.tail _ (.head _)) (fun p hp => .tail _ (.tail _ (.tail _ hp)))
  · exact (if_neg (by decide)).trans (if_pos rfl)
  · exact (if_neg (by decide)).trans ((if_neg (by decide)).trans (if_pos rfl))
end

end Mine
end

section
open PySem PySem.W PyProof.Rows PySem.Calls
namespace Mine
set_option maxRecDepth 100000
set_option maxHeartbeats 8000000
open LCg LCt
theorem ne_cls {h₀ h : Heap} {L : Addr} {news : List (Addr × Obj)} (N : News h₀ L h news) {a b : Nat} {o o' : Obj} (h1 : (a, o) ∈ news) (h2 : (b, o') ∈ news) (hd : o.cls ≠ o'.cls) : a ≠ b := fun e => by
  subst e; exact hd (congrArg Obj.cls (news_fun N h1 h2))
theorem law_link_LB {prog : Program} {w : World} {p : Program} {loose : List Str} {mean : ExcName → Option Value} {mg mb : Str → Option Value}
   (hpr : prog = PySem.Challenge.rw_nz0380_01.row.prog)
   {dp un : Nat} {gd : Option (List Code)} {cn : Str} {cs : Scope} {a : Addr} {ccd : Value} {cl : List (Str × Addr)} {outer : List Env} {A₀ : Around} {base h₀ : Heap} {L : Addr} {m : Str → Option Value} {s : Shared} {Q E : Value → Shared → Prop}
   {c3 c4 fd ca cx cd ck cp ckn qp qa qb qx : Nat} {t1 t2 t3 : Tok} {ns : List Int} {gs : List Gate} {kf : Int} {n R : Nat} {way full va vs vb vt vx vu : Int} {k1 k2 k3 k4 k5 k6 k7 k8 : Tok} {news : List (Addr × Obj)}
   (B : Below A₀ base outer h₀) (F : Fr h₀ L s.heap m) (X : (hd.heap_39 w.params).In h₀) (T : Top p loose mean mg mb h₀) (hk : cs.kind = .function) (N : News h₀ L s.heap news) (LB₀ : LB prog w news c3 c4 fd ca cx cd ck cp ckn t1 t2 t3 ns gs kf)
   (hp : (qp, tupOf #[.ref qa, .ref qb, .ref qx]) ∈ news) (ha : (qa, tupOf #[.int va k1, .int vs k2]) ∈ news) (hb : (qb, tupOf #[.int vb k3, .int vt k4]) ∈ news) (hx : (qx, tupOf #[.int vx k5, .int vu k6]) ∈ news)
   (ga : Good n R gs va vs) (gb : Good n R gs vb vt) (gx : Good n R gs vx vu) (hz : gs.length ≤ 8900)
   (hf : full = ((2 ^ R : Nat) : Int) - 1)
   (hdp : dp + 100 < recursionLimit) (hun : un + 900 < cLine)
   (ret : ∀ tr v Tv k9 k10 gs' news' h' tk', Fr h₀ L h' m → News h₀ L h' news' → LB prog w news' c3 c4 fd ca cx cd ck cp ckn t1 t2 t3 ns gs' kf → KeepC ck cp ckn news news' → (tr, tupOf #[.int v k9, .int Tv k10]) ∈ news' → gs <+: gs' → gs'.length ≤ gs.length + 5 →
     Good n R gs' v Tv → (∀ (b : Nat) its, (b, tupOf its) ∈ news → (b, tupOf its) ∈ news') → Q (.ref tr) { s with heap := h', toks := tk' }) :
   wpAny (model prog w) (ktrTop dp un gd cn cs L a ccd cl outer) (call (.ref 173) [.ref cx, .int way k7, .ref qp, .int full k8]) Q E s :=
  law_link_ok hpr B F X T hk N LB₀.C hp ha hb hx ga.ok gb.ok gx.ok hz hf ga.tab gb.tab gx.tab hdp hun fun tr v Tv k9 k10 gs' news' h' tk' f F' N' C' K' mt pf ln o' tv h1 h2 =>
    ret tr v Tv k9 k10 gs' news' h' tk' F' N' (LB₀.turn N K' C') K' mt pf ln ⟨o', tv, fun r hr => by
      rw [h1 gs' List.prefix_rfl, (ga.mono pf).val r hr, (gb.mono pf).val r hr, (gx.mono pf).val r hr, h2 r hr]⟩ fun b its hb => by
      obtain ⟨_, _, ⟨kv, n1, k1, _⟩, ⟨pv, n2, p1, _⟩, ⟨ko, xs, o1, o2, _⟩, _⟩ := LB₀.C
      exact K' _ hb (ne_cls N hb k1 (by show Value.type "tuple" ≠ Value.type "list"; decide)) (ne_cls N hb p1 (by show Value.type "tuple" ≠ Value.type "list"; decide)) (ne_cls N hb o1 (by rw [o2.cls]; show Value.type "tuple" ≠ Value.type "dict"; decide))
theorem LB.without {prog : Program} {w : World} {news : List (Addr × Obj)} {c3 c4 fd ca cx cd ck cp ckn : Nat} {t1 t2 t3 : Tok} {ns : List Int} {gs : List Gate} {k : Int} {h₀ h : Heap} {L : Addr}
    (B : LB prog w news c3 c4 fd ca cx cd ck cp ckn t1 t2 t3 ns gs k) (N : News h₀ L h news) {a : Nat} {o : Obj} (hc : (a, o) ∈ news) (hcl : o.cls = .type "range_iterator") (h3 : c3 ≠ a) (h4 : c4 ≠ a) :
    LB prog w (news.filter fun p => decide (p.1 ≠ a)) c3 c4 fd ca cx cd ck cp ckn t1 t2 t3 ns gs k := by
  obtain ⟨⟨o3, a1, a2⟩, ⟨o4, a3, a4⟩, ⟨of, t, a5, a6⟩, ⟨vs, n, a7, a8⟩, hn, hk, C, n1, n2, n3, n4⟩ := B
  have a6' := a6
  obtain ⟨es', ep', ex, od', _⟩ := a6
  have put : ∀ {b : Nat} {q : Obj}, (b, q) ∈ news → b ≠ a → (b, q) ∈ news.filter fun p => decide (p.1 ≠ a) := fun hb hne => List.mem_filter.mpr ⟨hb, decide_eq_true hne⟩
  have hex : of.cls = .type "dict" := ex.1
  refine ⟨⟨o3, put a1 h3, a2⟩, ⟨o4, put a3 h4, a4⟩, ⟨of, t, put a5 ?_, a6'⟩, ⟨vs, n, put a7 ?_, a8⟩, hn, hk, C.off N hc ?_ (.inl ?_) (.inl ?_) ?_, n1, n2, n3, n4⟩
  · intro e; subst e; rw [news_fun N hc a5, hex] at hcl; exact absurd hcl (by decide)
  · intro e; subst e; rw [news_fun N hc a7] at hcl; exact absurd hcl (by show Value.type "list" ≠ _; decide)
  · rw [hcl]; decide
  · rw [hcl]; decide
  · rw [hcl]; decide
  · intro d e; rw [e] at hcl; cases hcl
def loopNames : List Str := [Str.ofString "k", Str.ofString "j", Str.ofString "one", Str.ofString "gate", Str.ofString "table", Str.ofString "here", Str.ofString "before", Str.ofString "first"]
def LJ (prog : Program) (w : World) (news₀ : List (Addr × Obj)) (c3 c4 fd ca cx cd ck cp ckn : Nat) (t1 t2 t3 : Tok) (ns : List Int) (gs₀ : List Gate) (kf : Int) (n R : Nat) (m₀ : Str → Option Value) (i : Nat) (m₁ : Str → Option Value) (nw : List (Addr × Obj)) : Prop :=
  ∃ (gs : List Gate) (ah ab : Nat) (g T g' T' : Int) (k1 k2 k3 k4 : Tok), LB prog w nw c3 c4 fd ca cx cd ck cp ckn t1 t2 t3 ns gs kf ∧ gs₀ <+: gs ∧ gs.length ≤ gs₀.length + 5 * i ∧ (∀ y, y ∉ loopNames → m₁ y = m₀ y) ∧
    m₁ (Str.ofString "here") = some (.ref ah) ∧ m₁ (Str.ofString "before") = some (.ref ab) ∧ (ah, tupOf #[.int g k1, .int T k2]) ∈ nw ∧ Good n R gs g T ∧ (ab, tupOf #[.int g' k3, .int T' k4]) ∈ nw ∧ Good n R gs g' T' ∧
    (∃ vf, m₁ (Str.ofString "first") = some vf ∧ (0 < i → ∃ (af : Nat) (g2 T2 : Int) (k5 k6 : Tok), vf = .ref af ∧ (af, tupOf #[.int g2 k5, .int T2 k6]) ∈ nw ∧ Good n R gs g2 T2)) ∧
    (∀ p ∈ news₀, p.1 ≠ ck → p.1 ≠ cp → p.1 ≠ ckn → p ∈ nw)
theorem lj_end {prog : Program} {w : World} {news₀ nwf : List (Addr × Obj)} {c3 c4 fd ca cx cd ck cp ckn : Nat} {t1 t2 t3 : Tok} {ns : List Int} {gs₀ gs : List Gate} {kf : Int} {n R : Nat} {m₀ m' : Str → Option Value} {i : Nat} {h₀ h : Heap} {L : Addr} {I ah ab af : Nat} {oI : Obj} {g T g' T' g2 T2 : Int} {k1 k2 k3 k4 k5 k6 : Tok} {s : Shared} {tk : Nat}
    (F : Fr h₀ L h m') (N : News h₀ L h nwf) (hI : (I, oI) ∈ nwf) (hcl : oI.cls = .type "range_iterator") (h3 : c3 ≠ I) (h4 : c4 ≠ I) 
    (B : LB prog w nwf c3 c4 fd ca cx cd ck cp ckn t1 t2 t3 ns gs kf) (hp : gs₀ <+: gs) (hl : gs.length ≤ gs₀.length + 5 * (i + 1)) (hm : ∀ y, y ∉ loopNames → m' y = m₀ y)
    (e1 : m' (Str.ofString "here") = some (.ref ah)) (e2 : m' (Str.ofString "before") = some (.ref ab)) (e3 : m' (Str.ofString "first") = some (.ref af))
    (q1 : (ah, tupOf #[.int g k1, .int T k2]) ∈ nwf) (G1 : Good n R gs g T) (q2 : (ab, tupOf #[.int g' k3, .int T' k4]) ∈ nwf) (G2 : Good n R gs g' T') (q3 : (af, tupOf #[.int g2 k5, .int T2 k6]) ∈ nwf) (G3 : Good n R gs g2 T2)
    (hk : ∀ p ∈ news₀, p.1 ≠ ck → p.1 ≠ cp → p.1 ≠ ckn → p ∈ nwf ∧ p.1 ≠ I) :
    ∃ h' tk' m₂ news', ({ s with heap := h, toks := tk } : Shared) = { s with heap := h', toks := tk' } ∧ Fr h₀ L h' m₂ ∧ News h₀ L h' ((I, oI) :: news') ∧ (∀ p ∈ news', p.1 ≠ I) ∧ LJ prog w news₀ c3 c4 fd ca cx cd ck cp ckn t1 t2 t3 ns gs₀ kf n R m₀ (i + 1) m₂ news' := by
  have ne : ∀ {b : Nat} {its : Array Value}, (b, tupOf its) ∈ nwf → b ≠ I := fun hb e => by
    subst e; rw [news_fun N hI hb] at hcl; exact absurd hcl (by show Value.type "tuple" ≠ _; decide)
  have put : ∀ {p : Addr × Obj}, p ∈ nwf → p.1 ≠ I → p ∈ nwf.filter fun p => decide (p.1 ≠ I) := fun hb hne => List.mem_filter.mpr ⟨hb, decide_eq_true hne⟩
  refine ⟨h, tk, m', nwf.filter fun p => decide (p.1 ≠ I), rfl, F, fun p hp => ?_, fun p hp => of_decide_eq_true (List.mem_filter.mp hp).2, gs, ah, ab, g, T, g', T', k1, k2, k3, k4, B.without N hI hcl h3 h4, hp, hl, hm, e1, e2, put q1 (ne q1), G1, put q2 (ne q2), G2,
    ⟨_, e3, fun _ => ⟨af, g2, T2, k5, k6, rfl, put q3 (ne q3), G3⟩⟩, fun p hp a1 a2 a3 => put (hk p hp a1 a2 a3).1 (hk p hp a1 a2 a3).2⟩
  rcases List.mem_cons.mp hp with rfl | hp
  · exact N _ hI
  · exact N p (List.mem_filter.mp hp).1
section
local macro_rules | `(tactic| k_mem) => `(tactic| first | assumption | exact List.mem_cons_self | (refine List.mem_cons_of_mem _ ?_; assumption) | (refine List.mem_cons_of_mem _ (List.mem_cons_of_mem _ ?_); assumption) | (refine List.mem_cons_of_mem _ (List.mem_cons_of_mem _ (List.mem_cons_of_mem _ ?_)); assumption))
theorem stage9 : ∀ {prog : Program} {w : World} {p : Program} {loose : List Str} {mean : ExcName → Option Value} {mg mb : Str → Option Value}
   (hpr : prog = PySem.Challenge.rw_nz0380_01.row.prog)
   {dp un : Nat} {gd : Option (List Code)} {a : Addr} {ccd : Value} {outer : List Env} {A₀ : Around} {base h₀ : Heap} {L : Addr} {m : Str → Option Value} {s : Shared} {Q : Flow → Shared → Prop} {E : Value → Shared → Prop}
   {c1 c2 c3 c4 fd ca cx cd ck cp ckn : Nat} {t1 t2 t3 : Tok} {ns : List Int} {gs : List Gate} {kf : Int} {news : List (Addr × Obj)} {o2 : Obj} {R ia ta wa pa sa n cc l ah ab : Nat} {tf tl k1 k2 k3 k4 : Tok} {vs ys wy py sy : List Value} {Ts : List Int} {Ws Ps Ss : List Nat} {full : Int}
   (B : Below A₀ base outer h₀) (F : Fr h₀ L s.heap m) (X : (hd.heap_39 w.params).In h₀) (T : Top p loose mean mg mb h₀) (N : News h₀ L s.heap news) (LB₀ : LB prog w news c3 c4 fd ca cx cd ck cp ckn t1 t2 t3 ns gs kf) (hgs : gs = [.blank, .tru] ++ List.replicate n .inp) (h2 : (c2, o2) ∈ news) (d2 : o2.data = .cell (some (.ref ia))) (hia : (ia, PySem.W.listOf vs.toArray cc) ∈ news) (hvs : IntsAre vs ((List.range n).map fun i => ((i + 2 : Nat) : Int))) (hn0 : 2 ≤ n) (hn : n ≤ 4)
   (hta : (ta, PySem.W.listOf ys.toArray ys.length) ∈ news) (hys : IntsAre ys Ts) (hTl : Ts.length = n) (hT : ∀ k, k < n → Tab R (Ts.getD k 0) ∧ ∀ r, r < R → tb (Ts.getD k 0) r = r.testBit k)
   (hwa : (wa, PySem.W.listOf wy.toArray wy.length) ∈ news) (hwy : IntsAre wy (Ws.map fun x : Nat => (x : Int))) (hWl : Ws.length = 6)
   (hpa : (pa, PySem.W.listOf py.toArray py.length) ∈ news) (hpy : IntsAre py (Ps.map fun x : Nat => (x : Int))) (hPl : Ps.length = 6) (hPn : ∀ x ∈ Ps, x < n)
   (hsa : (sa, PySem.W.listOf sy.toArray sy.length) ∈ news) (hsy : IntsAre sy (Ss.map fun x : Nat => (x : Int))) (hSl : Ss.length = 6)
   (hne : ∀ b, b = ia ∨ b = ta ∨ b = wa ∨ b = pa ∨ b = sa → b ≠ ck ∧ b ≠ cp ∧ b ≠ ckn)
   (mT : m (Str.ofString "tables") = some (.ref ta)) (mW : m (Str.ofString "ways") = some (.ref wa)) (mP : m (Str.ofString "picks") = some (.ref pa)) (mS : m (Str.ofString "signs") = some (.ref sa))
   (mF : m (Str.ofString "full") = some (.int full tf)) (hf : full = ((2 ^ R : Nat) : Int) - 1) (mL : m (Str.ofString "links") = some (.int ((l + 8 : Nat) : Int) tl)) (hl : l < 40)
   (mH : m (Str.ofString "here") = some (.ref ah)) (mB : m (Str.ofString "before") = some (.ref ab)) (mV : m (Str.ofString "first") = some .none) (hah : (ah, tupOf #[.int 2 k1, .int (Ts.getD 0 0) k2]) ∈ news) (hab : (ab, tupOf #[.int 1 k3, .int full k4]) ∈ news)
   (hE : PassesOwn (model prog w) (ktrTop dp un gd (Str.ofString "law") lawScope L a ccd (lawCells c1 c2 c3 c4) outer) (envX (Str.ofString "law") lawScope L a ccd (lawCells c1 c2 c3 c4)) E)
   (hdp : dp + 120 < recursionLimit) (hun : un + 1100 < cLine)
   (ret : ∀ m' h' tk' news' gs' (ah af : Nat) (g T g2 T2 : Int) k1 k2 k3 k4, Fr h₀ L h' m' → News h₀ L h' news' → LB prog w news' c3 c4 fd ca cx cd ck cp ckn t1 t2 t3 ns gs' kf → gs'.length ≤ 300 →
      (∀ y, y ∉ loopNames → m' y = m y) → m' (Str.ofString "here") = some (.ref ah) → m' (Str.ofString "first") = some (.ref af) →
      (ah, tupOf #[.int g k1, .int T k2]) ∈ news' → (af, tupOf #[.int g2 k3, .int T2 k4]) ∈ news' → Good n R gs' g T → Good n R gs' g2 T2 →
      (∀ p ∈ news, p.1 ≠ ck → p.1 ≠ cp → p.1 ≠ ckn → p ∈ news') → Q .next { s with heap := h', toks := tk' }),
   wpAny (model prog w) (ktrTop dp un gd (Str.ofString "law") lawScope L a ccd (lawCells c1 c2 c3 c4) outer) (exec (lawSt 9) (envX (Str.ofString "law") lawScope L a ccd (lawCells c1 c2 c3 c4))) Q E s := by
  w_top off
  k_with_none
  k_with "subscriptTail" => (k_here; (with_reducible show wpAny _ _ (subscriptTail _ _ (Value.ref _) (Value.int _ _)) _ _ _); k_dflt (refine' item_news (by k_mem) (by k_asm) (by assumption) (by omega) (by omega) ?_ (by with_unfolding_all rfl); k_whole))
  k_with "eval Name" => (k_here; (with_reducible show wpAny _ _ (eval (Expr.Name _ _) (envX _ _ _ _ _ _)) _ _ _); k_dflt (refine' nameX_L (by k_asm) (by first | assumption | ((repeat (refine (if_neg (by decide)).trans ?_)); first | assumption | exact if_pos rfl)) ?_ (by rfl) (by rfl) (by decide)))
  k_with "RangePost" => (refine stopI ?_)
  k_with "pyIter ref" => (k_here; refine stopI ?_)
  k_with "call ref" => (k_here; (with_reducible show wpAny _ _ (call (Value.ref 173) _) _ _ _); k_dflt (refine' law_link_LB (by assumption) (by k_asm) (by k_asm) (by k_asm) (by k_asm) (by exact rfl) (by k_asm) (by first | assumption | (refine LB.mono (by assumption) ?_; intro p9zq hp9zq; exact .tail _ (.tail _ (.tail _ hp9zq)))) (by k_mem) (by k_mem) (by k_mem) (by k_mem) (by assumption) (by assumption) (by assumption) (by omega) (by assumption) (by ktr_room) (by ktr_units) ?_); intro tr9zq v9zq Tv9zq k9zq k10zq gs9zq news9zq h9zq tk9zq F9zq N9zq LB9zq K9zq mt9zq pf9zq ln9zq G9zq KT9zq)
  k_with "exec For Name Call cons nil" => (k_here; (rename Fr _ _ _ _ => lF'zq); (with_unfolding_all refine' For_invVF lF'zq (by exact rfl) (by exact rfl) ?_ (by intro xzq; rfl) (by assumption); k_whole))
  k_fill
  intro prog w p loose mean mg mb hp dp un gd a ccd outer A₀ base h₀ L m s Q E c1 c2 c3 c4 fd ca cx cd ck cp ckn t1 t2 t3 ns gs kf news o2 R ia ta wa pa sa n cc l ah ab tf tl k1 k2 k3 k4 vs ys wy py sy Ts Ws Ps Ss full B F X T N LB₀ hgs h2 d2 hia hvs hn0 hn hta hys hTl hT hwa hwy hWl hpa hpy hPl hPn hsa hsy hSl hne mT mW mP mS mF hf mL hl mH mB mV hah hab hE hdp hun ret
  revert hE
  (generalize e2 : lawScope = sc9; conv at e2 => lhs; whnf); dsimp only at e2; subst e2
  intro hE
  generalize e1 : lawSt 9 = st9
  conv at e1 => lhs; whnf
  subst e1
  have hc2 := LB₀.cell_ne N h2 d2
  k_steps
  unfold Stop
  (with_reducible rename IsRange _ _ _ _ _ _ _ _ => R1)
  (with_reducible rename Fr h₀ L _ _ => F1)
  (with_reducible rename News h₀ L _ _ => N1)
  have hg0 : gs.length = n + 2 := by rw [hgs]; simp
  refine iter_range (J := LJ prog w news c3 c4 fd ca cx cd ck cp ckn t1 t2 t3 ns gs kf n R m) (by exact rfl) R1 (small_n (by omega)) F1 N1 ?_ ?_ ?_
  · refine ⟨gs, ah, ab, _, _, _, _, k1, k2, k3, k4, LB₀, List.prefix_rfl, by omega, fun y _ => rfl, mH, mB, hah, ?_, hab, .one LB₀.C.wf hf, ⟨_, mV, fun h => absurd h (Nat.lt_irrefl _)⟩, fun p hp _ _ _ => hp⟩
    exact Good.inp (j := 0) (by omega) (hgs ▸ List.prefix_rfl) (hT 0 (by omega))
  · rintro i t m₁ nw h tk I oI hi ⟨gi, ah, ab, g, T, g', T', k1, k2, k3, k4, LBi, hpre, hlen, hm, e1, e2, q1, G1, q2, G2, ⟨vf, mV', hfst⟩, Hk⟩ F2 N2 hcI hneI
    have hf0 : (i : Int).fmod 6 = ((i % 6 : Nat) : Int) := by rw [Int.fmod_eq_emod_of_nonneg _ (by decide)]; rfl
    have hz0 : 0 ≤ (i : Int).fmod 6 := by rw [hf0]; omega
    have hz1 : (i : Int).fmod 6 < 6 := by rw [hf0]; omega
    have hi6 : ((i : Int).fmod 6).toNat < 6 := by omega
    obtain ⟨jx, hjx, hjn⟩ : ∃ jx, Ps[((i : Int).fmod 6).toNat]? = some jx ∧ jx < n := ⟨_, List.getElem?_eq_getElem (by omega), hPn _ (List.getElem_mem _)⟩
    obtain ⟨wx, hwx⟩ : ∃ jx, Ws[((i : Int).fmod 6).toNat]? = some jx := ⟨_, List.getElem?_eq_getElem (by omega)⟩
    obtain ⟨sx, hsx⟩ : ∃ jx, Ss[((i : Int).fmod 6).toNat]? = some jx := ⟨_, List.getElem?_eq_getElem (by omega)⟩
    obtain ⟨u1, xP⟩ := ints_get (i := ((i : Int).fmod 6).toNat) (z := (jx : Int)) hpy (by rw [List.getElem?_map, hjx]; rfl)
    obtain ⟨u2, xW⟩ := ints_get (i := ((i : Int).fmod 6).toNat) (z := (wx : Int)) hwy (by rw [List.getElem?_map, hwx]; rfl)
    obtain ⟨u3, xS⟩ := ints_get (i := ((i : Int).fmod 6).toNat) (z := (sx : Int)) hsy (by rw [List.getElem?_map, hsx]; rfl)
    obtain ⟨u4, xI⟩ := ints_get (i := (jx : Int).toNat) (z := ((jx + 2 : Nat) : Int)) hvs (by simp [hjn])
    obtain ⟨u5, xT⟩ := ints_get (i := (jx : Int).toNat) (z := Ts.getD jx 0) hys (by rw [Int.toNat_natCast, List.getElem?_eq_getElem (by omega), List.getD_eq_getElem?_getD, List.getElem?_eq_getElem (by omega)]; rfl)
    have GX : Good n R gi ((jx + 2 : Nat) : Int) (Ts.getD jx 0) := Good.inp hjn (hgs ▸ hpre) (hT jx hjn)
    have GXn := GX.neg hf
    have nT : m₁ (Str.ofString "tables") = some (.ref ta) := (hm _ (by decide)).trans mT
    have nW : m₁ (Str.ofString "ways") = some (.ref wa) := (hm _ (by decide)).trans mW
    have nP : m₁ (Str.ofString "picks") = some (.ref pa) := (hm _ (by decide)).trans mP
    have nS : m₁ (Str.ofString "signs") = some (.ref sa) := (hm _ (by decide)).trans mS
    have nF : m₁ (Str.ofString "full") = some (.int full tf) := (hm _ (by decide)).trans mF
    have kp : ∀ {b : Nat} {o : Obj}, (b, o) ∈ news → b ≠ ck ∧ b ≠ cp ∧ b ≠ ckn → (b, o) ∈ (I, oI) :: nw := fun hb hq => .tail _ (Hk _ hb hq.1 hq.2.1 hq.2.2)
    have m2 : (c2, o2) ∈ (I, oI) :: nw := kp h2 ⟨hc2.2.1, hc2.2.2.1, hc2.2.2.2.1⟩
    have mia := kp hia (hne _ (.inl rfl))
    have mta := kp hta (hne _ (.inr (.inl rfl)))
    have mwa := kp hwa (hne _ (.inr (.inr (.inl rfl))))
    have mpa := kp hpa (hne _ (.inr (.inr (.inr (.inl rfl)))))
    have msa := kp hsa (hne _ (.inr (.inr (.inr (.inr rfl)))))
    obtain ⟨⟨o3, m3, d3⟩, ⟨o4, m4, d4⟩, -⟩ := id LBi
    have m3' : (c3, o3) ∈ (I, oI) :: nw := .tail _ m3
    have q1' : (ah, tupOf #[.int g k1, .int T k2]) ∈ (I, oI) :: nw := .tail _ q1
    have q2' : (ab, tupOf #[.int g' k3, .int T' k4]) ∈ (I, oI) :: nw := .tail _ q2
    have hIn : I ≠ ck ∧ I ≠ cp ∧ I ≠ ckn := by
      obtain ⟨_, _, ⟨kv, n1, k1, _⟩, ⟨pv, n2, p1, _⟩, ⟨ko, xs, o1, _⟩, _⟩ := LBi.C
      exact ⟨Ne.symm (hneI _ k1), Ne.symm (hneI _ p1), Ne.symm (hneI _ o1)⟩
    have hc3 : c3 ≠ I := hneI _ m3
    have hc4 : c4 ≠ I := hneI _ m4
    change Fr h₀ L h _ at F2
    change News h₀ L h _ at N2
    k_steps
    all_goals unfold Stop
    all_goals
      (with_reducible rename Fr h₀ L _ _ => F9)
      (with_reducible rename News h₀ L _ _ => N9)
      (with_reducible rename KeepC _ _ _ _ _ => K9)
      (with_reducible rename LB _ _ _ _ _ _ _ _ _ _ _ _ _ _ _ _ _ _ => LB9)
      (with_reducible rename _ <+: _ => pf9)
      (with_reducible rename ∀ (b : Nat) its, (b, tupOf its) ∈ _ → _ => KT9)
      (with_reducible rename (_, tupOf #[Value.int _ _, Value.int _ _]) ∈ _ => mt9)
      (with_reducible rename Good n R _ _ _ => G9)
      have mone := KT9 _ _ (.tail _ (.head _))
      have mah := KT9 _ _ (.tail _ (.tail _ q1'))
      have hI9 := K9 (I, oI) (.tail _ (.tail _ (.head _))) hIn.1 hIn.2.1 hIn.2.2
      by_cases hi0 : 0 < i
      · obtain ⟨af, g2, T2, k5, k6, rfl, q3, G3⟩ := hfst hi0
        have maf := KT9 _ _ (.tail _ (.tail _ (.tail _ q3)))
        first
          | (exfalso; omega)
          | exact lj_end F9 N9 (by k_mem) hcI hc3 hc4 (by first | exact LB9 | exact LB9.mono fun p hp => .tail _ hp | exact LB9.mono fun p hp => .tail _ (.tail _ hp)) (hpre.trans pf9) (by omega)
                (fun y hy => by
                  have hy' := hm y hy
                  simp only [loopNames, List.mem_cons, List.not_mem_nil, or_false, not_or] at hy
                  obtain ⟨a1, a2, a3, a4, a5, a6, a7, a8⟩ := hy
                  refine Eq.trans ?_ hy'
                  ((repeat (refine (if_neg (by assumption)).trans ?_)); rfl))
                (by (repeat (refine (if_neg (by decide)).trans ?_)); first | exact if_pos rfl | assumption) (by (repeat (refine (if_neg (by decide)).trans ?_)); first | exact if_pos rfl | assumption) (by (repeat (refine (if_neg (by decide)).trans ?_)); first | exact if_pos rfl | assumption)
                (by k_mem) (by first | exact G9 | exact GX.mono pf9 | exact GXn.mono pf9) (by k_mem) (G1.mono pf9) (by k_mem) (by first | exact G9 | exact GX.mono pf9 | exact GXn.mono pf9 | exact G3.mono pf9)
                (fun p hp a1 a2 a3 => ⟨by have := K9 p (.tail _ (.tail _ (.tail _ (Hk p hp a1 a2 a3)))) a1 a2 a3; first | exact this | exact .tail _ this | exact .tail _ (.tail _ this), hneI _ (Hk p hp a1 a2 a3)⟩)
      · first
          | (exfalso; omega)
          | exact lj_end F9 N9 (by k_mem) hcI hc3 hc4 (by first | exact LB9 | exact LB9.mono fun p hp => .tail _ hp | exact LB9.mono fun p hp => .tail _ (.tail _ hp)) (hpre.trans pf9) (by omega)
                (fun y hy => by
                  have hy' := hm y hy
                  simp only [loopNames, List.mem_cons, List.not_mem_nil, or_false, not_or] at hy
                  obtain ⟨a1, a2, a3, a4, a5, a6, a7, a8⟩ := hy
                  refine Eq.trans ?_ hy'
                  ((repeat (refine (if_neg (by assumption)).trans ?_)); rfl))
                (by (repeat (refine (if_neg (by decide)).trans ?_)); first | exact if_pos rfl | assumption) (by (repeat (refine (if_neg (by decide)).trans ?_)); first | exact if_pos rfl | assumption) (by (repeat (refine (if_neg (by decide)).trans ?_)); first | exact if_pos rfl | assumption)
                (by k_mem) (by first | exact G9 | exact GX.mono pf9 | exact GXn.mono pf9) (by k_mem) (G1.mono pf9) (by k_mem) (by first | exact G9 | exact GX.mono pf9 | exact GXn.mono pf9)
                (fun p hp a1 a2 a3 => ⟨by have := K9 p (.tail _ (.tail _ (.tail _ (Hk p hp a1 a2 a3)))) a1 a2 a3; first | exact this | exact .tail _ this | exact .tail _ (.tail _ this), hneI _ (Hk p hp a1 a2 a3)⟩)
  · rintro m₁ nw h tk ⟨gi, ah, ab, g, T, g', T', k1, k2, k3, k4, LBi, hpre, hlen, hm, e1, e2, q1, G1, q2, G2, ⟨vf, mV', hfst⟩, Hk⟩ F2 N2
    obtain ⟨af, g2, T2, k5, k6, rfl, q3, G3⟩ := hfst (by omega)
    exact ret m₁ h tk nw gi ah af _ _ _ _ k1 k2 k5 k6 F2 N2 LBi (by omega) hm e1 mV' q1 q3 G1 G3 Hk
end

end Mine
end

section
open PySem PySem.W PyProof.Rows PySem.Calls
namespace Mine
set_option maxRecDepth 100000
set_option maxHeartbeats 8000000
open LCg LCt
section
theorem reading_ok : ∀ {prog : Program} {w : World} {p : Program} {loose : List Str} {mean : ExcName → Option Value} {mg mb : Str → Option Value}
   (hpr : prog = PySem.Challenge.rw_nz0380_01.row.prog)
   {dp un : Nat} {gd : Option (List Code)} {cn : Str} {cs : Scope} {a : Addr} {ccd : Value} {cl : List (Str × Addr)} {outer : List Env} {A₀ : Around} {base h₀ : Heap} {L : Addr} {m : Str → Option Value} {s : Shared} {Q E : Value → Shared → Prop} {cx : Nat} {news : List (Addr × Obj)}
   (B : Below A₀ base outer h₀) (F : Fr h₀ L s.heap m) (X : (hd.heap_39 w.params).In h₀) (T : Top p loose mean mg mb h₀) (hk : cs.kind = .function) (N₁ : News h₀ L s.heap news)
   (hdp : dp + 60 < recursionLimit) (hun : un + 500 < cLine)
   (ret : ∀ (rx rd : Nat) t4 h' tk', Fr h₀ L h' m → News h₀ L h' ((rx, instObj 155 rd) :: (rd, rDict w cx t4) :: news) → (∀ p ∈ news, p.1 ≠ rx ∧ p.1 ≠ rd) → Q (.ref rx) { s with heap := h', toks := tk' }),
   wpAny (model prog w) (ktrTop dp un gd cn cs L a ccd cl outer) (call (.ref 155) [.ref cx]) Q E s := by
  w_top off
  k_with_none
  k_fill
  intro prog w p loose mean mg mb hp dp un gd cn cs a ccd cl outer A₀ base h₀ L m s Q E cx news B F X T hk N₁ hdp hun ret
  k_dflt (refine' call_cls ?k1 ?k2 ?k3 ?k4 ?k5 ?k6 ?_; (case k1 => exact F); (case k2 => k_asm); (case k3 => exact N₁); (case k4 => k_is); (case k5 => k_is); (case k6 => k_is); k_whole)
  intro x d h9 F2 N2 l1 l2
  (try k_lt l1)
  (try k_lt2 l2)
  have N : News h₀ L h9 [(x, instObj 155 d), (d, dictOf [] 0)] := news_sub N2 (by
    intro p hp
    simp only [List.mem_cons, List.not_mem_nil, or_false] at hp
    rcases hp with rfl | rfl
    · exact .head _
    · exact .tail _ (.head _))
  have l3 := allLt_mem (allLt_of l1)
  k_dflt (refine' code_defG ?k1 ?k2 ?k3 ?k4 ?k5 ?kA ?kF ?kK ?k6 ?k7 ?k8 ?k9 ?kB ?_ ?c2 ?c3 ?c4 ?c5; (case kA => exact rfl); (case kF => exact rfl); (case kK => first | assumption | exact rfl); (case k1 => k_asm); (case k2 => k_asm); (case k3 => k_asm); (case k4 => exact N); (case k5 => k_asm); (case k6 => k_is); (case k7 => k_is); (case k8 => ktr_room); (case k9 => exact BindsTo.of_eq rfl); (case c5 => decide); (case kB => exact locs rfl); (case c2 => exact rfl); (case c3 => exact rfl); (case c4 => exact rfl); k_whole)
  intro g L' h₁ FG F' N' B' X' T' gk
  try dsimp only
  k_fold
  k_steps
  with_reducible rename Fr h₀ L _ _ => kF9
  with_reducible rename News h₀ L _ _ => kN9
  with_reducible rename Fr g L' _ _ => kG9
  have fin : ∀ {hh : Heap} {od : Obj}, (∀ b o, g.get? b = some o → hh.get? b = some o) → News h₀ L hh [(x, instObj 155 d), (d, od)] → News h₀ L hh ((x, instObj 155 d) :: (d, od) :: news) := fun {hh od} kk kN q hq => by
    rcases List.mem_cons.mp hq with rfl | hq
    · exact kN _ (.head _)
    rcases List.mem_cons.mp hq with rfl | hq
    · exact kN _ (.tail _ (.head _))
    have l4 : q.1 < d := l3 q hq
    refine ⟨kk _ _ (gk _ _ (N2 q (.tail _ (.tail _ hq))).1 ?_), (N2 q (.tail _ (.tail _ hq))).2⟩
    simp only [List.map_cons, List.map_nil, List.mem_cons, List.not_mem_nil, or_false, not_or]
    exact ⟨Nat.ne_of_lt (Nat.lt_trans l4 l2), Nat.ne_of_lt l4⟩
  exact ret x d _ _ _ kF9 (fin kG9.keep kN9) fun q hq => ⟨Nat.ne_of_lt (Nat.lt_trans (l3 q hq) l2), Nat.ne_of_lt (l3 q hq)⟩
end
section
local macro_rules | `(tactic| k_mem) => `(tactic| first | assumption | exact List.mem_cons_self | (refine List.mem_cons_of_mem _ ?_; assumption) | (refine List.mem_cons_of_mem _ (List.mem_cons_of_mem _ ?_); assumption) | (refine List.mem_cons_of_mem _ (List.mem_cons_of_mem _ (List.mem_cons_of_mem _ ?_)); assumption))
theorem stage10 : ∀ {prog : Program} {w : World} {p : Program} {loose : List Str} {mean : ExcName → Option Value} {mg mb : Str → Option Value}
   (hpr : prog = PySem.Challenge.rw_nz0380_01.row.prog)
   {dp un : Nat} {gd : Option (List Code)} {a : Addr} {ccd : Value} {outer : List Env} {A₀ : Around} {base h₀ : Heap} {L : Addr} {m : Str → Option Value} {s : Shared} {Q : Flow → Shared → Prop} {E : Value → Shared → Prop}
   {c1 c2 c3 c4 fd ca cx cd ck cp ckn : Nat} {t1 t2 t3 : Tok} {ns : List Int} {gs : List Gate} {kf : Int} {news : List (Addr × Obj)}
   (B : Below A₀ base outer h₀) (F : Fr h₀ L s.heap m) (X : (hd.heap_39 w.params).In h₀) (T : Top p loose mean mg mb h₀) (N : News h₀ L s.heap news) (LB₀ : LB prog w news c3 c4 fd ca cx cd ck cp ckn t1 t2 t3 ns gs kf)
   (hdp : dp + 120 < recursionLimit) (hun : un + 1100 < cLine)
   (ret : ∀ (rx rd : Nat) t4 h' tk' news', Fr h₀ L h' (fun y => if y = Str.ofString "reading" then some (.ref rx) else m y) → News h₀ L h' news' → LB prog w news' c3 c4 fd ca cx cd ck cp ckn t1 t2 t3 ns gs kf →
      (rx, instObj 155 rd) ∈ news' → (rd, rDict w cx t4) ∈ news' → (rx ≠ fd ∧ rd ≠ fd) →
      (∀ p ∈ news, p ∈ news') → Q .next { s with heap := h', toks := tk' }),
   wpAny (model prog w) (ktrTop dp un gd (Str.ofString "law") lawScope L a ccd (lawCells c1 c2 c3 c4) outer) (exec (lawSt 10) (envX (Str.ofString "law") lawScope L a ccd (lawCells c1 c2 c3 c4))) Q E s := by
  w_top off
  k_with_none
  k_with "call ref" => (k_here; (with_reducible show wpAny _ _ (call (Value.ref 155) _ _) _ _ _); k_dflt (refine' reading_ok (by assumption) (by k_asm) (by k_asm) (by k_asm) (by k_asm) (by exact rfl) (by k_asm) (by ktr_room) (by ktr_units) ?_); intro rx9zq rd9zq t9zq h9zq tk9zq F9zq N9zq off9zq)
  k_fill
  intro prog w p loose mean mg mb hp dp un gd a ccd outer A₀ base h₀ L m s Q E c1 c2 c3 c4 fd ca cx cd ck cp ckn t1 t2 t3 ns gs kf news B F X T N LB₀ hdp hun ret
  (generalize e2 : lawScope = sc9; conv at e2 => lhs; whnf); dsimp only at e2; subst e2
  generalize e1 : lawSt 10 = st9
  conv at e1 => lhs; whnf
  subst e1
  obtain ⟨o3, m3, d3⟩ := LB₀.h3
  obtain ⟨of, tt, mf, df⟩ := LB₀.hf
  k_steps
  (with_reducible rename ∀ p ∈ news, p.1 ≠ _ ∧ p.1 ≠ _ => off9)
  with_reducible rename Fr h₀ L _ _ => kF9
  with_reducible rename News h₀ L _ _ => kN9
  exact ret _ _ _ _ _ _ kF9 kN9 (LB₀.mono fun p hp => .tail _ (.tail _ hp)) (.head _) (.tail _ (.head _)) ⟨Ne.symm (off9 _ mf).1, Ne.symm (off9 _ mf).2⟩ fun p hp => .tail _ (.tail _ hp)
end

end Mine
end

section
open PySem PySem.W PyProof.Rows PySem.Calls
namespace Mine
set_option maxRecDepth 100000
set_option maxHeartbeats 8000000
open LCg LCt
theorem value_T {prog : Program} {w : World} {p : Program} {loose : List Str} {mean : ExcName → Option Value} {mg mb : Str → Option Value}
   (hpr : prog = PySem.Challenge.rw_nz0380_01.row.prog)
   {dp un : Nat} {gd : Option (List Code)} {cn : Str} {cs : Scope} {a : Addr} {ccd : Value} {cl : List (Str × Addr)} {outer : List Env} {A₀ : Around} {base h₀ : Heap} {L : Addr} {m : Str → Option Value} {s : Shared} {Q E : Value → Shared → Prop}
   {c3 c4 fd ca cx cd ck cp ckn rx rd di : Nat} {t1 t2 t3 t4 tg : Tok} {ns : List Int} {gs : List Gate} {kf : Int} {n R row : Nat} {g Tt : Int} {b : Bool} {od : Obj} {kvs : List (Int × Value)} {news : List (Addr × Obj)}
   (B : Below A₀ base outer h₀) (F : Fr h₀ L s.heap m) (X : (hd.heap_39 w.params).In h₀) (T : Top p loose mean mg mb h₀) (hk : cs.kind = .function) (N : News h₀ L s.heap news) (LB₀ : LB prog w news c3 c4 fd ca cx cd ck cp ckn t1 t2 t3 ns gs kf)
   (hr1 : (rx, instObj 155 rd) ∈ news) (hr2 : (rd, rDict w cx t4) ∈ news) (hdi : (di, od) ∈ news) (hd : od.IsDictOf (PySem.intKind prog w) kvs) (hlo : (di == sysModules) = false) (hbs : ∀ kv ∈ kvs, ∃ b, kv.2 = .bool b)
   (hsig : sig kvs = bitv n row) (G : Good n R gs g Tt) (hrow : row < R) (hb : tb Tt row = b) (hz : gs.length ≤ 9000)
   (hdp : dp + 80 < recursionLimit) (hun : un + 700 < cLine)
   (ret : ∀ h' tk', Fr h₀ L h' m → News h₀ L h' news → Q (.bool b) { s with heap := h', toks := tk' }) :
   wpAny (model prog w) (ktrTop dp un gd cn cs L a ccd cl outer) (call (.ref 152) [.ref rx, .int g tg, .ref di]) Q E s :=
  value_of_ok hpr B F X T hk N (LB₀.C.base N) (N _ hr1).1 (N _ hr2).1 (Heap.dictOf_iff.mpr ⟨_, (N _ hdi).1, hd⟩) hlo hbs hz G.ok hdp hun fun h' tk' F' N' => by
    rw [hsig, G.val row hrow, hb]
    exact ret h' tk' F' N'
theorem tab_bit {R : Nat} {T : Int} (h : Tab R T) (i : Nat) : (T.fdiv (2 ^ ((i : Int).toNat))).fmod 2 = if tb T i then 1 else 0 := by
  obtain ⟨a, rfl, _⟩ := h.nat
  exact bit_fact a i
def RJ (news₀ : List (Addr × Obj)) (m₀ : Str → Option Value) (i : Nat) (m₁ : Str → Option Value) (nw : List (Addr × Obj)) : Prop :=
  (∀ y, y ≠ Str.ofString "row" → y ≠ Str.ofString "told" → m₁ y = m₀ y) ∧ ∀ p ∈ news₀, p ∈ nw
theorem rj_end {news₀ nw nwf : List (Addr × Obj)} {m₀ m' : Str → Option Value} {i : Nat} {h₀ h : Heap} {L : Addr} {I : Nat} {oI : Obj} {s : Shared} {tk : Nat}
    (F : Fr h₀ L h m') (N : News h₀ L h nwf) (hI : (I, oI) ∈ nwf) (hI₀ : ∀ p ∈ nw, p.1 ≠ I) (hm : ∀ y, y ≠ Str.ofString "row" → y ≠ Str.ofString "told" → m' y = m₀ y) (h0 : ∀ p ∈ news₀, p ∈ nw) (hk : ∀ p ∈ nw, p ∈ nwf) :
    ∃ h' tk' m₂ news', ({ s with heap := h, toks := tk } : Shared) = { s with heap := h', toks := tk' } ∧ Fr h₀ L h' m₂ ∧ News h₀ L h' ((I, oI) :: news') ∧ (∀ p ∈ news', p.1 ≠ I) ∧ RJ news₀ m₀ (i + 1) m₂ news' := by
  refine ⟨h, tk, m', nw, rfl, F, fun p hp => ?_, hI₀, hm, h0⟩
  rcases List.mem_cons.mp hp with rfl | hp
  · exact N _ hI
  · exact N p (hk p hp)
section
local macro_rules | `(tactic| k_mem) => `(tactic| first | assumption | exact List.mem_cons_self | (refine List.mem_cons_of_mem _ ?_; assumption) | (refine List.mem_cons_of_mem _ (List.mem_cons_of_mem _ ?_); assumption) | (refine List.mem_cons_of_mem _ (List.mem_cons_of_mem _ (List.mem_cons_of_mem _ ?_)); assumption))
theorem stage11 : ∀ {prog : Program} {w : World} {p : Program} {loose : List Str} {mean : ExcName → Option Value} {mg mb : Str → Option Value}
   (hpr : prog = PySem.Challenge.rw_nz0380_01.row.prog)
   {dp un : Nat} {gd : Option (List Code)} {a : Addr} {ccd : Value} {outer : List Env} {A₀ : Around} {base h₀ : Heap} {L : Addr} {m : Str → Option Value} {s : Shared} {Q : Flow → Shared → Prop} {E : Value → Shared → Prop}
   {c1 c2 c3 c4 fd ca cx cd ck cp ckn : Nat} {t1 t2 t3 : Tok} {ns : List Int} {gs : List Gate} {kf : Int} {news : List (Addr × Obj)} {o1 o2 : Obj} {R ia n cc af rx rd : Nat} {tR k1 k2 t4 : Tok} {vs : List Value} {g Tt : Int}
   (B : Below A₀ base outer h₀) (F : Fr h₀ L s.heap m) (X : (hd.heap_39 w.params).In h₀) (T : Top p loose mean mg mb h₀) (N : News h₀ L s.heap news) (LB₀ : LB prog w news c3 c4 fd ca cx cd ck cp ckn t1 t2 t3 ns gs kf) (h1 : (c1, o1) ∈ news) (d1 : o1.data = .cell (some (.int (R : Int) tR))) (hR : R ≤ 16)
   (h2 : (c2, o2) ∈ news) (d2 : o2.data = .cell (some (.ref ia))) (hia : (ia, PySem.W.listOf vs.toArray cc) ∈ news) (hvs : IntsAre vs ((List.range n).map fun i => ((i + 2 : Nat) : Int))) (hn : n ≤ 4)
   (hrx : (rx, instObj 155 rd) ∈ news) (hrd : (rd, rDict w cx t4) ∈ news) (mR : m (Str.ofString "reading") = some (.ref rx)) (mV : m (Str.ofString "first") = some (.ref af)) (haf : (af, tupOf #[.int g k1, .int Tt k2]) ∈ news) (G : Good n R gs g Tt)
   (hgz : gs.length ≤ 9000) (hE : PassesOwn (model prog w) (ktrTop dp un gd (Str.ofString "law") lawScope L a ccd (lawCells c1 c2 c3 c4) outer) (envX (Str.ofString "law") lawScope L a ccd (lawCells c1 c2 c3 c4)) E)
   (hdp : dp + 120 < recursionLimit) (hun : un + 1100 < cLine)
   (ret : ∀ m' h' tk' news', Fr h₀ L h' m' → News h₀ L h' news' → (∀ y, y ≠ Str.ofString "row" → y ≠ Str.ofString "told" → m' y = m y) →
      (∀ p ∈ news, p ∈ news') → Q .next { s with heap := h', toks := tk' }),
   wpAny (model prog w) (ktrTop dp un gd (Str.ofString "law") lawScope L a ccd (lawCells c1 c2 c3 c4) outer) (exec (lawSt 11) (envX (Str.ofString "law") lawScope L a ccd (lawCells c1 c2 c3 c4))) Q E s := by
  w_top off
  k_with_none
  k_with "eval Name" => (k_here; (with_reducible show wpAny _ _ (eval (Expr.Name _ _) (envX _ _ _ _ _ _)) _ _ _); k_dflt (refine' nameX_L (by k_asm) (by first | assumption | ((repeat (refine (if_neg (by decide)).trans ?_)); first | assumption | exact if_pos rfl)) ?_ (by rfl) (by rfl) (by decide)))
  k_with "RangePost" => (refine stopI ?_)
  k_with "pyIter ref" => (k_here; refine stopI ?_)
  k_with "exec For Name Call cons nil" => (k_here; (rename Fr _ _ _ _ => lF'zq); (with_unfolding_all refine' For_invVF lF'zq (by exact rfl) (by exact rfl) ?_ (by intro xzq; rfl) (by assumption); k_whole))
  k_with "call ref" => (k_here; (with_reducible show wpAny _ _ (call (Value.ref 180) _ _) _ _ _); k_dflt (refine' law_told_ok (by assumption) (by k_asm) (by k_asm) (by k_asm) (by k_asm) (by exact rfl) (by k_asm) (by k_mem) (by assumption) (by assumption) (by omega) (by ktr_room) (by ktr_units) ?_); intro di9zq od9zq kvs9zq h9zq tk9zq F9zq N9zq hd9zq hb9zq lo9zq sg9zq)
  k_with "call ref" => (k_here; (with_reducible show wpAny _ _ (call (Value.ref 152) _ _) _ _ _); k_dflt (refine' value_T (by assumption) (by k_asm) (by k_asm) (by k_asm) (by k_asm) (by exact rfl) (by k_asm) (by first | assumption | (refine LB.mono (by assumption) ?_; intro p9zq hp9zq; first | exact .tail _ hp9zq | exact .tail _ (.tail _ hp9zq))) (by k_mem) (by k_mem) (by k_mem) (by assumption) (by assumption) (by assumption) (by assumption) (by assumption) (by assumption) (by assumption) (by omega) (by ktr_room) (by ktr_units) ?_); intro h9zq tk9zq F9zq N9zq)
  k_with "binaryOp FloorDiv int int" => (k_here; (with_reducible refine floordiv_int (by exact Int.ne_of_gt (pow_pos_of (by decide) _)) ?_ (Or.inl (PyProof.noPylong_of_log2 (by exact kbt_py (by omega))))))
  k_with "binaryOp Pow int int" => (k_here; (with_reducible refine pow_int_small (by omega) (by omega) (by decide) ?_))
  k_fill
  intro prog w p loose mean mg mb hp dp un gd a ccd outer A₀ base h₀ L m s Q E c1 c2 c3 c4 fd ca cx cd ck cp ckn t1 t2 t3 ns gs kf news o1 o2 R ia n cc af rx rd tR k1 k2 t4 vs g Tt B F X T N LB₀ h1 d1 hR h2 d2 hia hvs hn hrx hrd mR mV haf G hgz hE hdp hun ret
  revert hE
  (generalize e2 : lawScope = sc9; conv at e2 => lhs; whnf); dsimp only at e2; subst e2
  intro hE
  generalize e1 : lawSt 11 = st9
  conv at e1 => lhs; whnf
  subst e1
  k_steps
  unfold Stop
  (with_reducible rename IsRange _ _ _ _ _ _ _ _ => R1)
  (with_reducible rename Fr h₀ L _ _ => F1)
  (with_reducible rename News h₀ L _ _ => N1)
  refine iter_range (J := RJ news m) (by exact rfl) R1 (small_n (by omega)) F1 N1 ⟨fun y _ _ => rfl, fun p hp => hp⟩ ?_ ?_
  · rintro i t m₁ nw h tk I oI hi ⟨hm, Hk⟩ F2 N2 hcI hneI
    have LBi : LB prog w ((I, oI) :: nw) c3 c4 fd ca cx cd ck cp ckn t1 t2 t3 ns gs kf := LB₀.mono fun p hp => .tail _ (Hk p hp)
    have m2 : (c2, o2) ∈ (I, oI) :: nw := .tail _ (Hk _ h2)
    have mia : (ia, PySem.W.listOf vs.toArray cc) ∈ (I, oI) :: nw := .tail _ (Hk _ hia)
    have mrx : (rx, instObj 155 rd) ∈ (I, oI) :: nw := .tail _ (Hk _ hrx)
    have mrd : (rd, rDict w cx t4) ∈ (I, oI) :: nw := .tail _ (Hk _ hrd)
    have maf : (af, tupOf #[.int g k1, .int Tt k2]) ∈ (I, oI) :: nw := .tail _ (Hk _ haf)
    have nR : m₁ (Str.ofString "reading") = some (.ref rx) := (hm _ (by decide) (by decide)).trans mR
    have nV : m₁ (Str.ofString "first") = some (.ref af) := (hm _ (by decide) (by decide)).trans mV
    have hbit := tab_bit G.tab i
    have hi16 : i < 65536 := by omega
    change Fr h₀ L h _ at F2
    change News h₀ L h _ at N2
    cases hb : tb Tt i with
    | true =>
      simp only [hb, if_true, Bool.false_eq_true, if_false] at hbit
      k_steps
      · exfalso
        (with_reducible rename (_ != _) = true => ax)
        rw [hbit] at ax
        simp at ax
      · unfold Stop
        (with_reducible rename Fr h₀ L _ _ => F9)
        (with_reducible rename News h₀ L _ _ => N9)
        exact rj_end F9 N9 (by k_mem) hneI (fun y a b => by rw [if_neg b, if_neg a, hm y a b]) Hk (fun p hp => .tail _ (.tail _ hp))
    | false =>
      simp only [hb, if_true, Bool.false_eq_true, if_false] at hbit
      k_steps
      · exfalso
        (with_reducible rename (_ != _) = true => ax)
        rw [hbit] at ax
        simp at ax
      · unfold Stop
        (with_reducible rename Fr h₀ L _ _ => F9)
        (with_reducible rename News h₀ L _ _ => N9)
        exact rj_end F9 N9 (by k_mem) hneI (fun y a b => by rw [if_neg b, if_neg a, hm y a b]) Hk (fun p hp => .tail _ (.tail _ hp))
  · rintro m₁ nw h tk ⟨hm, Hk⟩ F2 N2
    exact ret m₁ h tk nw F2 N2 hm Hk
end

end Mine
end

section
open PySem PySem.W PyProof.Rows PySem.Calls
namespace Mine
set_option maxRecDepth 100000
set_option maxHeartbeats 8000000
open LCg LCt
section
local macro_rules | `(tactic| k_mem) => `(tactic| first | assumption | exact List.mem_cons_self | (refine List.mem_cons_of_mem _ ?_; assumption) | (refine List.mem_cons_of_mem _ (List.mem_cons_of_mem _ ?_); assumption) | (refine List.mem_cons_of_mem _ (List.mem_cons_of_mem _ (List.mem_cons_of_mem _ ?_)); assumption))
section
theorem stage12 : ∀ {prog : Program} {w : World} {p : Program} {loose : List Str} {mean : ExcName → Option Value} {mg mb : Str → Option Value}
   (hpr : prog = PySem.Challenge.rw_nz0380_01.row.prog)
   {dp un : Nat} {gd : Option (List Code)} {a : Addr} {ccd : Value} {outer : List Env} {A₀ : Around} {base h₀ : Heap} {L : Addr} {m : Str → Option Value} {s : Shared} {Q : Flow → Shared → Prop} {E : Value → Shared → Prop}
   {c1 c2 c3 c4 fd ca cx cd ck cp ckn : Nat} {t1 t2 t3 : Tok} {ns : List Int} {gs : List Gate} {kf : Int} {news : List (Addr × Obj)} {o1 : Obj} {R : Nat} {tR : Tok}
   (B : Below A₀ base outer h₀) (F : Fr h₀ L s.heap m) (X : (hd.heap_39 w.params).In h₀) (T : Top p loose mean mg mb h₀) (N : News h₀ L s.heap news) (LB₀ : LB prog w news c3 c4 fd ca cx cd ck cp ckn t1 t2 t3 ns gs kf) (h1 : (c1, o1) ∈ news) (d1 : o1.data = .cell (some (.int (R : Int) tR))) (hR0 : 0 < R) (hR : R ≤ 16) (hf1 : c1 ≠ fd) (hkf : kf ≤ 100)
   (hdp : dp + 120 < recursionLimit) (hun : un + 1100 < cLine)
   (ret : ∀ (r1 r2 : Nat) m' u1 u2 h' tk' news', r1 < R → r2 < R → Fr h₀ L h' m' → News h₀ L h' news' → LB prog w news' c3 c4 fd ca cx cd ck cp ckn t1 t2 t3 ns gs (kf + 1 + 1) →
      m' (Str.ofString "row") = some (.int (r1 : Int) u1) → m' (Str.ofString "late") = some (.int (r2 : Int) u2) → (∀ y, y ≠ Str.ofString "row" → y ≠ Str.ofString "late" → m' y = m y) →
      (∀ p ∈ news, p.1 ≠ fd → p ∈ news') → Q .next { s with heap := h', toks := tk' }),
   wpAny (model prog w) (ktrTop dp un gd (Str.ofString "law") lawScope L a ccd (lawCells c1 c2 c3 c4) outer) (exec (lawSt 12) (envX (Str.ofString "law") lawScope L a ccd (lawCells c1 c2 c3 c4))) Q E s := by
  w_top off
  k_with_none
  k_with "eval Name" => (k_here; (with_reducible show wpAny _ _ (eval (Expr.Name _ _) (envX _ _ _ _ _ _)) _ _ _); k_dflt (refine' nameX_L (by k_asm) (by first | assumption | ((repeat (refine (if_neg (by decide)).trans ?_)); first | assumption | exact if_pos rfl)) ?_ (by rfl) (by rfl) (by decide)))
  k_with "call ref" => (k_here; (with_reducible show wpAny _ _ (call (Value.ref 180) _ _) _ _ _); k_dflt (refine' law_told_ok (by assumption) (by k_asm) (by k_asm) (by k_asm) (by k_asm) (by exact rfl) (by k_asm) (by k_mem) (by assumption) (by assumption) (by omega) (by ktr_room) (by ktr_units) ?_); intro di9zq od9zq kvs9zq h9zq tk9zq F9zq N9zq hd9zq hb9zq lo9zq sg9zq)
  k_with "call ref" => (k_here; (with_reducible show wpAny _ _ (call (Value.ref 152) _ _) _ _ _); k_dflt (refine' value_T (by assumption) (by k_asm) (by k_asm) (by k_asm) (by k_asm) (by exact rfl) (by k_asm) (by first | assumption | (refine LB.mono (by assumption) ?_; intro p9zq hp9zq; first | exact .tail _ hp9zq | exact .tail _ (.tail _ hp9zq))) (by k_mem) (by k_mem) (by k_mem) (by assumption) (by assumption) (by assumption) (by assumption) (by assumption) (by assumption) (by assumption) (by omega) (by ktr_room) (by ktr_units) ?_); intro h9zq tk9zq F9zq N9zq)
  k_with "binaryOp FloorDiv int int" => (k_here; (with_reducible refine floordiv_int (by exact Int.ne_of_gt (pow_pos_of (by decide) _)) ?_ (Or.inl (PyProof.noPylong_of_log2 (by exact kbt_py (by omega))))))
  k_with "binaryOp Pow int int" => (k_here; (with_reducible refine pow_int_small (by omega) (by omega) (by decide) ?_))
  k_with "call ref" => (k_here; (with_reducible show wpAny _ _ (call (Value.ref 166) _ _) _ _ _); k_dflt (refine' law_next_L0 (by assumption) (by k_asm) (by k_asm) (by k_asm) (by k_asm) (by exact rfl) (by k_asm) (by assumption) (by omega) (by omega) (by omega) (by ktr_room) (by ktr_units) (stopI ?_)))
  k_fill
  intro prog w p loose mean mg mb hp dp un gd a ccd outer A₀ base h₀ L m s Q E c1 c2 c3 c4 fd ca cx cd ck cp ckn t1 t2 t3 ns gs kf news o1 R tR B F X T N LB₀ h1 d1 hR0 hR hf1 hkf hdp hun ret
  (generalize e2 : lawScope = sc9; conv at e2 => lhs; whnf); dsimp only at e2; subst e2
  generalize e1 : lawSt 12 = st9
  conv at e1 => lhs; whnf
  subst e1
  obtain ⟨o4, m4, d4⟩ := LB₀.h4
  k_steps
  unfold Stop
  intro v1 tv1 h9 tk9 news1 F1 N1 LB1 K1 v10 v11
  have m1 : (c1, o1) ∈ news1 := K1 _ h1 hf1
  obtain ⟨o5, m5, d5⟩ := LB1.h4
  k_steps
  unfold Stop
  intro v2 tv2 h8 tk8 news2 F2 N2 LB2 K2 v20 v21
  have m1' : (c1, o1) ∈ news2 := K2 _ m1 hf1
  k_steps
  (with_reducible rename Fr h₀ L _ _ => F9)
  (with_reducible rename News h₀ L _ _ => N9)
  obtain ⟨r1, e1⟩ : ∃ r : Nat, v1 = (r : Int) := ⟨_, (Int.toNat_of_nonneg v10).symm⟩
  obtain ⟨r2, e2⟩ : ∃ r : Nat, v2 = (r : Int) := ⟨_, (Int.toNat_of_nonneg v20).symm⟩
  subst e1 e2
  refine ret r1 r2 _ _ _ _ _ _ (by omega) (by omega) F9 N9 (LB2.mono fun p hp => ?_) (by (repeat (refine (if_neg (by decide)).trans ?_)); exact if_pos rfl) (by (repeat (refine (if_neg (by decide)).trans ?_)); exact if_pos rfl) (fun y a b => ?_) (fun p hp hne => ?_)
  · first | exact hp | exact .tail _ hp
  · first | rw [if_neg a, if_neg b] | rw [if_neg b, if_neg a]
  · have := K2 p (K1 p hp hne) hne
    first | exact this | exact .tail _ this
end
theorem stage13 : ∀ {prog : Program} {w : World} {p : Program} {loose : List Str} {mean : ExcName → Option Value} {mg mb : Str → Option Value}
   (hpr : prog = PySem.Challenge.rw_nz0380_01.row.prog)
   {dp un : Nat} {gd : Option (List Code)} {a : Addr} {ccd : Value} {outer : List Env} {A₀ : Around} {base h₀ : Heap} {L : Addr} {m : Str → Option Value} {s : Shared} {Q : Flow → Shared → Prop} {E : Value → Shared → Prop}
   {c1 c2 c3 c4 fd ca cx cd ck cp ckn : Nat} {t1 t2 t3 : Tok} {ns : List Int} {gs : List Gate} {kf : Int} {news : List (Addr × Obj)} {o2 : Obj} {R ia n cc ah rx rd row : Nat} {k1 k2 t4 u1 : Tok} {vs : List Value} {g Tt : Int} {b : Bool}
   (B : Below A₀ base outer h₀) (F : Fr h₀ L s.heap m) (X : (hd.heap_39 w.params).In h₀) (T : Top p loose mean mg mb h₀) (N : News h₀ L s.heap news) (LB₀ : LB prog w news c3 c4 fd ca cx cd ck cp ckn t1 t2 t3 ns gs kf) (h2 : (c2, o2) ∈ news) (d2 : o2.data = .cell (some (.ref ia))) (hia : (ia, PySem.W.listOf vs.toArray cc) ∈ news) (hvs : IntsAre vs ((List.range n).map fun i => ((i + 2 : Nat) : Int))) (hn : n ≤ 4)
   (hrx : (rx, instObj 155 rd) ∈ news) (hrd : (rd, rDict w cx t4) ∈ news) (mR : m (Str.ofString "reading") = some (.ref rx)) (mV : m (Str.ofString "here") = some (.ref ah)) (hah : (ah, tupOf #[.int g k1, .int Tt k2]) ∈ news) (G : Good n R gs g Tt)
   (mrow : m (Str.ofString "row") = some (.int (row : Int) u1)) (hrow : row < R) (hr16 : row < 65536) (hb : tb Tt row = b)
   (hgz : gs.length ≤ 9000)
   (hdp : dp + 120 < recursionLimit) (hun : un + 1100 < cLine)
   (ret : ∀ m' h' tk' news', Fr h₀ L h' m' → News h₀ L h' news' → m' (Str.ofString "told") = some (.bool b) → (∀ y, y ≠ Str.ofString "told" → m' y = m y) →
      (∀ p ∈ news, p ∈ news') → Q .next { s with heap := h', toks := tk' }),
   wpAny (model prog w) (ktrTop dp un gd (Str.ofString "law") lawScope L a ccd (lawCells c1 c2 c3 c4) outer) (exec (lawSt 13) (envX (Str.ofString "law") lawScope L a ccd (lawCells c1 c2 c3 c4))) Q E s := by
  w_top off
  k_with_none
  k_with "eval Name" => (k_here; (with_reducible show wpAny _ _ (eval (Expr.Name _ _) (envX _ _ _ _ _ _)) _ _ _); k_dflt (refine' nameX_L (by k_asm) (by first | assumption | ((repeat (refine (if_neg (by decide)).trans ?_)); first | assumption | exact if_pos rfl)) ?_ (by rfl) (by rfl) (by decide)))
  k_with "call ref" => (k_here; (with_reducible show wpAny _ _ (call (Value.ref 180) _ _) _ _ _); k_dflt (refine' law_told_ok (by assumption) (by k_asm) (by k_asm) (by k_asm) (by k_asm) (by exact rfl) (by k_asm) (by k_mem) (by assumption) (by assumption) (by omega) (by ktr_room) (by ktr_units) ?_); intro di9zq od9zq kvs9zq h9zq tk9zq F9zq N9zq hd9zq hb9zq lo9zq sg9zq)
  k_with "call ref" => (k_here; (with_reducible show wpAny _ _ (call (Value.ref 152) _ _) _ _ _); k_dflt (refine' value_T (by assumption) (by k_asm) (by k_asm) (by k_asm) (by k_asm) (by exact rfl) (by k_asm) (by first | assumption | (refine LB.mono (by assumption) ?_; intro p9zq hp9zq; first | exact .tail _ hp9zq | exact .tail _ (.tail _ hp9zq))) (by k_mem) (by k_mem) (by k_mem) (by assumption) (by assumption) (by assumption) (by assumption) (by assumption) (by assumption) (by assumption) (by omega) (by ktr_room) (by ktr_units) ?_); intro h9zq tk9zq F9zq N9zq)
  k_with "binaryOp FloorDiv int int" => (k_here; (with_reducible refine floordiv_int (by exact Int.ne_of_gt (pow_pos_of (by decide) _)) ?_ (Or.inl (PyProof.noPylong_of_log2 (by exact kbt_py (by omega))))))
  k_with "binaryOp Pow int int" => (k_here; (with_reducible refine pow_int_small (by omega) (by omega) (by decide) ?_))
  k_fill
  intro prog w p loose mean mg mb hp dp un gd a ccd outer A₀ base h₀ L m s Q E c1 c2 c3 c4 fd ca cx cd ck cp ckn t1 t2 t3 ns gs kf news o2 R ia n cc ah rx rd row k1 k2 t4 u1 vs g Tt b  B F X T N LB₀ h2 d2 hia hvs hn hrx hrd mR mV hah G mrow hrow hr16 hb hgz hdp hun ret
  (generalize e2 : lawScope = sc9; conv at e2 => lhs; whnf); dsimp only at e2; subst e2
  generalize e1 : lawSt 13 = st9
  conv at e1 => lhs; whnf
  subst e1
  k_steps
  (with_reducible rename Fr h₀ L _ _ => F9)
  (with_reducible rename News h₀ L _ _ => N9)
  refine ret _ _ _ _ F9 N9 (if_pos rfl) (fun y a => if_neg a) fun p hp => ?_
  first | exact .tail _ hp | exact .tail _ (.tail _ hp)
theorem stage14 : ∀ {prog : Program} {w : World} {p : Program} {loose : List Str} {mean : ExcName → Option Value} {mg mb : Str → Option Value}
   (hpr : prog = PySem.Challenge.rw_nz0380_01.row.prog)
   {dp un : Nat} {gd : Option (List Code)} {a : Addr} {ccd : Value} {outer : List Env} {A₀ : Around} {base h₀ : Heap} {L : Addr} {m : Str → Option Value} {s : Shared} {Q : Flow → Shared → Prop} {E : Value → Shared → Prop}
   {c1 c2 c3 c4 fd ca cx cd ck cp ckn : Nat} {t1 t2 t3 : Tok} {ns : List Int} {gs : List Gate} {kf : Int} {news : List (Addr × Obj)} {o2 : Obj} {R ia n cc ah rx rd row : Nat} {k1 k2 t4 u1 : Tok} {vs : List Value} {g Tt full : Int} {b : Bool}
   (B : Below A₀ base outer h₀) (F : Fr h₀ L s.heap m) (X : (hd.heap_39 w.params).In h₀) (T : Top p loose mean mg mb h₀) (N : News h₀ L s.heap news) (LB₀ : LB prog w news c3 c4 fd ca cx cd ck cp ckn t1 t2 t3 ns gs kf) (h2 : (c2, o2) ∈ news) (d2 : o2.data = .cell (some (.ref ia))) (hia : (ia, PySem.W.listOf vs.toArray cc) ∈ news) (hvs : IntsAre vs ((List.range n).map fun i => ((i + 2 : Nat) : Int))) (hn : n ≤ 4)
   (hrx : (rx, instObj 155 rd) ∈ news) (hrd : (rd, rDict w cx t4) ∈ news) (mR : m (Str.ofString "reading") = some (.ref rx)) (mV : m (Str.ofString "here") = some (.ref ah)) (hah : (ah, tupOf #[.int g k1, .int Tt k2]) ∈ news) (G : Good n R gs (0 - g) (full - Tt))
   (mrow : m (Str.ofString "late") = some (.int (row : Int) u1)) (hrow : row < R) (hr16 : row < 65536) (hb : tb (full - Tt) row = b)
   (hgz : gs.length ≤ 9000)
   (hdp : dp + 120 < recursionLimit) (hun : un + 1100 < cLine)
   (ret : ∀ m' h' tk' news', Fr h₀ L h' m' → News h₀ L h' news' → m' (Str.ofString "denied") = some (.bool b) → (∀ y, y ≠ Str.ofString "denied" → m' y = m y) →
      (∀ p ∈ news, p ∈ news') → Q .next { s with heap := h', toks := tk' }),
   wpAny (model prog w) (ktrTop dp un gd (Str.ofString "law") lawScope L a ccd (lawCells c1 c2 c3 c4) outer) (exec (lawSt 14) (envX (Str.ofString "law") lawScope L a ccd (lawCells c1 c2 c3 c4))) Q E s := by
  w_top off
  k_with_none
  k_with "eval Name" => (k_here; (with_reducible show wpAny _ _ (eval (Expr.Name _ _) (envX _ _ _ _ _ _)) _ _ _); k_dflt (refine' nameX_L (by k_asm) (by first | assumption | ((repeat (refine (if_neg (by decide)).trans ?_)); first | assumption | exact if_pos rfl)) ?_ (by rfl) (by rfl) (by decide)))
  k_with "call ref" => (k_here; (with_reducible show wpAny _ _ (call (Value.ref 180) _ _) _ _ _); k_dflt (refine' law_told_ok (by assumption) (by k_asm) (by k_asm) (by k_asm) (by k_asm) (by exact rfl) (by k_asm) (by k_mem) (by assumption) (by assumption) (by omega) (by ktr_room) (by ktr_units) ?_); intro di9zq od9zq kvs9zq h9zq tk9zq F9zq N9zq hd9zq hb9zq lo9zq sg9zq)
  k_with "call ref" => (k_here; (with_reducible show wpAny _ _ (call (Value.ref 152) _ _) _ _ _); k_dflt (refine' value_T (by assumption) (by k_asm) (by k_asm) (by k_asm) (by k_asm) (by exact rfl) (by k_asm) (by first | assumption | (refine LB.mono (by assumption) ?_; intro p9zq hp9zq; first | exact .tail _ hp9zq | exact .tail _ (.tail _ hp9zq))) (by k_mem) (by k_mem) (by k_mem) (by assumption) (by assumption) (by assumption) (by assumption) (by assumption) (by assumption) (by assumption) (by omega) (by ktr_room) (by ktr_units) ?_); intro h9zq tk9zq F9zq N9zq)
  k_with "binaryOp FloorDiv int int" => (k_here; (with_reducible refine floordiv_int (by exact Int.ne_of_gt (pow_pos_of (by decide) _)) ?_ (Or.inl (PyProof.noPylong_of_log2 (by exact kbt_py (by omega))))))
  k_with "binaryOp Pow int int" => (k_here; (with_reducible refine pow_int_small (by omega) (by omega) (by decide) ?_))
  k_fill
  intro prog w p loose mean mg mb hp dp un gd a ccd outer A₀ base h₀ L m s Q E c1 c2 c3 c4 fd ca cx cd ck cp ckn t1 t2 t3 ns gs kf news o2 R ia n cc ah rx rd row k1 k2 t4 u1 vs g Tt full b  B F X T N LB₀ h2 d2 hia hvs hn hrx hrd mR mV hah G mrow hrow hr16 hb hgz hdp hun ret
  (generalize e2 : lawScope = sc9; conv at e2 => lhs; whnf); dsimp only at e2; subst e2
  generalize e1 : lawSt 14 = st9
  conv at e1 => lhs; whnf
  subst e1
  k_steps
  (with_reducible rename Fr h₀ L _ _ => F9)
  (with_reducible rename News h₀ L _ _ => N9)
  refine ret _ _ _ _ F9 N9 (if_pos rfl) (fun y a => if_neg a) fun p hp => ?_
  first | exact .tail _ hp | exact .tail _ (.tail _ hp)
theorem repr_two {prog : Program} {w : World} {A : Around} {E : Value → Shared → Prop} {s : Shared} {h₀ : Heap} {L : Addr} {m : Str → Option Value} {news : List (Addr × Obj)} {a : Nat} {x y : Bool} {its : Array Value} {c : Nat} {Q : Value → Shared → Prop}
    (F : Fr h₀ L s.heap m) (N : News h₀ L s.heap news) (hm : (a, PySem.W.listOf its c) ∈ news) (hl : its.toList = [.bool x, .bool y]) (hg : A.guards = some []) (hu : A.units + 5 < cLine)
    (h : ∀ h' u tk, Fr h₀ L h' m → News h₀ L h' news → Q (.str (PyData.list [.bool x, .bool y]).shown u) { s with heap := h', toks := tk }) : wpAny (model prog w) A (call (.builtin "repr") [.ref a]) Q E s :=
  repr_HN F N (Reads.list (N _ hm).1 rfl rfl (by rw [hl]; exact .cons (.bool x) (.cons (.bool y) .nil))) (by rfl) (by cases x <;> cases y <;> rfl) hg (by have : (PyData.list [.bool x, .bool y]).depth ≤ 4 := (by cases x <;> cases y <;> decide); omega) h (by cases x <;> cases y <;> decide +kernel)
theorem stage15 : ∀ {prog : Program} {w : World} {p : Program} {loose : List Str} {mean : ExcName → Option Value} {mg mb : Str → Option Value}
   (hpr : prog = PySem.Challenge.rw_nz0380_01.row.prog)
   {dp un : Nat} {gd : Option (List Code)} {a : Addr} {ccd : Value} {outer : List Env} {A₀ : Around} {base h₀ : Heap} {L : Addr} {m : Str → Option Value} {s : Shared} {Q : Flow → Shared → Prop} {E : Value → Shared → Prop}
   {c1 c2 c3 c4 fd ca cx cd ck cp ckn : Nat} {t1 t2 t3 : Tok} {ns : List Int} {gs : List Gate} {kf : Int} {news : List (Addr × Obj)} {ah r1 r2 R : Nat} {k1 k2 u1 u2 : Tok} {g Tt : Int} {b1 b2 : Bool}
   (B : Below A₀ base outer h₀) (F : Fr h₀ L s.heap m) (X : (hd.heap_39 w.params).In h₀) (T : Top p loose mean mg mb h₀) (N : News h₀ L s.heap news) (LB₀ : LB prog w news c3 c4 fd ca cx cd ck cp ckn t1 t2 t3 ns gs kf) (hgd : gd = some []) (mV : m (Str.ofString "here") = some (.ref ah)) (hah : (ah, tupOf #[.int g k1, .int Tt k2]) ∈ news) (hT : Tab R Tt)
   (mr1 : m (Str.ofString "row") = some (.int (r1 : Int) u1)) (mr2 : m (Str.ofString "late") = some (.int (r2 : Int) u2)) (hr1 : r1 < 16) (hr2 : r2 < 16)
   (mb1 : m (Str.ofString "told") = some (.bool b1)) (mb2 : m (Str.ofString "denied") = some (.bool b2)) (e1 : tb Tt r1 = b1) (e2 : tb Tt r2 = !b2)
   (hdp : dp + 120 < recursionLimit) (hun : un + 1100 < cLine)
   (ret : ∀ m' h' tk', Fr h₀ L h' m' → Q (.ret (.bool true)) { s with heap := h', toks := tk' }),
   wpAny (model prog w) (ktrTop dp un gd (Str.ofString "law") lawScope L a ccd (lawCells c1 c2 c3 c4) outer) (exec (lawSt 15) (envX (Str.ofString "law") lawScope L a ccd (lawCells c1 c2 c3 c4))) Q E s := by
  w_top off
  k_with_none
  k_with "eval Name" => (k_here; (with_reducible show wpAny _ _ (eval (Expr.Name _ _) (envX _ _ _ _ _ _)) _ _ _); k_dflt (refine' nameX_L (by k_asm) (by first | assumption | ((repeat (refine (if_neg (by decide)).trans ?_)); first | assumption | exact if_pos rfl)) ?_ (by rfl) (by rfl) (by decide)))
  k_with "call ref" => (k_here; (with_reducible show wpAny _ _ (call (Value.ref 180) _ _) _ _ _); k_dflt (refine' law_told_ok (by assumption) (by k_asm) (by k_asm) (by k_asm) (by k_asm) (by exact rfl) (by k_asm) (by k_mem) (by assumption) (by assumption) (by omega) (by ktr_room) (by ktr_units) ?_); intro di9zq od9zq kvs9zq h9zq tk9zq F9zq N9zq hd9zq hb9zq lo9zq sg9zq)
  k_with "call ref" => (k_here; (with_reducible show wpAny _ _ (call (Value.ref 152) _ _) _ _ _); k_dflt (refine' value_T (by assumption) (by k_asm) (by k_asm) (by k_asm) (by k_asm) (by exact rfl) (by k_asm) (by first | assumption | (refine LB.mono (by assumption) ?_; intro p9zq hp9zq; first | exact .tail _ hp9zq | exact .tail _ (.tail _ hp9zq))) (by k_mem) (by k_mem) (by k_mem) (by assumption) (by assumption) (by assumption) (by assumption) (by assumption) (by assumption) (by assumption) (by omega) (by ktr_room) (by ktr_units) ?_); intro h9zq tk9zq F9zq N9zq)
  k_with "binaryOp FloorDiv int int" => (k_here; (with_reducible refine floordiv_int (by exact Int.ne_of_gt (pow_pos_of (by decide) _)) ?_ (Or.inl (PyProof.noPylong_of_log2 (by exact kbt_py (by omega))))))
  k_with "binaryOp Pow int int" => (k_here; (with_reducible refine pow_int_small (by omega) (by omega) (by decide) ?_))
  k_with "binaryOp FloorDiv int int" => (k_here; (with_reducible refine floordiv_int (by exact Int.ne_of_gt (pow_pos_of (by decide) _)) ?_ (Or.inl (PyProof.noPylong_of_log2 (by exact kbt_py (by omega))))))
  k_with "binaryOp Pow int int" => (k_here; (with_reducible refine pow_int_small (by omega) (by omega) (by decide) ?_))
  k_with "call builtin:repr" => (k_here; k_dflt (refine' repr_two (by k_asm) (by k_asm) (by k_mem) (by exact rfl) (by exact rfl) (by ktr_units) ?_); intro h9zq u9zq tk9zq F9zq N9zq)
  k_fill
  intro prog w p loose mean mg mb hp dp un gd a ccd outer A₀ base h₀ L m s Q E c1 c2 c3 c4 fd ca cx cd ck cp ckn t1 t2 t3 ns gs kf news ah r1 r2 R k1 k2 u1 u2 g Tt b1 b2 B F X T N LB₀ hgd mV hah hT mr1 mr2 hr1 hr2 mb1 mb2 e1 e2 hdp hun ret
  subst hgd
  (generalize e2 : lawScope = sc9; conv at e2 => lhs; whnf); dsimp only at e2; subst e2
  generalize e9 : lawSt 15 = st9
  conv at e9 => lhs; whnf
  subst e9
  k_steps
  have f1 := tab_bit hT r1
  have f2 := tab_bit hT r2
  rw [e1] at f1
  rw [e2] at f2
  rw [f1, f2]
  (with_reducible rename Fr h₀ L _ _ => F9)
  have fin := fun tk => ret _ _ tk F9
  cases b1 <;> cases b2 <;> exact fin _
end

end Mine
end

section
open PySem PySem.W PyProof.Rows PySem.Calls
namespace Mine
set_option maxRecDepth 100000
set_option maxHeartbeats 8000000
open LCg LCt
theorem law_tail : ∀ {prog : Program} {w : World} {p : Program} {loose : List Str} {mean : ExcName → Option Value} {mg mb : Str → Option Value}
   (hpr : prog = PySem.Challenge.rw_nz0380_01.row.prog)
   {dp un : Nat} {gd : Option (List Code)} {a : Addr} {ccd : Value} {outer : List Env} {A₀ : Around} {base h₀ : Heap} {L : Addr} {m : Str → Option Value} {s : Shared} {Q : Flow → Shared → Prop} {E : Value → Shared → Prop}
   {c1 c2 c3 c4 fd ca cx cd ck cp ckn : Nat} {t1 t2 t3 : Tok} {ns : List Int} {gs : List Gate} {kf : Int} {news : List (Addr × Obj)} {o1 o2 : Obj} {v1 v2 : Option Value}
   (B : Below A₀ base outer h₀) (F : Fr h₀ L s.heap m) (X : (hd.heap_39 w.params).In h₀) (T : Top p loose mean mg mb h₀) (N : News h₀ L s.heap news) (LB₀ : LB prog w news c3 c4 fd ca cx cd ck cp ckn t1 t2 t3 ns gs kf) (hgs : gs = [.blank, .tru]) (h1 : (c1, o1) ∈ news) (d1 : o1.data = .cell v1) (h2 : (c2, o2) ∈ news) (d2 : o2.data = .cell v2) (h12 : c1 ≠ c2) (h13 : c1 ≠ c3) (h14 : c1 ≠ c4) (h23 : c2 ≠ c3) (h24 : c2 ≠ c4) (hkf : kf = 0)
   (hgd : gd = some []) (hE : PassesOwn (model prog w) (ktrTop dp un gd (Str.ofString "law") lawScope L a ccd (lawCells c1 c2 c3 c4) outer) (envX (Str.ofString "law") lawScope L a ccd (lawCells c1 c2 c3 c4)) E)
   (hdp : dp + 120 < recursionLimit) (hun : un + 1100 < cLine)
   (ret : ∀ m' h' tk', Fr h₀ L h' m' → Q (.ret (.bool true)) { s with heap := h', toks := tk' }),
   wpAny (model prog w) (ktrTop dp un gd (Str.ofString "law") lawScope L a ccd (lawCells c1 c2 c3 c4) outer) (execs [lawSt 1, lawSt 2, lawSt 3, lawSt 4, lawSt 5, lawSt 6, lawSt 7, lawSt 8, lawSt 9, lawSt 10, lawSt 11, lawSt 12, lawSt 13, lawSt 14, lawSt 15] (envX (Str.ofString "law") lawScope L a ccd (lawCells c1 c2 c3 c4))) Q E s := by
  intro prog w p loose mean mg mb hp dp un gd a ccd outer A₀ base h₀ L m s Q E c1 c2 c3 c4 fd ca cx cd ck cp ckn t1 t2 t3 ns gs kf news o1 o2 v1 v2 B F X T N LB₀ hgs h1 d1 h2 d2 h12 h13 h14 h23 h24 hkf hgd hE hdp hun ret
  have n1 := LB₀.cell_ne N h1 d1
  -- inputs
  refine wpAny_execs_cons (stage1 hp B F X T N LB₀ hgs h2 d2 h23 h24 (by omega) (by omega) (by omega) fun n h1' tk1 news1 o2' ia vs cc F1 N1 LB1 hn2 hn4 m2 d2' mia hvs nia K1 => ?_)
  have hvl : vs.length = n := by have := hvs.length; simpa using this
  have p1 := K1 _ h1 h12 n1.1 n1.2.1 n1.2.2.1 n1.2.2.2.1
  -- rows
  refine wpAny_execs_cons (stage2 hp B F1 X T N1 LB1 p1 d1 h13 h14 m2 d2' mia hvl hn4 (by omega) (by omega) fun tR h2' tk2 news2 o1' F2 N2 LB2 p2 e2 K2 => ?_)
  have m2b := K2 _ m2 (Ne.symm h12)
  have mib := K2 _ mia (ne_data N1 mia p1 (by rw [d1]; intro e; cases e))
  have hR16 : 2 ^ n ≤ 16 := Nat.le_trans (Nat.pow_le_pow_right (by decide) hn4) (by decide)
  have hR0 : 0 < 2 ^ n := Nat.two_pow_pos n
  generalize hRn : 2 ^ n = R at *
  have q1 := LB2.cell_ne N2 p2 e2
  have q2 := LB2.cell_ne N2 m2b d2'
  -- full, links
  refine wpAny_execs_cons (stage3 hp B F2 X T N2 LB2 p2 e2 hR16 (by omega) (by omega) (by omega) fun l tf tl h3' tk3 news3 F3 N3 LB3 hl K3 => ?_)
  have p3 := K3 _ p2 q1.1
  have m2c := K3 _ m2b q2.1
  have mic := K3 _ mib nia.1
  -- tables
  refine wpAny_execs_cons (stage4 hp B F3 X T N3 LB3 p3 e2 hR16 m2c d2' mic hvl hn4 (by omega) (by omega) fun Ts ta ys h4' tk4 news4 F4 N4 mta hys hTl hT nta K4 => ?_)
  have LB4 := LB3.mono K4
  have p4 := K4 _ p3
  have m2d := K4 _ m2c
  have mid := K4 _ mic
  -- ways
  refine wpAny_execs_cons (stage5 hp B F4 X T N4 LB4 (by omega) (by omega) (by omega) fun Ws wa wy h5' tk5 news5 F5 N5 LB5 mwa hwy hWl _ nwa K5 => ?_)
  have p5 := K5 _ p4 q1.1
  have m2e := K5 _ m2d q2.1
  have mie := K5 _ mid nia.1
  have mta5 := K5 _ mta nta.1
  -- picks
  refine wpAny_execs_cons (stage6 hp B F5 X T N5 LB5 m2e d2' mie hvl hn2 hn4 q2.1 nia.1 (by omega) (by omega) (by omega) fun Ps pa py h6' tk6 news6 F6 N6 LB6 mpa hpy hPl hPn npa K6 => ?_)
  have p6 := K6 _ p5 q1.1
  have m2f := K6 _ m2e q2.1
  have mif := K6 _ mie nia.1
  have mta6 := K6 _ mta5 nta.1
  have mwa6 := K6 _ mwa nwa.1
  -- signs
  refine wpAny_execs_cons (stage7 hp B F6 X T N6 LB6 (by omega) (by omega) (by omega) fun Ss sa sy h7' tk7 news7 F7 N7 LB7 msa hsy hSl _ nsa K7 => ?_)
  have p7 := K7 _ p6 q1.1
  have m2g := K7 _ m2f q2.1
  have mig := K7 _ mif nia.1
  have mta7 := K7 _ mta6 nta.1
  have mwa7 := K7 _ mwa6 nwa.1
  have mpa7 := K7 _ mpa npa.1
  -- here, before, first
  refine wpAny_execs_cons (stage8 hp (R := R) B F7 X T N7 LB7 m2g d2' mig hvs hn2 mta7 hys hTl (by (repeat (refine (if_neg (by decide)).trans ?_)); exact if_pos rfl) (by (repeat (refine (if_neg (by decide)).trans ?_)); exact if_pos rfl) (by omega) (by omega) fun m8 ah0 ab0 k1 k2 k3 k4 h8' tk8 news8 F8 N8 LB8 eH8 eB8 eV8 hm8 r1 r2 K8 => ?_)
  have hnb : ∀ b, b = ia ∨ b = ta ∨ b = wa ∨ b = pa ∨ b = sa → b ≠ ck ∧ b ≠ cp ∧ b ≠ ckn := by
    rintro b (rfl | rfl | rfl | rfl | rfl)
    · exact nia.2
    · exact nta.2
    · exact nwa.2
    · exact npa.2
    · exact nsa.2
  -- the loop
  refine wpAny_execs_cons (stage9 hp B F8 X T N8 LB8 rfl (K8 _ m2g) d2' (K8 _ mig) hvs hn2 hn4 (K8 _ mta7) hys hTl hT (K8 _ mwa7) hwy hWl (K8 _ mpa7) hpy hPl hPn (K8 _ msa) hsy hSl hnb
    ((hm8 _ (by decide) (by decide) (by decide)).trans (by (repeat (refine (if_neg (by decide)).trans ?_)); exact if_pos rfl)) ((hm8 _ (by decide) (by decide) (by decide)).trans (by (repeat (refine (if_neg (by decide)).trans ?_)); exact if_pos rfl)) ((hm8 _ (by decide) (by decide) (by decide)).trans (by (repeat (refine (if_neg (by decide)).trans ?_)); exact if_pos rfl)) ((hm8 _ (by decide) (by decide) (by decide)).trans (by (repeat (refine (if_neg (by decide)).trans ?_)); exact if_pos rfl)) ((hm8 _ (by decide) (by decide) (by decide)).trans (by (repeat (refine (if_neg (by decide)).trans ?_)); exact if_pos rfl)) rfl ((hm8 _ (by decide) (by decide) (by decide)).trans (by (repeat (refine (if_neg (by decide)).trans ?_)); exact if_pos rfl)) hl
    eH8 eB8 eV8 r1 r2 hE (by omega) (by omega) fun m9 h9' tk9 news9 gs9 ah af g9 T9 g2 T2 j1 j2 j3 j4 F9 N9 LB9 hlen hm9 eH9 eV9 t1' t2' G9 G2 K9 => ?_)
  have w1 := LB8.cell_ne N8 (K8 _ p7) e2
  have w2 := LB8.cell_ne N8 (K8 _ m2g) d2'
  have p9 := K9 _ (K8 _ p7) w1.2.1 w1.2.2.1 w1.2.2.2.1
  have m29 := K9 _ (K8 _ m2g) w2.2.1 w2.2.2.1 w2.2.2.2.1
  have mi9 := K9 _ (K8 _ mig) nia.2.1 nia.2.2.1 nia.2.2.2
  -- reading
  refine wpAny_execs_cons (stage10 hp B F9 X T N9 LB9 (by omega) (by omega) fun rx rd t4 ha' tka newsa Fa Na LBa mrx mrd nrx Ka => ?_)
  -- the rows
  refine wpAny_execs_cons (stage11 hp B Fa X T Na LBa (Ka _ p9) e2 hR16 (Ka _ m29) d2' (Ka _ mi9) hvs hn4 mrx mrd (if_pos rfl) ((if_neg (by decide)).trans eV9) (Ka _ t2') G2 (by omega) hE (by omega) (by omega) fun mb hb' tkb newsb Fb Nb hmb Kb => ?_)
  have LBb := LBa.mono Kb
  -- two rows
  refine wpAny_execs_cons (stage12 hp B Fb X T Nb LBb (Kb _ (Ka _ p9)) e2 hR0 hR16 q1.1 (by omega) (by omega) (by omega) fun r1 r2 mc u1 u2 hc' tkc newsc lr1 lr2 Fc Nc LBc er1 er2 hmc Kc => ?_)
  obtain ⟨of, tt, mf, df⟩ := LBb.hf
  have kc : ∀ {b : Nat} {o : Obj}, (b, o) ∈ newsa → b ≠ fd → (b, o) ∈ newsc := fun hb hne => Kc _ (Kb _ hb) hne
  have nah : ah ≠ fd := ne_cls Nb (Kb _ (Ka _ t1')) mf (by
    obtain ⟨es, ep, hex, _⟩ := df
    rw [show of.cls = .type "dict" from hex.1]; show Value.type "tuple" ≠ Value.type "dict"; decide)
  have mah := kc (Ka _ t1') nah
  have eR : mc (Str.ofString "reading") = some (.ref rx) := (hmc _ (by decide) (by decide)).trans ((hmb _ (by decide) (by decide)).trans (if_pos rfl))
  have eH : mc (Str.ofString "here") = some (.ref ah) := (hmc _ (by decide) (by decide)).trans ((hmb _ (by decide) (by decide)).trans ((if_neg (by decide)).trans eH9))
  -- told
  refine wpAny_execs_cons (stage13 hp B Fc X T Nc LBc (kc (Ka _ m29) q2.1) d2' (kc (Ka _ mi9) nia.1) hvs hn4 (kc mrx nrx.1) (kc mrd nrx.2) eR eH mah G9 er1 lr1 (by omega) rfl (by omega) (by omega) (by omega) fun md hd' tkd newsd Fd Nd etd hmd Kd => ?_)
  -- denied
  refine wpAny_execs_cons (stage14 hp B Fd X T Nd (LBc.mono Kd) (Kd _ (kc (Ka _ m29) q2.1)) d2' (Kd _ (kc (Ka _ mi9) nia.1)) hvs hn4 (Kd _ (kc mrx nrx.1)) (Kd _ (kc mrd nrx.2)) ((hmd _ (by decide)).trans eR) ((hmd _ (by decide)).trans eH) (Kd _ mah) (G9.neg (full := ((2 ^ R : Nat) : Int) - 1) rfl) ((hmd _ (by decide)).trans er2) lr2 (by omega) rfl (by omega) (by omega) (by omega) fun me he' tke newse Fe Ne' ete hme Ke => ?_)
  -- the end
  refine wpAny_execs_cons (stage15 hp B Fe X T Ne' ((LBc.mono Kd).mono Ke) hgd ((hme _ (by decide)).trans ((hmd _ (by decide)).trans eH)) (Ke _ (Kd _ mah)) G9.tab ((hme _ (by decide)).trans ((hmd _ (by decide)).trans er1)) ((hme _ (by decide)).trans ((hmd _ (by decide)).trans er2)) (by omega) (by omega)
    ((hme _ (by decide)).trans etd) ete rfl (by rw [(tab_not rfl G9.tab).2 r2 lr2, Bool.not_not]) (by omega) (by omega) fun mz hz' tkz Fz => ?_)
  exact ret mz hz' tkz Fz

end Mine
end

section
open PySem PySem.W PyProof.Rows PySem.Calls
namespace Mine
set_option maxRecDepth 100000
set_option maxHeartbeats 8000000
theorem lb_start {prog : Program} {w : World} {h₀ h : Heap} {L : Addr} {D1 kn pl pa pb kl cx cd ca d2 fd c1 c2 c3 c4 : Nat} {ko of o1 o2 o3 o4 oD oD2 : Obj} {ws : List Value} {cc : Nat} {ta tb t1 t2 t3 t : Tok} {ns : List Int}
    (N : News h₀ L h [(D1, oD), (kn, ko), (pl, PySem.W.listOf #[.ref pa, .ref pb] 0), (pb, tupOf #[]), (pa, tupOf #[]), (kl, PySem.W.listOf #[.str (Str.ofString "") ta, .str (Str.ofString "true") tb] 0), (cx, instObj 129 cd), (cd, cDict w kl pl kn t1 t2 t3),
      (ca, PySem.W.listOf ws.toArray cc), (d2, oD2), (fd, of), (c1, o1), (c2, o2), (c3, o3), (c4, o4)])
    (hko : ko.IsDictOf (PySem.intKind prog w) []) (lo : (kn == sysModules) = false) (hf : of.IsDictOf (PySem.strKind prog w) [(Str.ofString "cells", .ref ca), (Str.ofString "spot", .int 0 t)])
    (d3 : o3.data = .cell (some (.ref cx))) (d4 : o4.data = .cell (some (.ref fd))) (hws : IntsAre ws ns) (hns : ns.length ≤ 30)
    (n1 : fd ≠ cd) (n2 : fd ≠ kn) (n3 : ca ≠ kl) (n4 : ca ≠ pl) (n5 : kl ≠ pl) (n6 : cd ≠ kn) :
    LB prog w [(D1, oD), (kn, ko), (pl, PySem.W.listOf #[.ref pa, .ref pb] 0), (pb, tupOf #[]), (pa, tupOf #[]), (kl, PySem.W.listOf #[.str (Str.ofString "") ta, .str (Str.ofString "true") tb] 0), (cx, instObj 129 cd), (cd, cDict w kl pl kn t1 t2 t3),
      (ca, PySem.W.listOf ws.toArray cc), (d2, oD2), (fd, of), (c1, o1), (c2, o2), (c3, o3), (c4, o4)] c3 c4 fd ca cx cd kl pl kn t1 t2 t3 ns [.blank, .tru] 0 := by
  have two : ∀ (i : Nat) g, [Gate.blank, Gate.tru][i]? = some g → (i = 0 ∧ g = .blank) ∨ (i = 1 ∧ g = .tru) := fun i g h => by
    match i, h with
    | 0, h => simp at h; exact .inl ⟨rfl, h.symm⟩
    | 1, h => simp at h; exact .inr ⟨rfl, h.symm⟩
    | i + 2, h => simp at h
  obtain ⟨es, ep, k1, k2, k3, k4, k5⟩ := hko
  refine ⟨⟨o3, .tail _ (.tail _ (.tail _ (.tail _ (.tail _ (.tail _ (.tail _ (.tail _ (.tail _ (.tail _ (.tail _ (.tail _ (.tail _ (.head _))))))))))))), d3⟩, ⟨o4, .tail _ (.tail _ (.tail _ (.tail _ (.tail _ (.tail _ (.tail _ (.tail _ (.tail _ (.tail _ (.tail _ (.tail _ (.tail _ (.tail _ (.head _)))))))))))))), d4⟩, ⟨of, t, .tail _ (.tail _ (.tail _ (.tail _ (.tail _ (.tail _ (.tail _ (.tail _ (.tail _ (.tail _ (.head _)))))))))), hf⟩, ⟨ws, cc, .tail _ (.tail _ (.tail _ (.tail _ (.tail _ (.tail _ (.tail _ (.tail _ (.head _)))))))), hws⟩, hns, Int.le_refl _, ⟨.tail _ (.tail _ (.tail _ (.tail _ (.tail _ (.tail _ (.head _)))))), .tail _ (.tail _ (.tail _ (.tail _ (.tail _ (.tail _ (.tail _ (.head _))))))), ⟨_, 0, List.mem_cons_of_mem _ (List.mem_cons_of_mem _ (List.mem_cons_of_mem _ (List.mem_cons_of_mem _ (List.mem_cons_of_mem _ List.mem_cons_self)))), rfl, fun i g hg => ?_⟩,
    ⟨_, 0, List.mem_cons_of_mem _ (List.mem_cons_of_mem _ List.mem_cons_self), rfl, fun i g hg => ?_⟩, ⟨ko, [], .tail _ (.head _), ⟨es, ep, k1, k2, ?_, List.nodup_nil⟩, Nat.zero_le _, fun x hx => nomatch hx⟩, lo, ⟨rfl, rfl, fun i g hi hg => ?_⟩, n5, n6⟩, n1, n2, n3, n4⟩
  · rcases two i g hg with ⟨rfl, rfl⟩ | ⟨rfl, rfl⟩
    · exact ⟨ta, rfl⟩
    · exact ⟨tb, rfl⟩
  · rcases two i g hg with ⟨rfl, rfl⟩ | ⟨rfl, rfl⟩
    · exact ⟨pa, #[], rfl, .tail _ (.tail _ (.tail _ (.tail _ (.head _)))), .nil⟩
    · exact ⟨pb, #[], rfl, .tail _ (.tail _ (.tail _ (.head _))), .nil⟩
  · generalize es.toList = l9 at k4 ⊢
    cases k4; rfl
  · rcases two i g hg with ⟨rfl, rfl⟩ | ⟨rfl, rfl⟩ <;> omega
section
theorem law_holds : PySem.Challenge.rw_nz0380_01.Holds := hd (by
  w_top off
  k_with_none
  k_with "execs cons" => (k_here; (with_reducible show wpAny _ _ (execs (Stmt.Assign [_] (Expr.ListComp _ _ _ _) _ :: _) _) _ _ _); refine stopI ?_)
  k_go0
  all_goals (try k_fold)
  k_steps
  unfold Stop
  (with_reducible rename Fr _ _ _ _ => F9)
  (with_reducible rename News _ _ _ _ => N9)
  (with_reducible rename Obj.IsDictOf (PySem.intKind _ _) _ [] => hi9)
  (with_reducible rename Obj.IsDictOf (PySem.strKind _ _) _ (strPairs _) => hf9)
  (with_reducible rename (_ == sysModules) = false => lo9)
  have LB9 := lb_start N9 hi9 lo9 hf9 (by assumption) (by assumption) (by assumption) (by rw [List.length_take]; omega) (by omega) (by omega) (by omega) (by omega) (by omega) (by omega)
  k_dflt (refine' law_tail ?hp ?B ?F ?X ?T ?N ?LB ?hgs ?h1 ?d1 ?h2 ?d2 ?n1 ?n2 ?n3 ?n4 ?n5 ?kf ?gd ?hE ?kd ?ku ?_; (case hp => exact rfl); (case F => exact F9); (case N => exact N9); (case LB => exact LB9); (case hgs => exact rfl); (case B => k_asm); (case X => k_asm); (case T => k_asm); (case h1 => exact (List.mem_cons_of_mem _ (List.mem_cons_of_mem _ (List.mem_cons_of_mem _ (List.mem_cons_of_mem _ (List.mem_cons_of_mem _ (List.mem_cons_of_mem _ (List.mem_cons_of_mem _ (List.mem_cons_of_mem _ (List.mem_cons_of_mem _ (List.mem_cons_of_mem _ (List.mem_cons_of_mem _ List.mem_cons_self)))))))))))); (case h2 => exact (List.mem_cons_of_mem _ (List.mem_cons_of_mem _ (List.mem_cons_of_mem _ (List.mem_cons_of_mem _ (List.mem_cons_of_mem _ (List.mem_cons_of_mem _ (List.mem_cons_of_mem _ (List.mem_cons_of_mem _ (List.mem_cons_of_mem _ (List.mem_cons_of_mem _ (List.mem_cons_of_mem _ (List.mem_cons_of_mem _ List.mem_cons_self))))))))))))); (case d1 => assumption); (case d2 => assumption); (case n1 => first | omega | k_ne); (case n2 => first | omega | k_ne); (case n3 => first | omega | k_ne); (case n4 => first | omega | k_ne); (case n5 => first | omega | k_ne); (case kf => exact rfl); (case gd => exact rfl); (case hE => passes_own); (case kd => ktr_room); (case ku => ktr_units))
  intro m9 h9 tk9 Fz
  k_steps)
end

end Mine
end

set_option maxRecDepth 100000 in
set_option maxHeartbeats 8000000 in
theorem PySem.Challenge.cw_nz0380_01_holds : PySem.Challenge.rw_nz0380_01.Holds := by
  exact Mine.law_holds
