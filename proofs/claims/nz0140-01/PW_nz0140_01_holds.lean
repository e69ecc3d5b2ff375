import PyProof.Rows.All
import Wide.All
import OpenK.AllK
import Wide.FinOn
import PySem.Challenge.RW_nz0140_01
open PySem PySem.W PySem.Calls PyProof.Rows
set_option Elab.async false
set_option maxRecDepth 100000
set_option maxHeartbeats 8000000
set_option compiler.extract_closed false
set_option linter.unusedVariables false
namespace Mine
/-! part Hx -/
section
noncomputable abbrev PP : Program := PySem.Challenge.pw_nz0140_01
noncomputable def topRunT (tb : String → Option Builtin) (p : Program) (w : World) (n₀ : Nat) (ann : Option Value) : Nat → SharedT → Thread → Option SharedT
  | 0, _, _ => none
  | n + 1, s, t => match through t with
    | true => some s
    | false => match stepOk n₀ ann t with
      | false => none
      | true => match stepT (denote tb) p w s t with
        | some (s', t') => topRunT tb p w n₀ ann n s' t'
        | none => none
theorem topRun_of {tb : String → Option Builtin} {p : Program} {w : World} {n₀ : Nat} {ann : Option Value} : ∀ {n : Nat} {s s' : SharedT} {t : Thread}, topRunT tb p w n₀ ann n s t = some s' → topRun tb p w n₀ ann n s.abs t = some s'.abs
  | 0, _, _, _, h => by cases h
  | n + 1, s, s', t, h => by
    unfold topRunT at h
    unfold topRun
    cases he : through t with
    | true => rw [he] at h; cases h; rfl
    | false =>
      rw [he] at h
      cases hk : stepOk n₀ ann t with
      | false => rw [hk] at h; cases h
      | true =>
        rw [hk] at h
        cases hs : stepT (denote tb) p w s t with
        | none => rw [hs] at h; cases h
        | some r => obtain ⟨s₂, t₂⟩ := r; rw [hs] at h; rw [stepT_spec hs]; exact topRun_of h
/-- the same with the library's quick words -/
noncomputable def topRunQ (p : Program) (w : World) (n₀ : Nat) (ann : Option Value) : Nat → SharedT → Thread → Option SharedT
  | 0, _, _ => none
  | n + 1, s, t => match through t with
    | true => some s
    | false => match PySem.W.Fast.tw6613529449190102663 n₀ ann t with
      | false => none
      | true => match PySem.W.Fast.tw10156331382660048174 (PySem.W.Fast.tw11892475500146522536 PySem.W.Fast.tw14364793385576792824) p w s t with
        | some (s', t') => topRunQ p w n₀ ann n s' t'
        | none => none
theorem topRunQ_eq {p : Program} {w : World} {n₀ : Nat} {ann : Option Value} : ∀ (n : Nat) (s : SharedT) (t : Thread), topRunT treeTable p w n₀ ann n s t = topRunQ p w n₀ ann n s t
  | 0, _, _ => rfl
  | n + 1, s, t => by
    unfold topRunT topRunQ
    simp only [topRunQ_eq n]
    rw [PySem.W.Fast.te6613529449190102663, PySem.W.Fast.te10156331382660048174, PySem.W.Fast.te11892475500146522536, PySem.W.Fast.te14364793385576792824]
noncomputable def bootT (P : Params) : BT := ((boot_heap P).objs.toList.foldl (fun (x : BT × Nat) o => (x.1.ins x.2 o, x.2 + 1)) (.nil, 0)).1
theorem boot_abs (P : Params) : absHeap (bootT P) 11 (boot_heap P).life = boot_heap P := by kernel_rfl
theorem left_of {p q : Program} {loose : List Str} {Xt : Shared → Bool} {α : Type} {Yf : Shared → α} {Ya : World → α} {N : Nat} {g0 : Bool} {m₀ : Nat} {ann : Option Value} {T : Params → BT} {n : Nat}
    (open_ : ∀ w : World, (fencedOpening treeTable p w N).map (fun s => (s.heap, s.gens, s.drawn, s.toks)) = some (boot_heap w.params, Array.mk [], boot_drawn, boot_toks))
    (hT : ∀ P, absHeap (T P) n (boot_heap P).life = boot_heap P)
    (size : ∀ w : World, ((boot_heap w.params).isNs mainGlobals && (Array.mk ([] : List GenState)).size == 0, (boot_heap w.params).objs.size, (boot_heap w.params).nsMap mainGlobals "__annotations__") = (true, m₀, ann))
    (run : ∀ (w : World) (os : OsState), (topRunT treeTable p w m₀ ann N ⟨T w.params, n, (boot_heap w.params).life, Array.mk [], boot_drawn, boot_toks, os⟩ (topStub p)).map (fun s =>
      (staticsOk (importedModules p.main.body) (boot_heap w.params) s.abs.heap && namesBound p s.abs.heap && gensDone s.abs && laidKept (boot_heap w.params) s.abs.heap, openSeen q loose (importedModules p.main.body) Xt g0 s.abs, Yf s.abs)) = some (true, openGood q loose, Ya w)) : LeftO p q loose Xt Yf Ya N g0 := fun w => by
  obtain ⟨⟨h, gs, d, k, os⟩, e, e'⟩ := Option.map_eq_some_iff.mp (open_ w)
  obtain ⟨rfl, rfl, rfl, rfl⟩ : h = boot_heap w.params ∧ gs = Array.mk [] ∧ d = boot_drawn ∧ k = boot_toks := by simpa using e'
  obtain ⟨z1, z2, z3⟩ : _ ∧ _ ∧ _ := by simpa only [Prod.mk.injEq] using size w
  obtain ⟨s', r, l⟩ := Option.map_eq_some_iff.mp (run w os)
  obtain ⟨l1, l2, l3⟩ : _ ∧ _ ∧ _ := by simpa only [Prod.mk.injEq] using l
  have r := topRun_of r
  have r' : topRun treeTable p w m₀ ann N ⟨boot_heap w.params, Array.mk [], boot_drawn, boot_toks, os⟩ (topStub p) = some s'.abs := by
    rw [← r]
    unfold SharedT.abs
    dsimp only
    rw [hT]
  have t : topFrom treeTable p w N ⟨boot_heap w.params, Array.mk [], boot_drawn, boot_toks, os⟩ = some s'.abs := by
    unfold topFrom
    dsimp only
    rw [z1, z2, z3, r']
    show (match staticsOk (importedModules p.main.body) (boot_heap w.params) s'.abs.heap && namesBound p s'.abs.heap && gensDone s'.abs && laidKept (boot_heap w.params) s'.abs.heap with | true => _ | false => _) = _
    rw [l1]
  unfold openEnds
  rw [e]
  show (topFrom treeTable p w N _).map _ = _
  rw [t]
  exact congrArg some (Prod.ext l2 l3)


noncomputable def topFn (i : Nat) : Option (Arguments × List Stmt × Scope) := match PP.main.body[i]? with
  | some (.FunctionDef _ params body _ _ _ scope _ _ _) => some (params, body, scope)
  | _ => none
noncomputable def methFn (i j : Nat) : Option (Arguments × List Stmt × Scope) := match PP.main.body[i]? with
  | some (.ClassDef _ _ _ b _ _ _ _ _ _ _) => (match b[j]? with
    | some (.FunctionDef _ params body _ _ _ scope _ _ _) => some (params, body, scope)
    | _ => none)
  | _ => none
noncomputable abbrev Fn3 (o : Option (Arguments × List Stmt × Scope)) := {x : Arguments × List Stmt × Scope // o = some x}
@[reducible] noncomputable def fnO (name qual : String) (m : Arguments × List Stmt × Scope) (md : String) (mt cd : Nat) : Obj :=
  ⟨.type "function", none, .func { name := .ofString name, qualname := .ofString qual, params := m.1, body := .stmts m.2.1, scope := m.2.2, globals := 3, closure := [], defaults := .none, kwdefaults := .none, doc := .none, pyModule := .str (.ofString md) mt, annotations := none, code := .ref cd, closureTuple := .none, builtins := 0 }, #[]⟩
noncomputable def cdO (name qual : String) (t0 line argc flags r1 r3 tt t3 : Nat) : Obj :=
  ⟨.type "code", none, .fields #[.str (.ofString name) t0, .str (.ofString qual) (t0 + 1), .str (.ofString "/claim/cut.py") (t0 + 2), .int line 0, .int argc 0, .int 0 0, .int 0 0, .int flags 0, .ref r1, .bool true, .int 181 0, .ref (r1 + 1), .none, .ref r3, .ref (r3 + 1), .ref (r3 + 2), .int tt 0, .int line 0, .str (.ofString "/claim/cut.py") t3], #[]⟩
noncomputable def f2 (P : Params) : Obj := { cls := Value.none, data := Data.dict #[{ hash := PyData.keyHash P (Str.ofString "type.__subclasses__.Exception.0"), key := Value.str (Str.ofString "type.__subclasses__.Exception.0") 230, val := Value.int 47 0 }, { hash := PyData.keyHash P (Str.ofString "type.__subclasses__.Exception.n"), key := Value.str (Str.ofString "type.__subclasses__.Exception.n") 231, val := Value.int 1 0 }] 2 }
noncomputable def f3 (P : Params) : Obj := { cls := Value.type "dict", data := Data.dict #[{ hash := PyData.keyHash P (Str.ofString "__name__"), key := Value.str (Str.ofString "__name__") 165, val := Value.str (Str.ofString "law_nz0140_01") 679 }, { hash := PyData.keyHash P (Str.ofString "__doc__"), key := Value.str (Str.ofString "__doc__") 166, val := Value.none }, { hash := PyData.keyHash P (Str.ofString "__package__"), key := Value.str (Str.ofString "__package__") 167, val := Value.none }, { hash := PyData.keyHash P (Str.ofString "__loader__"), key := Value.str (Str.ofString "__loader__") 168, val := Value.builtin "__main__.__loader__#opaque" }, { hash := PyData.keyHash P (Str.ofString "__spec__"), key := Value.str (Str.ofString "__spec__") 169, val := Value.none }, { hash := PyData.keyHash P (Str.ofString "__annotations__"), key := Value.str (Str.ofString "__annotations__") 170, val := Value.ref 6 }, { hash := PyData.keyHash P (Str.ofString "__builtins__"), key := Value.str (Str.ofString "__builtins__") 171, val := Value.ref 4 }, { hash := PyData.keyHash P (Str.ofString "__file__"), key := Value.str (Str.ofString "__file__") 173, val := Value.str (Str.ofString "/claim/cut.py") 172 }, { hash := PyData.keyHash P (Str.ofString "__cached__"), key := Value.str (Str.ofString "__cached__") 174, val := Value.none }, { hash := PyData.keyHash P (Str.ofString "_wall"), key := Value.str (Str.ofString "_wall") 193, val := Value.ref 21 }, { hash := PyData.keyHash P (Str.ofString "SmtError"), key := Value.str (Str.ofString "SmtError") 233, val := Value.ref 47 }, { hash := PyData.keyHash P (Str.ofString "SortFault"), key := Value.str (Str.ofString "SortFault") 256, val := Value.ref 67 }, { hash := PyData.keyHash P (Str.ofString "BOOL"), key := Value.str (Str.ofString "BOOL") 260, val := Value.int 0 259 }, { hash := PyData.keyHash P (Str.ofString "Bank"), key := Value.str (Str.ofString "Bank") 545, val := Value.ref 282 }, { hash := PyData.keyHash P (Str.ofString "BoolBank"), key := Value.str (Str.ofString "BoolBank") 678, val := Value.ref 387 }, { hash := PyData.keyHash P (Str.ofString "_law_dip"), key := Value.str (Str.ofString "_law_dip") 689, val := Value.ref 396 }, { hash := PyData.keyHash P (Str.ofString "_law_entered"), key := Value.str (Str.ofString "_law_entered") 701, val := Value.ref 403 }, { hash := PyData.keyHash P (Str.ofString "_law_denied"), key := Value.str (Str.ofString "_law_denied") 713, val := Value.ref 410 }, { hash := PyData.keyHash P (Str.ofString "_law_alike"), key := Value.str (Str.ofString "_law_alike") 722, val := Value.ref 417 }, { hash := PyData.keyHash P (Str.ofString "_law_due"), key := Value.str (Str.ofString "_law_due") 733, val := Value.ref 424 }, { hash := PyData.keyHash P (Str.ofString "_law_made"), key := Value.str (Str.ofString "_law_made") 743, val := Value.ref 431 }, { hash := PyData.keyHash P (Str.ofString "_law_drawn"), key := Value.str (Str.ofString "_law_drawn") 749, val := Value.ref 436 }, { hash := PyData.keyHash P (Str.ofString "_law_down"), key := Value.str (Str.ofString "_law_down") 759, val := Value.ref 443 }, { hash := PyData.keyHash P (Str.ofString "_law_is_found"), key := Value.str (Str.ofString "_law_is_found") 770, val := Value.ref 450 }, { hash := PyData.keyHash P (Str.ofString "_law_is_again"), key := Value.str (Str.ofString "_law_is_again") 792, val := Value.ref 457 }, { hash := PyData.keyHash P (Str.ofString "law"), key := Value.str (Str.ofString "law") 798, val := Value.ref 462 }] 26 }
@[reducible] noncomputable def m83 : Fn3 (methFn 6 0) := ⟨_, rfl⟩
noncomputable def f83 : Obj := fnO "__init__" "Bank.__init__" m83.1 "minismt.terms" 257 82
@[reducible] noncomputable def m97 : Fn3 (methFn 6 2) := ⟨_, rfl⟩
noncomputable def f97 : Obj := fnO "declare_sort" "Bank.declare_sort" m97.1 "minismt.terms" 257 96
@[reducible] noncomputable def m125 : Fn3 (methFn 6 6) := ⟨_, rfl⟩
noncomputable def f125 : Obj := fnO "declare_fun" "Bank.declare_fun" m125.1 "minismt.terms" 257 124
@[reducible] noncomputable def m139 : Fn3 (methFn 6 8) := ⟨_, rfl⟩
noncomputable def f139 : Obj := fnO "fresh_const" "Bank.fresh_const" m139.1 "minismt.terms" 257 138
@[reducible] noncomputable def m174 : Fn3 (methFn 6 13) := ⟨_, rfl⟩
noncomputable def f174 : Obj := fnO "op" "Bank.op" m174.1 "minismt.terms" 257 173
@[reducible] noncomputable def m181 : Fn3 (methFn 6 14) := ⟨_, rfl⟩
noncomputable def f181 : Obj := fnO "args" "Bank.args" m181.1 "minismt.terms" 257 180
@[reducible] noncomputable def m188 : Fn3 (methFn 6 15) := ⟨_, rfl⟩
noncomputable def f188 : Obj := fnO "sort" "Bank.sort" m188.1 "minismt.terms" 257 187
@[reducible] noncomputable def m195 : Fn3 (methFn 6 16) := ⟨_, rfl⟩
noncomputable def f195 : Obj := fnO "data" "Bank.data" m195.1 "minismt.terms" 257 194
@[reducible] noncomputable def m209 : Fn3 (methFn 6 18) := ⟨_, rfl⟩
noncomputable def f209 : Obj := fnO "size" "Bank.size" m209.1 "minismt.terms" 257 208
@[reducible] noncomputable def m216 : Fn3 (methFn 6 19) := ⟨_, rfl⟩
noncomputable def f216 : Obj := fnO "make" "Bank.make" m216.1 "minismt.terms" 257 215
@[reducible] noncomputable def m223 : Fn3 (methFn 6 20) := ⟨_, rfl⟩
noncomputable def f223 : Obj := fnO "find_made" "Bank.find_made" m223.1 "minismt.terms" 257 222
@[reducible] noncomputable def m237 : Fn3 (methFn 6 22) := ⟨_, rfl⟩
noncomputable def f237 : Obj := fnO "want" "Bank.want" m237.1 "minismt.terms" 257 236
@[reducible] noncomputable def m244 : Fn3 (methFn 6 23) := ⟨_, rfl⟩
noncomputable def f244 : Obj := fnO "want_all" "Bank.want_all" m244.1 "minismt.terms" 257 243
@[reducible] noncomputable def m272 : Fn3 (methFn 6 27) := ⟨_, rfl⟩
noncomputable def f272 : Obj := fnO "parts" "Bank.parts" m272.1 "minismt.terms" 257 271
@[reducible] noncomputable def m279 : Fn3 (methFn 6 28) := ⟨_, rfl⟩
noncomputable def f279 : Obj := fnO "parts_of_all" "Bank.parts_of_all" m279.1 "minismt.terms" 257 278
noncomputable def f281 (P : Params) : Obj := { cls := Value.type "dict", data := Data.dict #[{ hash := PyData.keyHash P (Str.ofString "__module__"), key := Value.str (Str.ofString "__module__") 268, val := Value.str (Str.ofString "minismt.terms") 257 }, { hash := PyData.keyHash P (Str.ofString "__firstlineno__"), key := Value.str (Str.ofString "__firstlineno__") 272, val := Value.int 19 271 }, { hash := PyData.keyHash P (Str.ofString "__init__"), key := Value.str (Str.ofString "__init__") 279, val := Value.ref 83 }, { hash := PyData.keyHash P (Str.ofString "sort_name"), key := Value.str (Str.ofString "sort_name") 287, val := Value.ref 90 }, { hash := PyData.keyHash P (Str.ofString "declare_sort"), key := Value.str (Str.ofString "declare_sort") 295, val := Value.ref 97 }, { hash := PyData.keyHash P (Str.ofString "width_of"), key := Value.str (Str.ofString "width_of") 303, val := Value.ref 104 }, { hash := PyData.keyHash P (Str.ofString "is_number_sort"), key := Value.str (Str.ofString "is_number_sort") 311, val := Value.ref 111 }, { hash := PyData.keyHash P (Str.ofString "is_free_sort"), key := Value.str (Str.ofString "is_free_sort") 319, val := Value.ref 118 }, { hash := PyData.keyHash P (Str.ofString "declare_fun"), key := Value.str (Str.ofString "declare_fun") 329, val := Value.ref 125 }, { hash := PyData.keyHash P (Str.ofString "fresh_fun"), key := Value.str (Str.ofString "fresh_fun") 339, val := Value.ref 132 }, { hash := PyData.keyHash P (Str.ofString "fresh_const"), key := Value.str (Str.ofString "fresh_const") 348, val := Value.ref 139 }, { hash := PyData.keyHash P (Str.ofString "fun_name"), key := Value.str (Str.ofString "fun_name") 356, val := Value.ref 146 }, { hash := PyData.keyHash P (Str.ofString "fun_arg_sorts"), key := Value.str (Str.ofString "fun_arg_sorts") 364, val := Value.ref 153 }, { hash := PyData.keyHash P (Str.ofString "fun_result"), key := Value.str (Str.ofString "fun_result") 372, val := Value.ref 160 }, { hash := PyData.keyHash P (Str.ofString "fun_count"), key := Value.str (Str.ofString "fun_count") 379, val := Value.ref 167 }, { hash := PyData.keyHash P (Str.ofString "op"), key := Value.str (Str.ofString "op") 387, val := Value.ref 174 }, { hash := PyData.keyHash P (Str.ofString "args"), key := Value.str (Str.ofString "args") 395, val := Value.ref 181 }, { hash := PyData.keyHash P (Str.ofString "sort"), key := Value.str (Str.ofString "sort") 403, val := Value.ref 188 }, { hash := PyData.keyHash P (Str.ofString "data"), key := Value.str (Str.ofString "data") 411, val := Value.ref 195 }, { hash := PyData.keyHash P (Str.ofString "width"), key := Value.str (Str.ofString "width") 419, val := Value.ref 202 }, { hash := PyData.keyHash P (Str.ofString "size"), key := Value.str (Str.ofString "size") 426, val := Value.ref 209 }, { hash := PyData.keyHash P (Str.ofString "make"), key := Value.str (Str.ofString "make") 439, val := Value.ref 216 }, { hash := PyData.keyHash P (Str.ofString "find_made"), key := Value.str (Str.ofString "find_made") 450, val := Value.ref 223 }, { hash := PyData.keyHash P (Str.ofString "is_value"), key := Value.str (Str.ofString "is_value") 458, val := Value.ref 230 }, { hash := PyData.keyHash P (Str.ofString "want"), key := Value.str (Str.ofString "want") 468, val := Value.ref 237 }, { hash := PyData.keyHash P (Str.ofString "want_all"), key := Value.str (Str.ofString "want_all") 479, val := Value.ref 244 }, { hash := PyData.keyHash P (Str.ofString "true_term"), key := Value.str (Str.ofString "true_term") 486, val := Value.ref 251 }, { hash := PyData.keyHash P (Str.ofString "false_term"), key := Value.str (Str.ofString "false_term") 493, val := Value.ref 258 }, { hash := PyData.keyHash P (Str.ofString "bool_term"), key := Value.str (Str.ofString "bool_term") 501, val := Value.ref 265 }, { hash := PyData.keyHash P (Str.ofString "parts"), key := Value.str (Str.ofString "parts") 509, val := Value.ref 272 }, { hash := PyData.keyHash P (Str.ofString "parts_of_all"), key := Value.str (Str.ofString "parts_of_all") 524, val := Value.ref 279 }, { hash := PyData.keyHash P (Str.ofString "__static_attributes__"), key := Value.str (Str.ofString "__static_attributes__") 538, val := Value.ref 280 }, { hash := PyData.keyHash P (Str.ofString "__dict__"), key := Value.str (Str.ofString "__dict__") 540, val := Value.ref 283 }, { hash := PyData.keyHash P (Str.ofString "__weakref__"), key := Value.str (Str.ofString "__weakref__") 542, val := Value.ref 284 }, { hash := PyData.keyHash P (Str.ofString "__doc__"), key := Value.str (Str.ofString "__doc__") 543, val := Value.none }] 4 }
noncomputable def f282 : Obj := { cls := Value.type "type", data := Data.cls { name := Str.ofString "Bank", bases := [Value.type "object"], mro := [Value.ref 282, Value.type "object"], ns := 281, qualname := Str.ofString "Bank", subclasses := [Value.ref 387] }, slots := #[none, none, some (Value.str (Str.ofString "Bank") 261), some (Value.str (Str.ofString "Bank") 269), some (Value.builtin "object.__new__"), some (Value.bool true)] }
@[reducible] noncomputable def m300 : Fn3 (methFn 7 0) := ⟨_, rfl⟩
noncomputable def f300 : Obj := fnO "not_of" "BoolBank.not_of" m300.1 "minismt.terms" 257 299
@[reducible] noncomputable def m307 : Fn3 (methFn 7 1) := ⟨_, rfl⟩
noncomputable def f307 : Obj := fnO "and_of" "BoolBank.and_of" m307.1 "minismt.terms" 257 306
@[reducible] noncomputable def m314 : Fn3 (methFn 7 2) := ⟨_, rfl⟩
noncomputable def f314 : Obj := fnO "or_of" "BoolBank.or_of" m314.1 "minismt.terms" 257 313
@[reducible] noncomputable def m321 : Fn3 (methFn 7 3) := ⟨_, rfl⟩
noncomputable def f321 : Obj := fnO "xor_of" "BoolBank.xor_of" m321.1 "minismt.terms" 257 320
@[reducible] noncomputable def m328 : Fn3 (methFn 7 4) := ⟨_, rfl⟩
noncomputable def f328 : Obj := fnO "implies_of" "BoolBank.implies_of" m328.1 "minismt.terms" 257 327
@[reducible] noncomputable def m342 : Fn3 (methFn 7 6) := ⟨_, rfl⟩
noncomputable def f342 : Obj := fnO "eq" "BoolBank.eq" m342.1 "minismt.terms" 257 341
@[reducible] noncomputable def m349 : Fn3 (methFn 7 7) := ⟨_, rfl⟩
noncomputable def f349 : Obj := fnO "distinct" "BoolBank.distinct" m349.1 "minismt.terms" 257 348
@[reducible] noncomputable def m356 : Fn3 (methFn 7 8) := ⟨_, rfl⟩
noncomputable def f356 : Obj := fnO "ite" "BoolBank.ite" m356.1 "minismt.terms" 257 355
@[reducible] noncomputable def m363 : Fn3 (methFn 7 9) := ⟨_, rfl⟩
noncomputable def f363 : Obj := fnO "app" "BoolBank.app" m363.1 "minismt.terms" 257 362
@[reducible] noncomputable def m370 : Fn3 (methFn 7 10) := ⟨_, rfl⟩
noncomputable def f370 : Obj := fnO "folded" "BoolBank.folded" m370.1 "minismt.terms" 257 369
noncomputable def f386 (P : Params) : Obj := { cls := Value.type "dict", data := Data.dict #[{ hash := PyData.keyHash P (Str.ofString "__module__"), key := Value.str (Str.ofString "__module__") 553, val := Value.str (Str.ofString "minismt.terms") 257 }, { hash := PyData.keyHash P (Str.ofString "__firstlineno__"), key := Value.str (Str.ofString "__firstlineno__") 557, val := Value.int 150 556 }, { hash := PyData.keyHash P (Str.ofString "not_of"), key := Value.str (Str.ofString "not_of") 565, val := Value.ref 300 }, { hash := PyData.keyHash P (Str.ofString "and_of"), key := Value.str (Str.ofString "and_of") 573, val := Value.ref 307 }, { hash := PyData.keyHash P (Str.ofString "or_of"), key := Value.str (Str.ofString "or_of") 581, val := Value.ref 314 }, { hash := PyData.keyHash P (Str.ofString "xor_of"), key := Value.str (Str.ofString "xor_of") 590, val := Value.ref 321 }, { hash := PyData.keyHash P (Str.ofString "implies_of"), key := Value.str (Str.ofString "implies_of") 599, val := Value.ref 328 }, { hash := PyData.keyHash P (Str.ofString "iff"), key := Value.str (Str.ofString "iff") 608, val := Value.ref 335 }, { hash := PyData.keyHash P (Str.ofString "eq"), key := Value.str (Str.ofString "eq") 617, val := Value.ref 342 }, { hash := PyData.keyHash P (Str.ofString "distinct"), key := Value.str (Str.ofString "distinct") 625, val := Value.ref 349 }, { hash := PyData.keyHash P (Str.ofString "ite"), key := Value.str (Str.ofString "ite") 635, val := Value.ref 356 }, { hash := PyData.keyHash P (Str.ofString "app"), key := Value.str (Str.ofString "app") 647, val := Value.ref 363 }, { hash := PyData.keyHash P (Str.ofString "folded"), key := Value.str (Str.ofString "folded") 656, val := Value.ref 370 }, { hash := PyData.keyHash P (Str.ofString "with_args"), key := Value.str (Str.ofString "with_args") 665, val := Value.ref 377 }, { hash := PyData.keyHash P (Str.ofString "replaced"), key := Value.str (Str.ofString "replaced") 674, val := Value.ref 384 }, { hash := PyData.keyHash P (Str.ofString "__static_attributes__"), key := Value.str (Str.ofString "__static_attributes__") 675, val := Value.ref 385 }, { hash := PyData.keyHash P (Str.ofString "__doc__"), key := Value.str (Str.ofString "__doc__") 676, val := Value.none }] 2 }
noncomputable def f387 : Obj := { cls := Value.type "type", data := Data.cls { name := Str.ofString "BoolBank", bases := [Value.ref 282], mro := [Value.ref 387, Value.ref 282, Value.type "object"], ns := 386, qualname := Str.ofString "BoolBank" }, slots := #[some (Value.ref 287), none, some (Value.str (Str.ofString "BoolBank") 546), some (Value.str (Str.ofString "BoolBank") 554), some (Value.builtin "object.__new__"), some (Value.bool true)] }
@[reducible] noncomputable def m396 : Fn3 (topFn 9) := ⟨_, rfl⟩
noncomputable def f396 : Obj := fnO "_law_dip" "_law_dip" m396.1 "law_nz0140_01" 679 395
@[reducible] noncomputable def m403 : Fn3 (topFn 10) := ⟨_, rfl⟩
noncomputable def f403 : Obj := fnO "_law_entered" "_law_entered" m403.1 "law_nz0140_01" 679 402
@[reducible] noncomputable def m410 : Fn3 (topFn 11) := ⟨_, rfl⟩
noncomputable def f410 : Obj := fnO "_law_denied" "_law_denied" m410.1 "law_nz0140_01" 679 409
@[reducible] noncomputable def m417 : Fn3 (topFn 12) := ⟨_, rfl⟩
noncomputable def f417 : Obj := fnO "_law_alike" "_law_alike" m417.1 "law_nz0140_01" 679 416
@[reducible] noncomputable def m424 : Fn3 (topFn 13) := ⟨_, rfl⟩
noncomputable def f424 : Obj := fnO "_law_due" "_law_due" m424.1 "law_nz0140_01" 679 423
@[reducible] noncomputable def m431 : Fn3 (topFn 14) := ⟨_, rfl⟩
noncomputable def f431 : Obj := fnO "_law_made" "_law_made" m431.1 "law_nz0140_01" 679 430
@[reducible] noncomputable def m436 : Fn3 (topFn 15) := ⟨_, rfl⟩
noncomputable def f436 : Obj := fnO "_law_drawn" "_law_drawn" m436.1 "law_nz0140_01" 679 435
@[reducible] noncomputable def m443 : Fn3 (topFn 16) := ⟨_, rfl⟩
noncomputable def f443 : Obj := fnO "_law_down" "_law_down" m443.1 "law_nz0140_01" 679 442
@[reducible] noncomputable def m450 : Fn3 (topFn 17) := ⟨_, rfl⟩
noncomputable def f450 : Obj := fnO "_law_is_found" "_law_is_found" m450.1 "law_nz0140_01" 679 449
@[reducible] noncomputable def m457 : Fn3 (topFn 18) := ⟨_, rfl⟩
noncomputable def f457 : Obj := fnO "_law_is_again" "_law_is_again" m457.1 "law_nz0140_01" 679 456
@[reducible] noncomputable def m462 : Fn3 (topFn 19) := ⟨_, rfl⟩
noncomputable def f462 : Obj := fnO "law" "law" m462.1 "law_nz0140_01" 679 461
noncomputable def f82 : Obj := cdO "__init__" "Bank.__init__" 273 21 1 3 77 79 277 278
noncomputable def f96 : Obj := cdO "declare_sort" "Bank.declare_sort" 288 39 2 3 91 93 293 294
noncomputable def f124 : Obj := cdO "declare_fun" "Bank.declare_fun" 320 53 4 3 119 121 327 328
noncomputable def f138 : Obj := cdO "fresh_const" "Bank.fresh_const" 340 62 3 3 133 135 346 347
noncomputable def f173 : Obj := cdO "op" "Bank.op" 380 77 2 3 168 170 385 386
noncomputable def f180 : Obj := cdO "args" "Bank.args" 388 80 2 3 175 177 393 394
noncomputable def f187 : Obj := cdO "sort" "Bank.sort" 396 83 2 3 182 184 401 402
noncomputable def f194 : Obj := cdO "data" "Bank.data" 404 86 2 3 189 191 409 410
noncomputable def f208 : Obj := cdO "size" "Bank.size" 420 92 1 3 203 205 424 425
noncomputable def f215 : Obj := cdO "make" "Bank.make" 427 95 5 3 210 212 437 438
noncomputable def f222 : Obj := cdO "find_made" "Bank.find_made" 440 107 5 3 217 219 448 449
noncomputable def f236 : Obj := cdO "want" "Bank.want" 459 113 4 3 231 233 466 467
noncomputable def f243 : Obj := cdO "want_all" "Bank.want_all" 469 117 4 3 238 240 477 478
noncomputable def f271 : Obj := cdO "parts" "Bank.parts" 502 130 2 3 266 268 507 508
noncomputable def f278 : Obj := cdO "parts_of_all" "Bank.parts_of_all" 510 133 2 3 273 275 522 523
noncomputable def f299 : Obj := cdO "not_of" "BoolBank.not_of" 558 152 2 3 294 296 563 564
noncomputable def f306 : Obj := cdO "and_of" "BoolBank.and_of" 566 162 2 3 301 303 571 572
noncomputable def f313 : Obj := cdO "or_of" "BoolBank.or_of" 574 168 2 3 308 310 579 580
noncomputable def f320 : Obj := cdO "xor_of" "BoolBank.xor_of" 582 174 3 3 315 317 588 589
noncomputable def f327 : Obj := cdO "implies_of" "BoolBank.implies_of" 591 178 3 3 322 324 597 598
noncomputable def f341 : Obj := cdO "eq" "BoolBank.eq" 609 185 3 3 336 338 615 616
noncomputable def f348 : Obj := cdO "distinct" "BoolBank.distinct" 618 191 2 3 343 345 623 624
noncomputable def f355 : Obj := cdO "ite" "BoolBank.ite" 626 197 4 3 350 352 633 634
noncomputable def f362 : Obj := cdO "app" "BoolBank.app" 636 202 3 3 357 359 645 646
noncomputable def f369 : Obj := cdO "folded" "BoolBank.folded" 648 210 3 3 364 366 654 655
noncomputable def f395 : Obj := cdO "_law_dip" "_law_dip" 681 225 2 3 390 392 687 688
noncomputable def f402 : Obj := cdO "_law_entered" "_law_entered" 690 231 5 3 397 399 699 700
noncomputable def f409 : Obj := cdO "_law_denied" "_law_denied" 702 237 2 3 404 406 711 712
noncomputable def f416 : Obj := cdO "_law_alike" "_law_alike" 714 242 3 3 411 413 720 721
noncomputable def f423 : Obj := cdO "_law_due" "_law_due" 723 244 5 3 418 420 731 732
noncomputable def f430 : Obj := cdO "_law_made" "_law_made" 734 252 4 3 425 427 741 742
noncomputable def f435 : Obj := { cls := Value.type "code", data := Data.fields #[Value.str (Str.ofString "_law_drawn") 744, Value.str (Str.ofString "_law_drawn") 745, Value.str (Str.ofString "/claim/cut.py") 746, Value.int 266 0, Value.int 4 0, Value.int 0 0, Value.int 0 0, Value.int 3 0, Value.ref 432, Value.bool true, Value.int 181 0, Value.ref 433, Value.none, Value.none, Value.none, Value.ref 434, Value.int 747 0, Value.int 266 0, Value.str (Str.ofString "/claim/cut.py") 748] }
noncomputable def f442 : Obj := cdO "_law_down" "_law_down" 750 279 3 3 437 439 757 758
noncomputable def f449 : Obj := cdO "_law_is_found" "_law_is_found" 760 284 3 3 444 446 768 769
noncomputable def f456 : Obj := cdO "_law_is_again" "_law_is_again" 771 288 4 3 451 453 790 791
noncomputable def f461 : Obj := { cls := Value.type "code", data := Data.fields #[Value.str (Str.ofString "law") 793, Value.str (Str.ofString "law") 794, Value.str (Str.ofString "/claim/cut.py") 795, Value.int 297 0, Value.int 1 0, Value.int 0 0, Value.int 0 0, Value.int 3 0, Value.ref 458, Value.bool true, Value.int 181 0, Value.ref 459, Value.none, Value.none, Value.none, Value.ref 460, Value.int 796 0, Value.int 297 0, Value.str (Str.ofString "/claim/cut.py") 797] }

noncomputable def KH (P : Params) : Frag := (nat_lit 2, f2 P) :: (nat_lit 3, f3 P) :: (nat_lit 82, f82) :: (nat_lit 83, f83) :: (nat_lit 96, f96) :: (nat_lit 97, f97) :: (nat_lit 124, f124) :: (nat_lit 125, f125) :: (nat_lit 138, f138) :: (nat_lit 139, f139) :: (nat_lit 173, f173) :: (nat_lit 174, f174) :: (nat_lit 180, f180) :: (nat_lit 181, f181) :: (nat_lit 187, f187) :: (nat_lit 188, f188) :: (nat_lit 194, f194) :: (nat_lit 195, f195) :: (nat_lit 208, f208) :: (nat_lit 209, f209) :: (nat_lit 215, f215) :: (nat_lit 216, f216) :: (nat_lit 222, f222) :: (nat_lit 223, f223) :: (nat_lit 236, f236) :: (nat_lit 237, f237) :: (nat_lit 243, f243) :: (nat_lit 244, f244) :: (nat_lit 271, f271) :: (nat_lit 272, f272) :: (nat_lit 278, f278) :: (nat_lit 279, f279) :: (nat_lit 281, f281 P) :: (nat_lit 282, f282) :: (nat_lit 299, f299) :: (nat_lit 300, f300) :: (nat_lit 306, f306) :: (nat_lit 307, f307) :: (nat_lit 313, f313) :: (nat_lit 314, f314) :: (nat_lit 320, f320) :: (nat_lit 321, f321) :: (nat_lit 327, f327) :: (nat_lit 328, f328) :: (nat_lit 341, f341) :: (nat_lit 342, f342) :: (nat_lit 348, f348) :: (nat_lit 349, f349) :: (nat_lit 355, f355) :: (nat_lit 356, f356) :: (nat_lit 362, f362) :: (nat_lit 363, f363) :: (nat_lit 369, f369) :: (nat_lit 370, f370) :: (nat_lit 386, f386 P) :: (nat_lit 387, f387) :: (nat_lit 395, f395) :: (nat_lit 396, f396) :: (nat_lit 402, f402) :: (nat_lit 403, f403) :: (nat_lit 409, f409) :: (nat_lit 410, f410) :: (nat_lit 416, f416) :: (nat_lit 417, f417) :: (nat_lit 423, f423) :: (nat_lit 424, f424) :: (nat_lit 430, f430) :: (nat_lit 431, f431) :: (nat_lit 435, f435) :: (nat_lit 436, f436) :: (nat_lit 442, f442) :: (nat_lit 443, f443) :: (nat_lit 449, f449) :: (nat_lit 450, f450) :: (nat_lit 456, f456) :: (nat_lit 457, f457) :: (nat_lit 461, f461) :: (nat_lit 462, f462) :: []
noncomputable def KHs : List Addr := 2 :: 3 :: 82 :: 83 :: 96 :: 97 :: 124 :: 125 :: 138 :: 139 :: 173 :: 174 :: 180 :: 181 :: 187 :: 188 :: 194 :: 195 :: 208 :: 209 :: 215 :: 216 :: 222 :: 223 :: 236 :: 237 :: 243 :: 244 :: 271 :: 272 :: 278 :: 279 :: 281 :: 282 :: 299 :: 300 :: 306 :: 307 :: 313 :: 314 :: 320 :: 321 :: 327 :: 328 :: 341 :: 342 :: 348 :: 349 :: 355 :: 356 :: 362 :: 363 :: 369 :: 370 :: 386 :: 387 :: 395 :: 396 :: 402 :: 403 :: 409 :: 410 :: 416 :: 417 :: 423 :: 424 :: 430 :: 431 :: 435 :: 436 :: 442 :: 443 :: 449 :: 450 :: 456 :: 457 :: 461 :: 462 :: []
theorem opens : ∀ w : World, (fencedOpening treeTable PP w 4000).map (fun s => (s.heap, s.gens, s.drawn, s.toks)) = some (boot_heap w.params, Array.mk [], boot_drawn, boot_toks) :=
  boot_open (by kernel_rfl) (by decide) (fun s => by kernel_rfl)
theorem size0 (w : World) : ((boot_heap w.params).isNs mainGlobals && (Array.mk ([] : List GenState)).size == 0, (boot_heap w.params).objs.size, (boot_heap w.params).nsMap mainGlobals "__annotations__") = (true, 11, some (.ref 6)) := by kernel_rfl
noncomputable def q : Program := view PP [19]
noncomputable def loose : List Str := (["_wall", "__name__", "SmtError", "SortFault", "BOOL", "Bank", "BoolBank", "_law_dip", "_law_entered", "_law_denied", "_law_alike", "_law_due", "_law_made", "_law_drawn", "_law_down", "_law_is_found", "_law_is_again"] : List String).map Str.ofString
noncomputable abbrev HK : Hook := kHook KH KHs (fun _ => by kernel_rfl)
theorem runs (w : World) (os : OsState) : (topRunQ PP w 11 (some (.ref 6)) 4000 ⟨bootT w.params, 11, (boot_heap w.params).life, Array.mk [], boot_drawn, boot_toks, os⟩ (topStub PP)).map (fun s =>
      (staticsOk (PySem.W.Fast.tw5923862056798008813 PP.main.body) (boot_heap w.params) s.abs.heap && namesBound PP s.abs.heap && gensDone s.abs && laidKept (boot_heap w.params) s.abs.heap, PySem.W.Fast.tw4187177175401517315 q loose (PySem.W.Fast.tw5923862056798008813 PP.main.body) (fun s => xlAt q [] s && recOk (RowW.records PySem.Challenge.rw_nz0140_01.row.toRowW) s) true s.abs, HK.obs s.abs)) = some (true, openGood q loose, HK.val w) := by kernel_rfl
theorem left : LeftO PP q loose (fun s => xlAt q [] s && recOk (RowW.records PySem.Challenge.rw_nz0140_01.row.toRowW) s) HK.obs HK.val 4000 :=
  left_of opens boot_abs size0 (fun w os => by
    rw [topRunQ_eq, PySem.W.Fast.te4187177175401517315, PySem.W.Fast.te5923862056798008813]
    exact runs w os)
noncomputable def sdLook : Look := { strict := false, foot := none, bare := [] }
theorem sdRoad : Fast.tw8326940854005059898 sdLook (Fast.tw2368527892694137696 Challenge.rw_nz0140_01).prog.main.body = true := by kernel_rfl
theorem sdA : Fast.tw11788848310118352699 (Fast.tw2368527892694137696 Challenge.rw_nz0140_01).prog.main = true := by kernel_rfl
theorem sdB : (Fast.tw17119622794617984870 (Fast.tw2368527892694137696 Challenge.rw_nz0140_01).prog (Fast.tw2368527892694137696 Challenge.rw_nz0140_01).prog.main.body fun _ n => Fast.tw17868728402115742887 n) = true := by kernel_rfl
theorem sdC : Fast.tw8377067652309620493 (Fast.tw2368527892694137696 Challenge.rw_nz0140_01).prog = true := by kernel_rfl
theorem sdD : Fast.tw12908688711261696721 (Fast.tw2368527892694137696 Challenge.rw_nz0140_01).prog = true := by
  delta Fast.tw12908688711261696721
  repeat' (with_reducible refine look_both ?_ ?_)
  · with_reducible exact sdA
  · as_aux_lemma => kernel_rfl
  · with_reducible exact sdC
  · as_aux_lemma => kernel_rfl
  · refine Eq.trans (congrArg (fun k => Fast.tw8326940854005059898 k (Fast.tw2368527892694137696 Challenge.rw_nz0140_01).prog.main.body) (?_ : _ = sdLook)) sdRoad
    as_aux_lemma => kernel_rfl
  · with_reducible exact sdB
theorem sdE : Fast.tw2436336058641802641 (Fast.tw2368527892694137696 Challenge.rw_nz0140_01) = true := by
  delta Fast.tw2436336058641802641
  repeat' (with_reducible refine look_both ?_ ?_)
  · exact sdD
  all_goals (as_aux_lemma => kernel_rfl)
theorem sdF : Fast.tw17960256430627541270 (Fast.tw2368527892694137696 Challenge.rw_nz0140_01) = true := by
  delta Fast.tw17960256430627541270
  refine look_both (look_both sdE ?_) ?_
  all_goals (as_aux_lemma => kernel_rfl)
theorem said : PySem.Challenge.rw_nz0140_01.wellSaid = true := by
  rw [PySem.W.Fast.te9446332074065402090]
  delta PySem.W.Fast.tw9446332074065402090
  repeat' (with_reducible refine look_both ?_ ?_)
  · exact sdF
  all_goals (as_aux_lemma => kernel_rfl)
end
theorem fill : KH = KH ∧ PySem.Challenge.rw_nz0140_01 = PySem.Challenge.rw_nz0140_01 := by k_fill; exact ⟨rfl, rfl⟩
/-! part Sp1 -/
section

theorem byN {G : Prop} (h : ∀ G' : Prop, (G → G') → G') : G := h G id
theorem neH {N : Addr → Option Obj} {a b : Addr} {x y : Option Obj} (h1 : N a = x) (h2 : N b = y) (h : x ≠ y) : a ≠ b := fun q => h (h1.symm.trans (q ▸ h2))
theorem e0_2 {A0 A1 : Prop} {G : Prop} (h : A0 ∧ A1) (k : A0 → A1 → G) : G := k h.1 h.2
theorem e0_3 {A0 A1 A2 : Prop} {G : Prop} (h : A0 ∧ A1 ∧ A2) (k : A0 → A1 → A2 → G) : G := k h.1 h.2.1 h.2.2
theorem e0_4 {A0 A1 A2 A3 : Prop} {G : Prop} (h : A0 ∧ A1 ∧ A2 ∧ A3) (k : A0 → A1 → A2 → A3 → G) : G := k h.1 h.2.1 h.2.2.1 h.2.2.2
theorem e0_5 {A0 A1 A2 A3 A4 : Prop} {G : Prop} (h : A0 ∧ A1 ∧ A2 ∧ A3 ∧ A4) (k : A0 → A1 → A2 → A3 → A4 → G) : G := k h.1 h.2.1 h.2.2.1 h.2.2.2.1 h.2.2.2.2
theorem e0_6 {A0 A1 A2 A3 A4 A5 : Prop} {G : Prop} (h : A0 ∧ A1 ∧ A2 ∧ A3 ∧ A4 ∧ A5) (k : A0 → A1 → A2 → A3 → A4 → A5 → G) : G := k h.1 h.2.1 h.2.2.1 h.2.2.2.1 h.2.2.2.2.1 h.2.2.2.2.2
theorem e0_7 {A0 A1 A2 A3 A4 A5 A6 : Prop} {G : Prop} (h : A0 ∧ A1 ∧ A2 ∧ A3 ∧ A4 ∧ A5 ∧ A6) (k : A0 → A1 → A2 → A3 → A4 → A5 → A6 → G) : G := k h.1 h.2.1 h.2.2.1 h.2.2.2.1 h.2.2.2.2.1 h.2.2.2.2.2.1 h.2.2.2.2.2.2
theorem e1_1 {α0 : Type} {A0 : α0 → Prop} {G : Prop} (h : ∃ x0, A0 x0) (k : ∀ x0, A0 x0 → G) : G := h.elim fun x0 h => k x0 h
theorem e1_2 {α0 : Type} {A0 A1 : α0 → Prop} {G : Prop} (h : ∃ x0, A0 x0 ∧ A1 x0) (k : ∀ x0, A0 x0 → A1 x0 → G) : G := h.elim fun x0 h => k x0 h.1 h.2
theorem e1_3 {α0 : Type} {A0 A1 A2 : α0 → Prop} {G : Prop} (h : ∃ x0, A0 x0 ∧ A1 x0 ∧ A2 x0) (k : ∀ x0, A0 x0 → A1 x0 → A2 x0 → G) : G := h.elim fun x0 h => k x0 h.1 h.2.1 h.2.2
theorem e1_4 {α0 : Type} {A0 A1 A2 A3 : α0 → Prop} {G : Prop} (h : ∃ x0, A0 x0 ∧ A1 x0 ∧ A2 x0 ∧ A3 x0) (k : ∀ x0, A0 x0 → A1 x0 → A2 x0 → A3 x0 → G) : G := h.elim fun x0 h => k x0 h.1 h.2.1 h.2.2.1 h.2.2.2
theorem e1_5 {α0 : Type} {A0 A1 A2 A3 A4 : α0 → Prop} {G : Prop} (h : ∃ x0, A0 x0 ∧ A1 x0 ∧ A2 x0 ∧ A3 x0 ∧ A4 x0) (k : ∀ x0, A0 x0 → A1 x0 → A2 x0 → A3 x0 → A4 x0 → G) : G := h.elim fun x0 h => k x0 h.1 h.2.1 h.2.2.1 h.2.2.2.1 h.2.2.2.2
theorem e2_1 {α0 α1 : Type} {A0 : α0 → α1 → Prop} {G : Prop} (h : ∃ x0 x1, A0 x0 x1) (k : ∀ x0 x1, A0 x0 x1 → G) : G := h.elim fun x0 h => h.elim fun x1 h => k x0 x1 h
theorem e2_2 {α0 α1 : Type} {A0 A1 : α0 → α1 → Prop} {G : Prop} (h : ∃ x0 x1, A0 x0 x1 ∧ A1 x0 x1) (k : ∀ x0 x1, A0 x0 x1 → A1 x0 x1 → G) : G := h.elim fun x0 h => h.elim fun x1 h => k x0 x1 h.1 h.2
theorem e2_3 {α0 α1 : Type} {A0 A1 A2 : α0 → α1 → Prop} {G : Prop} (h : ∃ x0 x1, A0 x0 x1 ∧ A1 x0 x1 ∧ A2 x0 x1) (k : ∀ x0 x1, A0 x0 x1 → A1 x0 x1 → A2 x0 x1 → G) : G := h.elim fun x0 h => h.elim fun x1 h => k x0 x1 h.1 h.2.1 h.2.2
theorem e2_4 {α0 α1 : Type} {A0 A1 A2 A3 : α0 → α1 → Prop} {G : Prop} (h : ∃ x0 x1, A0 x0 x1 ∧ A1 x0 x1 ∧ A2 x0 x1 ∧ A3 x0 x1) (k : ∀ x0 x1, A0 x0 x1 → A1 x0 x1 → A2 x0 x1 → A3 x0 x1 → G) : G := h.elim fun x0 h => h.elim fun x1 h => k x0 x1 h.1 h.2.1 h.2.2.1 h.2.2.2
theorem e2_5 {α0 α1 : Type} {A0 A1 A2 A3 A4 : α0 → α1 → Prop} {G : Prop} (h : ∃ x0 x1, A0 x0 x1 ∧ A1 x0 x1 ∧ A2 x0 x1 ∧ A3 x0 x1 ∧ A4 x0 x1) (k : ∀ x0 x1, A0 x0 x1 → A1 x0 x1 → A2 x0 x1 → A3 x0 x1 → A4 x0 x1 → G) : G := h.elim fun x0 h => h.elim fun x1 h => k x0 x1 h.1 h.2.1 h.2.2.1 h.2.2.2.1 h.2.2.2.2
theorem e2_6 {α0 α1 : Type} {A0 A1 A2 A3 A4 A5 : α0 → α1 → Prop} {G : Prop} (h : ∃ x0 x1, A0 x0 x1 ∧ A1 x0 x1 ∧ A2 x0 x1 ∧ A3 x0 x1 ∧ A4 x0 x1 ∧ A5 x0 x1) (k : ∀ x0 x1, A0 x0 x1 → A1 x0 x1 → A2 x0 x1 → A3 x0 x1 → A4 x0 x1 → A5 x0 x1 → G) : G := h.elim fun x0 h => h.elim fun x1 h => k x0 x1 h.1 h.2.1 h.2.2.1 h.2.2.2.1 h.2.2.2.2.1 h.2.2.2.2.2
theorem e2_8 {α0 α1 : Type} {A0 A1 A2 A3 A4 A5 A6 A7 : α0 → α1 → Prop} {G : Prop} (h : ∃ x0 x1, A0 x0 x1 ∧ A1 x0 x1 ∧ A2 x0 x1 ∧ A3 x0 x1 ∧ A4 x0 x1 ∧ A5 x0 x1 ∧ A6 x0 x1 ∧ A7 x0 x1) (k : ∀ x0 x1, A0 x0 x1 → A1 x0 x1 → A2 x0 x1 → A3 x0 x1 → A4 x0 x1 → A5 x0 x1 → A6 x0 x1 → A7 x0 x1 → G) : G := h.elim fun x0 h => h.elim fun x1 h => k x0 x1 h.1 h.2.1 h.2.2.1 h.2.2.2.1 h.2.2.2.2.1 h.2.2.2.2.2.1 h.2.2.2.2.2.2.1 h.2.2.2.2.2.2.2
theorem e3_1 {α0 α1 α2 : Type} {A0 : α0 → α1 → α2 → Prop} {G : Prop} (h : ∃ x0 x1 x2, A0 x0 x1 x2) (k : ∀ x0 x1 x2, A0 x0 x1 x2 → G) : G := h.elim fun x0 h => h.elim fun x1 h => h.elim fun x2 h => k x0 x1 x2 h
theorem e3_2 {α0 α1 α2 : Type} {A0 A1 : α0 → α1 → α2 → Prop} {G : Prop} (h : ∃ x0 x1 x2, A0 x0 x1 x2 ∧ A1 x0 x1 x2) (k : ∀ x0 x1 x2, A0 x0 x1 x2 → A1 x0 x1 x2 → G) : G := h.elim fun x0 h => h.elim fun x1 h => h.elim fun x2 h => k x0 x1 x2 h.1 h.2
theorem e3_3 {α0 α1 α2 : Type} {A0 A1 A2 : α0 → α1 → α2 → Prop} {G : Prop} (h : ∃ x0 x1 x2, A0 x0 x1 x2 ∧ A1 x0 x1 x2 ∧ A2 x0 x1 x2) (k : ∀ x0 x1 x2, A0 x0 x1 x2 → A1 x0 x1 x2 → A2 x0 x1 x2 → G) : G := h.elim fun x0 h => h.elim fun x1 h => h.elim fun x2 h => k x0 x1 x2 h.1 h.2.1 h.2.2
theorem e3_4 {α0 α1 α2 : Type} {A0 A1 A2 A3 : α0 → α1 → α2 → Prop} {G : Prop} (h : ∃ x0 x1 x2, A0 x0 x1 x2 ∧ A1 x0 x1 x2 ∧ A2 x0 x1 x2 ∧ A3 x0 x1 x2) (k : ∀ x0 x1 x2, A0 x0 x1 x2 → A1 x0 x1 x2 → A2 x0 x1 x2 → A3 x0 x1 x2 → G) : G := h.elim fun x0 h => h.elim fun x1 h => h.elim fun x2 h => k x0 x1 x2 h.1 h.2.1 h.2.2.1 h.2.2.2
theorem e3_5 {α0 α1 α2 : Type} {A0 A1 A2 A3 A4 : α0 → α1 → α2 → Prop} {G : Prop} (h : ∃ x0 x1 x2, A0 x0 x1 x2 ∧ A1 x0 x1 x2 ∧ A2 x0 x1 x2 ∧ A3 x0 x1 x2 ∧ A4 x0 x1 x2) (k : ∀ x0 x1 x2, A0 x0 x1 x2 → A1 x0 x1 x2 → A2 x0 x1 x2 → A3 x0 x1 x2 → A4 x0 x1 x2 → G) : G := h.elim fun x0 h => h.elim fun x1 h => h.elim fun x2 h => k x0 x1 x2 h.1 h.2.1 h.2.2.1 h.2.2.2.1 h.2.2.2.2
theorem e3_6 {α0 α1 α2 : Type} {A0 A1 A2 A3 A4 A5 : α0 → α1 → α2 → Prop} {G : Prop} (h : ∃ x0 x1 x2, A0 x0 x1 x2 ∧ A1 x0 x1 x2 ∧ A2 x0 x1 x2 ∧ A3 x0 x1 x2 ∧ A4 x0 x1 x2 ∧ A5 x0 x1 x2) (k : ∀ x0 x1 x2, A0 x0 x1 x2 → A1 x0 x1 x2 → A2 x0 x1 x2 → A3 x0 x1 x2 → A4 x0 x1 x2 → A5 x0 x1 x2 → G) : G := h.elim fun x0 h => h.elim fun x1 h => h.elim fun x2 h => k x0 x1 x2 h.1 h.2.1 h.2.2.1 h.2.2.2.1 h.2.2.2.2.1 h.2.2.2.2.2
theorem e4_2 {α0 α1 α2 α3 : Type} {A0 A1 : α0 → α1 → α2 → α3 → Prop} {G : Prop} (h : ∃ x0 x1 x2 x3, A0 x0 x1 x2 x3 ∧ A1 x0 x1 x2 x3) (k : ∀ x0 x1 x2 x3, A0 x0 x1 x2 x3 → A1 x0 x1 x2 x3 → G) : G := h.elim fun x0 h => h.elim fun x1 h => h.elim fun x2 h => h.elim fun x3 h => k x0 x1 x2 x3 h.1 h.2
theorem e4_4 {α0 α1 α2 α3 : Type} {A0 A1 A2 A3 : α0 → α1 → α2 → α3 → Prop} {G : Prop} (h : ∃ x0 x1 x2 x3, A0 x0 x1 x2 x3 ∧ A1 x0 x1 x2 x3 ∧ A2 x0 x1 x2 x3 ∧ A3 x0 x1 x2 x3) (k : ∀ x0 x1 x2 x3, A0 x0 x1 x2 x3 → A1 x0 x1 x2 x3 → A2 x0 x1 x2 x3 → A3 x0 x1 x2 x3 → G) : G := h.elim fun x0 h => h.elim fun x1 h => h.elim fun x2 h => h.elim fun x3 h => k x0 x1 x2 x3 h.1 h.2.1 h.2.2.1 h.2.2.2
theorem e4_5 {α0 α1 α2 α3 : Type} {A0 A1 A2 A3 A4 : α0 → α1 → α2 → α3 → Prop} {G : Prop} (h : ∃ x0 x1 x2 x3, A0 x0 x1 x2 x3 ∧ A1 x0 x1 x2 x3 ∧ A2 x0 x1 x2 x3 ∧ A3 x0 x1 x2 x3 ∧ A4 x0 x1 x2 x3) (k : ∀ x0 x1 x2 x3, A0 x0 x1 x2 x3 → A1 x0 x1 x2 x3 → A2 x0 x1 x2 x3 → A3 x0 x1 x2 x3 → A4 x0 x1 x2 x3 → G) : G := h.elim fun x0 h => h.elim fun x1 h => h.elim fun x2 h => h.elim fun x3 h => k x0 x1 x2 x3 h.1 h.2.1 h.2.2.1 h.2.2.2.1 h.2.2.2.2
theorem e4_6 {α0 α1 α2 α3 : Type} {A0 A1 A2 A3 A4 A5 : α0 → α1 → α2 → α3 → Prop} {G : Prop} (h : ∃ x0 x1 x2 x3, A0 x0 x1 x2 x3 ∧ A1 x0 x1 x2 x3 ∧ A2 x0 x1 x2 x3 ∧ A3 x0 x1 x2 x3 ∧ A4 x0 x1 x2 x3 ∧ A5 x0 x1 x2 x3) (k : ∀ x0 x1 x2 x3, A0 x0 x1 x2 x3 → A1 x0 x1 x2 x3 → A2 x0 x1 x2 x3 → A3 x0 x1 x2 x3 → A4 x0 x1 x2 x3 → A5 x0 x1 x2 x3 → G) : G := h.elim fun x0 h => h.elim fun x1 h => h.elim fun x2 h => h.elim fun x3 h => k x0 x1 x2 x3 h.1 h.2.1 h.2.2.1 h.2.2.2.1 h.2.2.2.2.1 h.2.2.2.2.2
theorem e4_7 {α0 α1 α2 α3 : Type} {A0 A1 A2 A3 A4 A5 A6 : α0 → α1 → α2 → α3 → Prop} {G : Prop} (h : ∃ x0 x1 x2 x3, A0 x0 x1 x2 x3 ∧ A1 x0 x1 x2 x3 ∧ A2 x0 x1 x2 x3 ∧ A3 x0 x1 x2 x3 ∧ A4 x0 x1 x2 x3 ∧ A5 x0 x1 x2 x3 ∧ A6 x0 x1 x2 x3) (k : ∀ x0 x1 x2 x3, A0 x0 x1 x2 x3 → A1 x0 x1 x2 x3 → A2 x0 x1 x2 x3 → A3 x0 x1 x2 x3 → A4 x0 x1 x2 x3 → A5 x0 x1 x2 x3 → A6 x0 x1 x2 x3 → G) : G := h.elim fun x0 h => h.elim fun x1 h => h.elim fun x2 h => h.elim fun x3 h => k x0 x1 x2 x3 h.1 h.2.1 h.2.2.1 h.2.2.2.1 h.2.2.2.2.1 h.2.2.2.2.2.1 h.2.2.2.2.2.2
theorem e4_11 {α0 α1 α2 α3 : Type} {A0 A1 A2 A3 A4 A5 A6 A7 A8 A9 A10 : α0 → α1 → α2 → α3 → Prop} {G : Prop} (h : ∃ x0 x1 x2 x3, A0 x0 x1 x2 x3 ∧ A1 x0 x1 x2 x3 ∧ A2 x0 x1 x2 x3 ∧ A3 x0 x1 x2 x3 ∧ A4 x0 x1 x2 x3 ∧ A5 x0 x1 x2 x3 ∧ A6 x0 x1 x2 x3 ∧ A7 x0 x1 x2 x3 ∧ A8 x0 x1 x2 x3 ∧ A9 x0 x1 x2 x3 ∧ A10 x0 x1 x2 x3) (k : ∀ x0 x1 x2 x3, A0 x0 x1 x2 x3 → A1 x0 x1 x2 x3 → A2 x0 x1 x2 x3 → A3 x0 x1 x2 x3 → A4 x0 x1 x2 x3 → A5 x0 x1 x2 x3 → A6 x0 x1 x2 x3 → A7 x0 x1 x2 x3 → A8 x0 x1 x2 x3 → A9 x0 x1 x2 x3 → A10 x0 x1 x2 x3 → G) : G := h.elim fun x0 h => h.elim fun x1 h => h.elim fun x2 h => h.elim fun x3 h => k x0 x1 x2 x3 h.1 h.2.1 h.2.2.1 h.2.2.2.1 h.2.2.2.2.1 h.2.2.2.2.2.1 h.2.2.2.2.2.2.1 h.2.2.2.2.2.2.2.1 h.2.2.2.2.2.2.2.2.1 h.2.2.2.2.2.2.2.2.2.1 h.2.2.2.2.2.2.2.2.2.2
theorem e5_1 {α0 α1 α2 α3 α4 : Type} {A0 : α0 → α1 → α2 → α3 → α4 → Prop} {G : Prop} (h : ∃ x0 x1 x2 x3 x4, A0 x0 x1 x2 x3 x4) (k : ∀ x0 x1 x2 x3 x4, A0 x0 x1 x2 x3 x4 → G) : G := h.elim fun x0 h => h.elim fun x1 h => h.elim fun x2 h => h.elim fun x3 h => h.elim fun x4 h => k x0 x1 x2 x3 x4 h
theorem e5_2 {α0 α1 α2 α3 α4 : Type} {A0 A1 : α0 → α1 → α2 → α3 → α4 → Prop} {G : Prop} (h : ∃ x0 x1 x2 x3 x4, A0 x0 x1 x2 x3 x4 ∧ A1 x0 x1 x2 x3 x4) (k : ∀ x0 x1 x2 x3 x4, A0 x0 x1 x2 x3 x4 → A1 x0 x1 x2 x3 x4 → G) : G := h.elim fun x0 h => h.elim fun x1 h => h.elim fun x2 h => h.elim fun x3 h => h.elim fun x4 h => k x0 x1 x2 x3 x4 h.1 h.2
theorem e5_3 {α0 α1 α2 α3 α4 : Type} {A0 A1 A2 : α0 → α1 → α2 → α3 → α4 → Prop} {G : Prop} (h : ∃ x0 x1 x2 x3 x4, A0 x0 x1 x2 x3 x4 ∧ A1 x0 x1 x2 x3 x4 ∧ A2 x0 x1 x2 x3 x4) (k : ∀ x0 x1 x2 x3 x4, A0 x0 x1 x2 x3 x4 → A1 x0 x1 x2 x3 x4 → A2 x0 x1 x2 x3 x4 → G) : G := h.elim fun x0 h => h.elim fun x1 h => h.elim fun x2 h => h.elim fun x3 h => h.elim fun x4 h => k x0 x1 x2 x3 x4 h.1 h.2.1 h.2.2
theorem e5_4 {α0 α1 α2 α3 α4 : Type} {A0 A1 A2 A3 : α0 → α1 → α2 → α3 → α4 → Prop} {G : Prop} (h : ∃ x0 x1 x2 x3 x4, A0 x0 x1 x2 x3 x4 ∧ A1 x0 x1 x2 x3 x4 ∧ A2 x0 x1 x2 x3 x4 ∧ A3 x0 x1 x2 x3 x4) (k : ∀ x0 x1 x2 x3 x4, A0 x0 x1 x2 x3 x4 → A1 x0 x1 x2 x3 x4 → A2 x0 x1 x2 x3 x4 → A3 x0 x1 x2 x3 x4 → G) : G := h.elim fun x0 h => h.elim fun x1 h => h.elim fun x2 h => h.elim fun x3 h => h.elim fun x4 h => k x0 x1 x2 x3 x4 h.1 h.2.1 h.2.2.1 h.2.2.2
theorem e5_5 {α0 α1 α2 α3 α4 : Type} {A0 A1 A2 A3 A4 : α0 → α1 → α2 → α3 → α4 → Prop} {G : Prop} (h : ∃ x0 x1 x2 x3 x4, A0 x0 x1 x2 x3 x4 ∧ A1 x0 x1 x2 x3 x4 ∧ A2 x0 x1 x2 x3 x4 ∧ A3 x0 x1 x2 x3 x4 ∧ A4 x0 x1 x2 x3 x4) (k : ∀ x0 x1 x2 x3 x4, A0 x0 x1 x2 x3 x4 → A1 x0 x1 x2 x3 x4 → A2 x0 x1 x2 x3 x4 → A3 x0 x1 x2 x3 x4 → A4 x0 x1 x2 x3 x4 → G) : G := h.elim fun x0 h => h.elim fun x1 h => h.elim fun x2 h => h.elim fun x3 h => h.elim fun x4 h => k x0 x1 x2 x3 x4 h.1 h.2.1 h.2.2.1 h.2.2.2.1 h.2.2.2.2
theorem e5_6 {α0 α1 α2 α3 α4 : Type} {A0 A1 A2 A3 A4 A5 : α0 → α1 → α2 → α3 → α4 → Prop} {G : Prop} (h : ∃ x0 x1 x2 x3 x4, A0 x0 x1 x2 x3 x4 ∧ A1 x0 x1 x2 x3 x4 ∧ A2 x0 x1 x2 x3 x4 ∧ A3 x0 x1 x2 x3 x4 ∧ A4 x0 x1 x2 x3 x4 ∧ A5 x0 x1 x2 x3 x4) (k : ∀ x0 x1 x2 x3 x4, A0 x0 x1 x2 x3 x4 → A1 x0 x1 x2 x3 x4 → A2 x0 x1 x2 x3 x4 → A3 x0 x1 x2 x3 x4 → A4 x0 x1 x2 x3 x4 → A5 x0 x1 x2 x3 x4 → G) : G := h.elim fun x0 h => h.elim fun x1 h => h.elim fun x2 h => h.elim fun x3 h => h.elim fun x4 h => k x0 x1 x2 x3 x4 h.1 h.2.1 h.2.2.1 h.2.2.2.1 h.2.2.2.2.1 h.2.2.2.2.2
theorem e5_7 {α0 α1 α2 α3 α4 : Type} {A0 A1 A2 A3 A4 A5 A6 : α0 → α1 → α2 → α3 → α4 → Prop} {G : Prop} (h : ∃ x0 x1 x2 x3 x4, A0 x0 x1 x2 x3 x4 ∧ A1 x0 x1 x2 x3 x4 ∧ A2 x0 x1 x2 x3 x4 ∧ A3 x0 x1 x2 x3 x4 ∧ A4 x0 x1 x2 x3 x4 ∧ A5 x0 x1 x2 x3 x4 ∧ A6 x0 x1 x2 x3 x4) (k : ∀ x0 x1 x2 x3 x4, A0 x0 x1 x2 x3 x4 → A1 x0 x1 x2 x3 x4 → A2 x0 x1 x2 x3 x4 → A3 x0 x1 x2 x3 x4 → A4 x0 x1 x2 x3 x4 → A5 x0 x1 x2 x3 x4 → A6 x0 x1 x2 x3 x4 → G) : G := h.elim fun x0 h => h.elim fun x1 h => h.elim fun x2 h => h.elim fun x3 h => h.elim fun x4 h => k x0 x1 x2 x3 x4 h.1 h.2.1 h.2.2.1 h.2.2.2.1 h.2.2.2.2.1 h.2.2.2.2.2.1 h.2.2.2.2.2.2
theorem e5_8 {α0 α1 α2 α3 α4 : Type} {A0 A1 A2 A3 A4 A5 A6 A7 : α0 → α1 → α2 → α3 → α4 → Prop} {G : Prop} (h : ∃ x0 x1 x2 x3 x4, A0 x0 x1 x2 x3 x4 ∧ A1 x0 x1 x2 x3 x4 ∧ A2 x0 x1 x2 x3 x4 ∧ A3 x0 x1 x2 x3 x4 ∧ A4 x0 x1 x2 x3 x4 ∧ A5 x0 x1 x2 x3 x4 ∧ A6 x0 x1 x2 x3 x4 ∧ A7 x0 x1 x2 x3 x4) (k : ∀ x0 x1 x2 x3 x4, A0 x0 x1 x2 x3 x4 → A1 x0 x1 x2 x3 x4 → A2 x0 x1 x2 x3 x4 → A3 x0 x1 x2 x3 x4 → A4 x0 x1 x2 x3 x4 → A5 x0 x1 x2 x3 x4 → A6 x0 x1 x2 x3 x4 → A7 x0 x1 x2 x3 x4 → G) : G := h.elim fun x0 h => h.elim fun x1 h => h.elim fun x2 h => h.elim fun x3 h => h.elim fun x4 h => k x0 x1 x2 x3 x4 h.1 h.2.1 h.2.2.1 h.2.2.2.1 h.2.2.2.2.1 h.2.2.2.2.2.1 h.2.2.2.2.2.2.1 h.2.2.2.2.2.2.2
theorem e5_11 {α0 α1 α2 α3 α4 : Type} {A0 A1 A2 A3 A4 A5 A6 A7 A8 A9 A10 : α0 → α1 → α2 → α3 → α4 → Prop} {G : Prop} (h : ∃ x0 x1 x2 x3 x4, A0 x0 x1 x2 x3 x4 ∧ A1 x0 x1 x2 x3 x4 ∧ A2 x0 x1 x2 x3 x4 ∧ A3 x0 x1 x2 x3 x4 ∧ A4 x0 x1 x2 x3 x4 ∧ A5 x0 x1 x2 x3 x4 ∧ A6 x0 x1 x2 x3 x4 ∧ A7 x0 x1 x2 x3 x4 ∧ A8 x0 x1 x2 x3 x4 ∧ A9 x0 x1 x2 x3 x4 ∧ A10 x0 x1 x2 x3 x4) (k : ∀ x0 x1 x2 x3 x4, A0 x0 x1 x2 x3 x4 → A1 x0 x1 x2 x3 x4 → A2 x0 x1 x2 x3 x4 → A3 x0 x1 x2 x3 x4 → A4 x0 x1 x2 x3 x4 → A5 x0 x1 x2 x3 x4 → A6 x0 x1 x2 x3 x4 → A7 x0 x1 x2 x3 x4 → A8 x0 x1 x2 x3 x4 → A9 x0 x1 x2 x3 x4 → A10 x0 x1 x2 x3 x4 → G) : G := h.elim fun x0 h => h.elim fun x1 h => h.elim fun x2 h => h.elim fun x3 h => h.elim fun x4 h => k x0 x1 x2 x3 x4 h.1 h.2.1 h.2.2.1 h.2.2.2.1 h.2.2.2.2.1 h.2.2.2.2.2.1 h.2.2.2.2.2.2.1 h.2.2.2.2.2.2.2.1 h.2.2.2.2.2.2.2.2.1 h.2.2.2.2.2.2.2.2.2.1 h.2.2.2.2.2.2.2.2.2.2
theorem e6_4 {α0 α1 α2 α3 α4 α5 : Type} {A0 A1 A2 A3 : α0 → α1 → α2 → α3 → α4 → α5 → Prop} {G : Prop} (h : ∃ x0 x1 x2 x3 x4 x5, A0 x0 x1 x2 x3 x4 x5 ∧ A1 x0 x1 x2 x3 x4 x5 ∧ A2 x0 x1 x2 x3 x4 x5 ∧ A3 x0 x1 x2 x3 x4 x5) (k : ∀ x0 x1 x2 x3 x4 x5, A0 x0 x1 x2 x3 x4 x5 → A1 x0 x1 x2 x3 x4 x5 → A2 x0 x1 x2 x3 x4 x5 → A3 x0 x1 x2 x3 x4 x5 → G) : G := h.elim fun x0 h => h.elim fun x1 h => h.elim fun x2 h => h.elim fun x3 h => h.elim fun x4 h => h.elim fun x5 h => k x0 x1 x2 x3 x4 x5 h.1 h.2.1 h.2.2.1 h.2.2.2
theorem e6_7 {α0 α1 α2 α3 α4 α5 : Type} {A0 A1 A2 A3 A4 A5 A6 : α0 → α1 → α2 → α3 → α4 → α5 → Prop} {G : Prop} (h : ∃ x0 x1 x2 x3 x4 x5, A0 x0 x1 x2 x3 x4 x5 ∧ A1 x0 x1 x2 x3 x4 x5 ∧ A2 x0 x1 x2 x3 x4 x5 ∧ A3 x0 x1 x2 x3 x4 x5 ∧ A4 x0 x1 x2 x3 x4 x5 ∧ A5 x0 x1 x2 x3 x4 x5 ∧ A6 x0 x1 x2 x3 x4 x5) (k : ∀ x0 x1 x2 x3 x4 x5, A0 x0 x1 x2 x3 x4 x5 → A1 x0 x1 x2 x3 x4 x5 → A2 x0 x1 x2 x3 x4 x5 → A3 x0 x1 x2 x3 x4 x5 → A4 x0 x1 x2 x3 x4 x5 → A5 x0 x1 x2 x3 x4 x5 → A6 x0 x1 x2 x3 x4 x5 → G) : G := h.elim fun x0 h => h.elim fun x1 h => h.elim fun x2 h => h.elim fun x3 h => h.elim fun x4 h => h.elim fun x5 h => k x0 x1 x2 x3 x4 x5 h.1 h.2.1 h.2.2.1 h.2.2.2.1 h.2.2.2.2.1 h.2.2.2.2.2.1 h.2.2.2.2.2.2
theorem e6_8 {α0 α1 α2 α3 α4 α5 : Type} {A0 A1 A2 A3 A4 A5 A6 A7 : α0 → α1 → α2 → α3 → α4 → α5 → Prop} {G : Prop} (h : ∃ x0 x1 x2 x3 x4 x5, A0 x0 x1 x2 x3 x4 x5 ∧ A1 x0 x1 x2 x3 x4 x5 ∧ A2 x0 x1 x2 x3 x4 x5 ∧ A3 x0 x1 x2 x3 x4 x5 ∧ A4 x0 x1 x2 x3 x4 x5 ∧ A5 x0 x1 x2 x3 x4 x5 ∧ A6 x0 x1 x2 x3 x4 x5 ∧ A7 x0 x1 x2 x3 x4 x5) (k : ∀ x0 x1 x2 x3 x4 x5, A0 x0 x1 x2 x3 x4 x5 → A1 x0 x1 x2 x3 x4 x5 → A2 x0 x1 x2 x3 x4 x5 → A3 x0 x1 x2 x3 x4 x5 → A4 x0 x1 x2 x3 x4 x5 → A5 x0 x1 x2 x3 x4 x5 → A6 x0 x1 x2 x3 x4 x5 → A7 x0 x1 x2 x3 x4 x5 → G) : G := h.elim fun x0 h => h.elim fun x1 h => h.elim fun x2 h => h.elim fun x3 h => h.elim fun x4 h => h.elim fun x5 h => k x0 x1 x2 x3 x4 x5 h.1 h.2.1 h.2.2.1 h.2.2.2.1 h.2.2.2.2.1 h.2.2.2.2.2.1 h.2.2.2.2.2.2.1 h.2.2.2.2.2.2.2
theorem e7_7 {α0 α1 α2 α3 α4 α5 α6 : Type} {A0 A1 A2 A3 A4 A5 A6 : α0 → α1 → α2 → α3 → α4 → α5 → α6 → Prop} {G : Prop} (h : ∃ x0 x1 x2 x3 x4 x5 x6, A0 x0 x1 x2 x3 x4 x5 x6 ∧ A1 x0 x1 x2 x3 x4 x5 x6 ∧ A2 x0 x1 x2 x3 x4 x5 x6 ∧ A3 x0 x1 x2 x3 x4 x5 x6 ∧ A4 x0 x1 x2 x3 x4 x5 x6 ∧ A5 x0 x1 x2 x3 x4 x5 x6 ∧ A6 x0 x1 x2 x3 x4 x5 x6) (k : ∀ x0 x1 x2 x3 x4 x5 x6, A0 x0 x1 x2 x3 x4 x5 x6 → A1 x0 x1 x2 x3 x4 x5 x6 → A2 x0 x1 x2 x3 x4 x5 x6 → A3 x0 x1 x2 x3 x4 x5 x6 → A4 x0 x1 x2 x3 x4 x5 x6 → A5 x0 x1 x2 x3 x4 x5 x6 → A6 x0 x1 x2 x3 x4 x5 x6 → G) : G := h.elim fun x0 h => h.elim fun x1 h => h.elim fun x2 h => h.elim fun x3 h => h.elim fun x4 h => h.elim fun x5 h => h.elim fun x6 h => k x0 x1 x2 x3 x4 x5 x6 h.1 h.2.1 h.2.2.1 h.2.2.2.1 h.2.2.2.2.1 h.2.2.2.2.2.1 h.2.2.2.2.2.2
theorem e7_9 {α0 α1 α2 α3 α4 α5 α6 : Type} {A0 A1 A2 A3 A4 A5 A6 A7 A8 : α0 → α1 → α2 → α3 → α4 → α5 → α6 → Prop} {G : Prop} (h : ∃ x0 x1 x2 x3 x4 x5 x6, A0 x0 x1 x2 x3 x4 x5 x6 ∧ A1 x0 x1 x2 x3 x4 x5 x6 ∧ A2 x0 x1 x2 x3 x4 x5 x6 ∧ A3 x0 x1 x2 x3 x4 x5 x6 ∧ A4 x0 x1 x2 x3 x4 x5 x6 ∧ A5 x0 x1 x2 x3 x4 x5 x6 ∧ A6 x0 x1 x2 x3 x4 x5 x6 ∧ A7 x0 x1 x2 x3 x4 x5 x6 ∧ A8 x0 x1 x2 x3 x4 x5 x6) (k : ∀ x0 x1 x2 x3 x4 x5 x6, A0 x0 x1 x2 x3 x4 x5 x6 → A1 x0 x1 x2 x3 x4 x5 x6 → A2 x0 x1 x2 x3 x4 x5 x6 → A3 x0 x1 x2 x3 x4 x5 x6 → A4 x0 x1 x2 x3 x4 x5 x6 → A5 x0 x1 x2 x3 x4 x5 x6 → A6 x0 x1 x2 x3 x4 x5 x6 → A7 x0 x1 x2 x3 x4 x5 x6 → A8 x0 x1 x2 x3 x4 x5 x6 → G) : G := h.elim fun x0 h => h.elim fun x1 h => h.elim fun x2 h => h.elim fun x3 h => h.elim fun x4 h => h.elim fun x5 h => h.elim fun x6 h => k x0 x1 x2 x3 x4 x5 x6 h.1 h.2.1 h.2.2.1 h.2.2.2.1 h.2.2.2.2.1 h.2.2.2.2.2.1 h.2.2.2.2.2.2.1 h.2.2.2.2.2.2.2.1 h.2.2.2.2.2.2.2.2
theorem e8_12 {α0 α1 α2 α3 α4 α5 α6 α7 : Type} {A0 A1 A2 A3 A4 A5 A6 A7 A8 A9 A10 A11 : α0 → α1 → α2 → α3 → α4 → α5 → α6 → α7 → Prop} {G : Prop} (h : ∃ x0 x1 x2 x3 x4 x5 x6 x7, A0 x0 x1 x2 x3 x4 x5 x6 x7 ∧ A1 x0 x1 x2 x3 x4 x5 x6 x7 ∧ A2 x0 x1 x2 x3 x4 x5 x6 x7 ∧ A3 x0 x1 x2 x3 x4 x5 x6 x7 ∧ A4 x0 x1 x2 x3 x4 x5 x6 x7 ∧ A5 x0 x1 x2 x3 x4 x5 x6 x7 ∧ A6 x0 x1 x2 x3 x4 x5 x6 x7 ∧ A7 x0 x1 x2 x3 x4 x5 x6 x7 ∧ A8 x0 x1 x2 x3 x4 x5 x6 x7 ∧ A9 x0 x1 x2 x3 x4 x5 x6 x7 ∧ A10 x0 x1 x2 x3 x4 x5 x6 x7 ∧ A11 x0 x1 x2 x3 x4 x5 x6 x7) (k : ∀ x0 x1 x2 x3 x4 x5 x6 x7, A0 x0 x1 x2 x3 x4 x5 x6 x7 → A1 x0 x1 x2 x3 x4 x5 x6 x7 → A2 x0 x1 x2 x3 x4 x5 x6 x7 → A3 x0 x1 x2 x3 x4 x5 x6 x7 → A4 x0 x1 x2 x3 x4 x5 x6 x7 → A5 x0 x1 x2 x3 x4 x5 x6 x7 → A6 x0 x1 x2 x3 x4 x5 x6 x7 → A7 x0 x1 x2 x3 x4 x5 x6 x7 → A8 x0 x1 x2 x3 x4 x5 x6 x7 → A9 x0 x1 x2 x3 x4 x5 x6 x7 → A10 x0 x1 x2 x3 x4 x5 x6 x7 → A11 x0 x1 x2 x3 x4 x5 x6 x7 → G) : G := h.elim fun x0 h => h.elim fun x1 h => h.elim fun x2 h => h.elim fun x3 h => h.elim fun x4 h => h.elim fun x5 h => h.elim fun x6 h => h.elim fun x7 h => k x0 x1 x2 x3 x4 x5 x6 x7 h.1 h.2.1 h.2.2.1 h.2.2.2.1 h.2.2.2.2.1 h.2.2.2.2.2.1 h.2.2.2.2.2.2.1 h.2.2.2.2.2.2.2.1 h.2.2.2.2.2.2.2.2.1 h.2.2.2.2.2.2.2.2.2.1 h.2.2.2.2.2.2.2.2.2.2.1 h.2.2.2.2.2.2.2.2.2.2.2
theorem e9_1 {α0 α1 α2 α3 α4 α5 α6 α7 α8 : Type} {A0 : α0 → α1 → α2 → α3 → α4 → α5 → α6 → α7 → α8 → Prop} {G : Prop} (h : ∃ x0 x1 x2 x3 x4 x5 x6 x7 x8, A0 x0 x1 x2 x3 x4 x5 x6 x7 x8) (k : ∀ x0 x1 x2 x3 x4 x5 x6 x7 x8, A0 x0 x1 x2 x3 x4 x5 x6 x7 x8 → G) : G := h.elim fun x0 h => h.elim fun x1 h => h.elim fun x2 h => h.elim fun x3 h => h.elim fun x4 h => h.elim fun x5 h => h.elim fun x6 h => h.elim fun x7 h => h.elim fun x8 h => k x0 x1 x2 x3 x4 x5 x6 x7 x8 h
theorem e11_10 {α0 α1 α2 α3 α4 α5 α6 α7 α8 α9 α10 : Type} {A0 A1 A2 A3 A4 A5 A6 A7 A8 A9 : α0 → α1 → α2 → α3 → α4 → α5 → α6 → α7 → α8 → α9 → α10 → Prop} {G : Prop} (h : ∃ x0 x1 x2 x3 x4 x5 x6 x7 x8 x9 x10, A0 x0 x1 x2 x3 x4 x5 x6 x7 x8 x9 x10 ∧ A1 x0 x1 x2 x3 x4 x5 x6 x7 x8 x9 x10 ∧ A2 x0 x1 x2 x3 x4 x5 x6 x7 x8 x9 x10 ∧ A3 x0 x1 x2 x3 x4 x5 x6 x7 x8 x9 x10 ∧ A4 x0 x1 x2 x3 x4 x5 x6 x7 x8 x9 x10 ∧ A5 x0 x1 x2 x3 x4 x5 x6 x7 x8 x9 x10 ∧ A6 x0 x1 x2 x3 x4 x5 x6 x7 x8 x9 x10 ∧ A7 x0 x1 x2 x3 x4 x5 x6 x7 x8 x9 x10 ∧ A8 x0 x1 x2 x3 x4 x5 x6 x7 x8 x9 x10 ∧ A9 x0 x1 x2 x3 x4 x5 x6 x7 x8 x9 x10) (k : ∀ x0 x1 x2 x3 x4 x5 x6 x7 x8 x9 x10, A0 x0 x1 x2 x3 x4 x5 x6 x7 x8 x9 x10 → A1 x0 x1 x2 x3 x4 x5 x6 x7 x8 x9 x10 → A2 x0 x1 x2 x3 x4 x5 x6 x7 x8 x9 x10 → A3 x0 x1 x2 x3 x4 x5 x6 x7 x8 x9 x10 → A4 x0 x1 x2 x3 x4 x5 x6 x7 x8 x9 x10 → A5 x0 x1 x2 x3 x4 x5 x6 x7 x8 x9 x10 → A6 x0 x1 x2 x3 x4 x5 x6 x7 x8 x9 x10 → A7 x0 x1 x2 x3 x4 x5 x6 x7 x8 x9 x10 → A8 x0 x1 x2 x3 x4 x5 x6 x7 x8 x9 x10 → A9 x0 x1 x2 x3 x4 x5 x6 x7 x8 x9 x10 → G) : G := h.elim fun x0 h => h.elim fun x1 h => h.elim fun x2 h => h.elim fun x3 h => h.elim fun x4 h => h.elim fun x5 h => h.elim fun x6 h => h.elim fun x7 h => h.elim fun x8 h => h.elim fun x9 h => h.elim fun x10 h => k x0 x1 x2 x3 x4 x5 x6 x7 x8 x9 x10 h.1 h.2.1 h.2.2.1 h.2.2.2.1 h.2.2.2.2.1 h.2.2.2.2.2.1 h.2.2.2.2.2.2.1 h.2.2.2.2.2.2.2.1 h.2.2.2.2.2.2.2.2.1 h.2.2.2.2.2.2.2.2.2
theorem nm0 {a : Addr} : a ∉ ([] : List Addr) := List.not_mem_nil
theorem nm1 {a b : Addr} (h : a ≠ b) : a ∉ [b] := fun q => h (List.mem_singleton.mp q)
theorem leK {r a b : Nat} (h : Nat.ble a b = true) : r + a ≤ r + b := Nat.add_le_add_left (Nat.le_of_ble_eq_true h) r
noncomputable def pick {α : Type} (d : α) (P : α → Prop) : α := @Classical.epsilon α ⟨d⟩ fun x => ¬ P x
theorem pickAll {α : Type} {P : α → Prop} (d : α) (h : P (pick d P)) (a : α) : P a := Classical.byContradiction fun n => @Classical.epsilon_spec α (fun x => ¬ P x) ⟨a, n⟩ h
abbrev Hl := Addr → Option Obj
abbrev Ls := List (Str × Value)
abbrev PG : Program := PySem.Challenge.rw_nz0140_01.row.prog

def Loc (h₀ : Heap) (L : Addr) (h : Heap) (l : Ls) : Prop := ∃ m, Fr h₀ L h m ∧ (∀ x v, l.lookup x = some v → m x = some v) ∧ sysModules < h₀.objs.size
def Led (h₀ : Heap) (L : Addr) (h : Heap) (N : Hl) : Prop := ∀ a o, N a = some o → h.get? a = some o ∧ a ≠ L ∧ h₀.get? a = none ∧ sysModules < a

structure Cx where
  A : Around
  h₀ : Heap
  L : Addr

structure Ok (w : World) (C : Cx) (env : Env) (r : Nat) : Prop where
  loc : env.locals = C.L
  fr : env.frame = some C.L
  kd : env.scope.kind = .function
  gl : env.globals = mainGlobals
  bl : env.builtins = builtinsNs
  be : ∃ A₀ base outer, Below A₀ base outer C.h₀ ∧ C.A.frames = some (env :: outer)
  X : (KH w.params).In C.h₀
  T : ∃ p loose mean mg mb, Top p loose mean mg mb C.h₀
  hh : C.A.handled = none
  hd : C.A.depth + r ≤ 900
  hu : C.A.units + 8 * r ≤ 9000

theorem Ok.le {w : World} {C : Cx} {env : Env} {r r' : Nat} (h : Ok w C env r) (hr : r' ≤ r) : Ok w C env r' :=
  { h with hd := Nat.le_trans (Nat.add_le_add_left hr _) h.hd, hu := Nat.le_trans (Nat.add_le_add_left (Nat.mul_le_mul_left 8 hr) _) h.hu }
theorem Ok.u0 {w : World} {C : Cx} {env : Env} {r : Nat} (h : Ok w C env r) : C.A.units + 4 < cLine := by
  have := h.hu; rw [cLine_is]; omega

def Po {α : Type} (C : Cx) (s : Shared) (Q : α → Ls → Hl → Prop) (a : α) (s' : Shared) : Prop :=
  ∃ h' tk' l' N', s' = { s with heap := h', toks := tk' } ∧ Loc C.h₀ C.L h' l' ∧ Led C.h₀ C.L h' N' ∧ Q a l' N'

def SP (w : World) (C : Cx) {α : Type} (t : Sem α) (l : Ls) (N : Hl) (Q : α → Ls → Hl → Prop) : Prop :=
  ∀ s, Loc C.h₀ C.L s.heap l → Led C.h₀ C.L s.heap N → wpAny (model PG w) C.A t (Po C s Q) (fun _ _ => False) s

theorem pickC {P : Cx → Prop} (h : P (pick ⟨callerA, {}, 0⟩ P)) : ∀ C, P C := pickAll _ h
section
variable {w : World} {C : Cx} {α β : Type} {l : Ls} {N : Hl}

theorem Po.trans {s : Shared} {h' : Heap} {tk' : Nat} {Q : α → Ls → Hl → Prop} {a : α} {s' : Shared} (h : Po C { s with heap := h', toks := tk' } Q a s') : Po C s Q a s' := by
  refine e4_2 h ?_
  try clear h
  intro h'' tk'' l' N' e r
  exact ⟨h'', tk'', l', N', e, r⟩

theorem SP.run {t : Sem α} {Q : α → Ls → Hl → Prop} {s : Shared} {R : α → Shared → Prop} (h : SP w C t l N Q) (hl : Loc C.h₀ C.L s.heap l) (hN : Led C.h₀ C.L s.heap N)
    (k : ∀ a h' tk' l' N', Loc C.h₀ C.L h' l' → Led C.h₀ C.L h' N' → Q a l' N' → R a { s with heap := h', toks := tk' }) : wpAny (model PG w) C.A t R (fun _ _ => False) s :=
  wpAny_mono (h s hl hN) (by rintro a s' ⟨h', tk', l', N', rfl, x, y, z⟩; exact k a h' tk' l' N' x y z) fun _ _ e => e

theorem SP.go {t : Sem α} {Q : α → Ls → Hl → Prop} {s : Shared} {h' : Heap} {tk' : Nat} (h : SP w C t l N Q) (hl : Loc C.h₀ C.L h' l) (hN : Led C.h₀ C.L h' N) :
    wpAny (model PG w) C.A t (Po C s Q) (fun _ _ => False) { s with heap := h', toks := tk' } :=
  wpAny_mono (h { s with heap := h', toks := tk' } hl hN) (fun _ _ p => p.trans) fun _ _ e => e

theorem Po.intro {s : Shared} {h' : Heap} {tk' : Nat} {Q : α → Ls → Hl → Prop} {a : α} (hl : Loc C.h₀ C.L h' l) (hN : Led C.h₀ C.L h' N) (h : Q a l N) : Po C s Q a { s with heap := h', toks := tk' } :=
  ⟨h', tk', l, N, rfl, hl, hN, h⟩

theorem SP.mono {t : Sem α} {Q Q' : α → Ls → Hl → Prop} (h : SP w C t l N Q) (k : ∀ a l' N', Q a l' N' → Q' a l' N') : SP w C t l N Q' := fun _ hl hN =>
  h.run hl hN fun _ _ _ _ _ x y z => Po.intro x y (k _ _ _ z)

theorem SP.pure {a : α} {Q : α → Ls → Hl → Prop} (h : Q a l N) : SP w C (Pure.pure a) l N Q := fun _ hl hN => wpAny_pure (Po.intro hl hN h)

theorem SP.bind {m : Sem α} {f : α → Sem β} {Q : β → Ls → Hl → Prop} (h : SP w C m l N (fun a l' N' => SP w C (f a) l' N' Q)) : SP w C (m >>= f) l N Q := fun _ hl hN =>
  wpAny_bind (h.run hl hN fun _ _ _ _ _ x y z => z.go x y)

theorem SP.weakN {t : Sem α} {N' : Hl} {Q : α → Ls → Hl → Prop} (h : SP w C t l N' Q) (k : ∀ a o, N' a = some o → N a = some o) : SP w C t l N Q := fun s hl hN =>
  h s hl fun a o e => hN a o (k a o e)
theorem SP.weakL {t : Sem α} {l' : Ls} {Q : α → Ls → Hl → Prop} (h : SP w C t l' N Q) (k : ∀ x v, l'.lookup x = some v → l.lookup x = some v) : SP w C t l N Q := fun s hl hN =>
  h s (let ⟨m, F, hm, z⟩ := hl; ⟨m, F, fun x v e => hm x v (k x v e), z⟩) hN

theorem Loc.keep {h₀ h : Heap} {L : Addr} {l : Ls} (x : Loc h₀ L h l) {b : Addr} {o : Obj} (e : h₀.get? b = some o) : h.get? b = some o := let ⟨_, F, _⟩ := x; F.keep b o e
theorem Loc.push {h₀ h : Heap} {L : Addr} {l : Ls} (x : Loc h₀ L h l) (o : Obj) : Loc h₀ L (h.push o) l := let ⟨m, F, hm⟩ := x; ⟨m, F.push o, hm⟩
theorem Loc.same {h₀ h h' : Heap} {L d : Addr} {l : Ls} (x : Loc h₀ L h l) (hs : Heap.SameBut d h h') (hL : d ≠ L) (h0 : h₀.get? d = none) : Loc h₀ L h' l :=
  let ⟨m, F, hm⟩ := x
  ⟨m, ⟨F.ns.sameBut hs (Ne.symm hL), fun b ob e => (hs.2 b (fun q => by rw [q, h0] at e; cases e)).trans (F.keep b ob e), F.above⟩, hm⟩
theorem Loc.ext {h₀ h h' : Heap} {L d : Addr} {l : Ls} (x : Loc h₀ L h l) (hs : Heap.ExtBut d h h') (hL : d ≠ L) (h0 : h₀.get? d = none) : Loc h₀ L h' l :=
  let ⟨m, F, hm⟩ := x
  ⟨m, ⟨F.ns.at' fun o e => hs L o (Ne.symm hL) e, fun b ob e => hs b ob (fun q => by rw [q, h0] at e; cases e) (F.keep b ob e), F.above⟩, hm⟩

def upd (N : Hl) (a : Addr) (o : Obj) : Hl := fun b => if b = a then some o else N b
def hide (N : Hl) (a : Addr) : Hl := fun b => if b = a then none else N b
theorem upd_self (N : Hl) (a : Addr) (o : Obj) : upd N a o a = some o := by simp [upd]
theorem upd_ne {N : Hl} {a b : Addr} {o : Obj} (h : b ≠ a) : upd N a o b = N b := by simp [upd, h]
theorem upd_old {N : Hl} {a b : Addr} {o o' : Obj} (h : N b = some o') (ha : N a = none) : upd N a o b = some o' := by
  rw [upd_ne, h]; (first | exact neH h ha (by intro e_; cases e_) | exact Ne.symm (neH h ha (by intro e_; cases e_)) | (rintro rfl; rw [ha] at h; cases h))
theorem hide_ne {N : Hl} {a b : Addr} (h : b ≠ a) : hide N a b = N b := by simp [hide, h]

theorem Led.push {h₀ h : Heap} {L : Addr} (hN : Led h₀ L h N) (hl : Loc h₀ L h l) (o : Obj) (hfree : o.isFreed = false := by rfl) : Led h₀ L (h.push o) (upd N h.objs.size o) := by
  refine e1_3 hl ?_
  try clear hl
  intro m F _ z
  refine e3_2 F.ns ?_
  intro oL _ _ hL _
  intro a o' e
  by_cases ha : a = h.objs.size
  · subst ha
    rw [upd_self] at e; cases e
    refine ⟨Heap.get?_push_size _ hfree, Nat.ne_of_gt (Heap.lt_size hL), ?_, Nat.lt_trans z (Nat.lt_of_le_of_lt F.above (Heap.lt_size hL))⟩
    cases hq : h₀.get? h.objs.size with
    | none => rfl
    | some o' => exact absurd (Heap.lt_size (F.keep _ _ hq)) (Nat.lt_irrefl _)
  · rw [upd_ne ha] at e
    exact ⟨Heap.get?_push_of_some _ (hN a o' e).1, (hN a o' e).2⟩
theorem Led.fresh {h₀ h : Heap} {L : Addr} (hN : Led h₀ L h N) : N h.objs.size = none := by
  cases e : N h.objs.size with
  | none => rfl
  | some o => exact absurd (Heap.lt_size (hN _ _ e).1) (Nat.lt_irrefl _)
theorem Led.upd {h₀ h h' : Heap} {L d : Addr} {o o' : Obj} (hN : Led h₀ L h N) (hd : N d = some o) (hs : Heap.SameBut d h h') (hg : h'.get? d = some o') : Led h₀ L h' (Mine.upd N d o') := by
  intro a o₁ e
  by_cases ha : a = d
  · subst ha; rw [upd_self] at e; cases e; exact ⟨hg, (hN _ _ hd).2⟩
  · rw [upd_ne ha] at e; exact ⟨(hs.2 a ha).trans (hN a o₁ e).1, (hN a o₁ e).2⟩
theorem Led.hide {h₀ h h' : Heap} {L d : Addr} (hN : Led h₀ L h N) (hs : Heap.ExtBut d h h') : Led h₀ L h' (hide N d) := by
  intro a o₁ e
  by_cases ha : a = d
  · subst ha; simp [Mine.hide] at e
  · rw [hide_ne ha] at e; exact ⟨hs a _ ha (hN a o₁ e).1, (hN a o₁ e).2⟩
theorem Led.set {h₀ h h' : Heap} {L : Addr} (hN : Led h₀ L h N) (hs : Heap.SameBut L h h') : Led h₀ L h' N :=
  fun a o e => ⟨(hs.2 a (hN a o e).2.1).trans (hN a o e).1, (hN a o e).2⟩
end

/-! the ledger as a list, for the library's call rule -/
def hlList (h : Heap) (N : Hl) : List (Addr × Obj) := (List.range h.objs.size).filterMap fun a => (N a).map fun o => (a, o)
theorem mem_hlList {h : Heap} {N : Hl} {p : Addr × Obj} : p ∈ hlList h N ↔ p.1 < h.objs.size ∧ N p.1 = some p.2 := by
  unfold hlList
  rw [List.mem_filterMap]
  constructor
  · intro hz_
    refine e1_2 hz_ ?_
    try clear hz_
    intro a ha e
    refine e1_2 (Option.map_eq_some_iff.mp e) ?_
    intro o ho e'
    subst e'
    exact ⟨List.mem_range.mp ha, ho⟩
  · intro hz_
    refine e0_2 hz_ ?_
    try clear hz_
    intro h1 h2
    exact ⟨p.1, List.mem_range.mpr h1, by rw [h2]; rfl⟩
theorem Led.news {h₀ h : Heap} {L : Addr} {N : Hl} (hN : Led h₀ L h N) : News h₀ L h (hlList h N) := fun p hp => let x := hN p.1 p.2 (mem_hlList.mp hp).2; ⟨x.1, x.2.1, x.2.2.1⟩
theorem Led.mem {h₀ h : Heap} {L a : Addr} {o : Obj} {N : Hl} (hN : Led h₀ L h N) (e : N a = some o) : (a, o) ∈ hlList h N := mem_hlList.mpr ⟨Heap.lt_size (hN a o e).1, e⟩
theorem Led.of {h₀ h₁ h : Heap} {L L₁ : Addr} {N : Hl} (hN : Led h₀ L h N) (n : News h₁ L₁ h (hlList h N)) : Led h₁ L₁ h N := fun a o e => let x := n _ (hN.mem e); ⟨x.1, x.2.1, x.2.2, (hN a o e).2.2.2⟩
theorem Led.of' {h₀ h h₁ h' : Heap} {L L₁ : Addr} {N : Hl} (hN : Led h₀ L h N) (n : News h₁ L₁ h' (hlList h N)) : Led h₁ L₁ h' N := fun a o e => let x := n _ (hN.mem e); ⟨x.1, x.2.1, x.2.2, (hN a o e).2.2.2⟩

/-- a call of f: from any frame with room r, the locals stay, the ledger N becomes one that Q takes -/
def Calls (w : World) (f : Addr) (args : List Value) (N : Hl) (r : Nat) (Q : Value → Hl → Prop) : Prop :=
  ∀ (C : Cx) (env : Env), Ok w C env r → ∀ l, SP w C (call (.ref f) args) l N (fun v l' N' => l' = l ∧ Q v N')

def RetQ (Q : Value → Hl → Prop) (fl : Flow) (_ : Ls) (N : Hl) : Prop := Q (match fl with | .ret v => v | _ => .none) N
theorem RetQ.ret {Q : Value → Hl → Prop} {v : Value} {l : Ls} {N : Hl} (h : Q v N) : RetQ Q (.ret v) l N := h
theorem RetQ.next {Q : Value → Hl → Prop} {l : Ls} {N : Hl} (h : Q .none N) : RetQ Q .next l N := h

theorem enter {w : World} {f : Addr} {args : List Value} {N : Hl} {r : Nat} {Q : Value → Hl → Prop} {name qual : Str} {params : Arguments} {body : List Stmt} {scope : Scope} {dV kV doc pm cdv ct oc : Value} {an od : Option Addr} {osl : Array (Option Value)} (binds l₀ : List (Str × Value))
    (ho : (KH w.params).lookup f = some ⟨oc, od, .func (fnOf name qual params body scope dV kV doc pm an cdv ct), osl⟩) (hcd : codeIn (KH w.params) cdv qual = true)
    (hbind : ∀ s, BindsTo s (fnOf name qual params body scope dV kV doc pm an cdv ct) ⟨args, []⟩ binds) (hloc : ∀ y ∈ binds, scope.names.lookup y.1 = some .local)
    (hco : scope.isCoroutine = false) (hgen : scope.isGenerator = false) (hk : scope.kind = .function) (hcell : ∀ x ∈ scope.names, x.2 ≠ .cell) (hl₀ : binds.reverse = l₀)
    (h : ∀ C : Cx, Ok w C (envOf qual scope C.L f cdv) r → SP w C (execs body (envOf qual scope C.L f cdv)) l₀ N (RetQ Q)) :
    Calls w f args N (r + 1) Q := by
  subst hl₀
  intro C env ok l s hl hN
  refine e3_2 ok.be ?_
  intro A₀ base outer B hA
  refine e5_1 ok.T ?_
  intro p loose mean mg mb T
  have hl' := hl
  refine e1_3 hl' ?_
  try clear hl'
  intro m F hm z
  refine wpAny_call ?_
  refine callX_plain (cl := []) B F hN.news T.nolimit hA ok.fr ok.kd ((ok.X.keeps F.keep) _ _ ho) rfl (codeRec_of (ok.X.keeps F.keep) hcd) (by have := ok.hd; show C.A.depth < 1000; omega) (hbind s) hloc
    (fun g L' h₁ FG F' N' B' st lt => ?_) hcell hco hgen hk
  have hC : Ok w ⟨C.A.deeper (envOf qual scope L' f cdv), g, L'⟩ (envOf qual scope L' f cdv) r :=
    ⟨rfl, rfl, hk, rfl, rfl, ⟨A₀.deeper env, base, env :: outer, ⟨by
        obtain ⟨b1, _, _⟩ := B'
        exact Around.frames_deeper B.stack, B'.stays, B'.frames⟩, Around.frames_deeper hA⟩, ok.X.keeps st, ⟨p, loose, mean, mg, mb, T.keeps st⟩, ok.hh,
      by have := ok.hd; show C.A.depth + 1 + r ≤ 900; omega, by have := ok.hu; show C.A.units + 3 + 8 * r ≤ 9000; omega⟩
  refine wpAny_mono (h ⟨C.A.deeper (envOf qual scope L' f cdv), g, L'⟩ hC { s with heap := h₁, toks := s.toks + binds.length } ⟨_, F', fun _ _ e => e, by obtain ⟨oM, _, _, hM, _⟩ := (T.keeps st).g; exact Nat.lt_trans (by decide) (Heap.lt_size hM)⟩ (hN.of' N')) (fun fl s' hp => ?_) (fun _ _ e => e.elim)
  refine e4_4 hp ?_
  try clear hp
  intro h' tk' l' N'' e hy5_ hN'' hq
  obtain ⟨m', F'', _⟩ := hy5_
  have e' : s'.heap = h' := by rw [e]
  subst e'
  refine leaveK_ F'' hN''.news fun kF kN => ?_
  exact ⟨s'.heap, tk', l, N'', e, ⟨m, kF, hm, z⟩, hN''.of kN, rfl, hq⟩
end
/-! part Sp2 -/
section

section
variable {w : World} {C : Cx} {α β : Type} {l : Ls} {N : Hl} {env : Env} {r : Nat}

def Nx (w : World) (C : Cx) (rest : List Stmt) (env : Env) (Q : Flow → Ls → Hl → Prop) (f : Flow) (l : Ls) (N : Hl) : Prop :=
  match f with
  | .next => SP w C (execs rest env) l N Q
  | f => Q f l N
theorem Nx.next {rest : List Stmt} {Q : Flow → Ls → Hl → Prop} (h : SP w C (execs rest env) l N Q) : Nx w C rest env Q .next l N := h
theorem Nx.ret {rest : List Stmt} {Q : Flow → Ls → Hl → Prop} {v : Value} (h : Q (.ret v) l N) : Nx w C rest env Q (.ret v) l N := h
theorem Nx.cont {rest : List Stmt} {Q : Flow → Ls → Hl → Prop} (h : Q .cont l N) : Nx w C rest env Q .cont l N := h

theorem SP_nil {Q : Flow → Ls → Hl → Prop} (h : Q .next l N) : SP w C (execs [] env) l N Q := fun _ hl hN => wpAny_execs_nil (Po.intro hl hN h)
theorem SP_cons {st : Stmt} {rest : List Stmt} {Q : Flow → Ls → Hl → Prop} (h : SP w C (exec st env) l N (Nx w C rest env Q)) : SP w C (execs (st :: rest) env) l N Q := fun _ hl hN =>
  wpAny_execs_cons (h.run hl hN fun f _ _ _ _ x y z => by
    cases f with
    | next => exact SP.go z x y
    | _ => exact Po.intro x y z)

/-- two ways -/
def Br (b : Bool) (P Q : Prop) : Prop := (b = true → P) ∧ (b = false → Q)
theorem Br.tt {P Q : Prop} (h : P) : Br true P Q := ⟨fun _ => h, fun e => (nomatch e)⟩
theorem Br.ff {P Q : Prop} (h : Q) : Br false P Q := ⟨fun e => (nomatch e), fun _ => h⟩
theorem Br.dec {p : Prop} [Decidable p] {P Q : Prop} (h1 : p → P) (h2 : ¬ p → Q) : Br (decide p) P Q := ⟨fun e => h1 (of_decide_eq_true e), fun e => h2 (of_decide_eq_false e)⟩
theorem Br.of_tt {b : Bool} {P Q : Prop} (e : b = true) (h : P) : Br b P Q := by subst e; exact Br.tt h
theorem Br.of_ff {b : Bool} {P Q : Prop} (e : b = false) (h : Q) : Br b P Q := by subst e; exact Br.ff h
theorem Br.elim {b : Bool} {P Q : Prop} (h : Br b P Q) : if b then P else Q := by cases b; exact h.2 rfl; exact h.1 rfl

theorem SP_If {test : Expr} {body orelse : List Stmt} {pos : Pos} {Q : Flow → Ls → Hl → Prop}
    (h : SP w C (isTrue test env (eval test env)) l N (fun b l' N' => Br b (SP w C (execs body env) l' N' Q) (SP w C (execs orelse env) l' N' Q))) : SP w C (exec (.If test body orelse pos) env) l N Q := fun _ hl hN =>
  wpAny_If (h.run hl hN fun b _ _ _ _ x y z => by
    cases b with
    | true => simp only [if_true]; exact (z.1 rfl).go x y
    | false => simp only [Bool.false_eq_true, if_false]; exact (z.2 rfl).go x y)
theorem SP_Return {e : Expr} {pos : Pos} {Q : Flow → Ls → Hl → Prop} (h : SP w C (eval e env) l N (fun v => Q (.ret v))) : SP w C (exec (.Return (some e) pos) env) l N Q := fun _ hl hN =>
  wpAny_Return_some (h.run hl hN fun _ _ _ _ _ x y z => Po.intro x y z)
theorem SP_Continue {pos : Pos} {Q : Flow → Ls → Hl → Prop} (h : Q .cont l N) : SP w C (exec (.Continue pos) env) l N Q := fun _ hl hN => wpAny_Continue (Po.intro hl hN h)
def NoRef : Value → Prop
  | .ref _ => False
  | _ => True
theorem SP_Expr {e : Expr} {pos : Pos} {Q : Flow → Ls → Hl → Prop} (h : SP w C (eval e env) l N (fun v l' N' => NoRef v ∧ Q .next l' N'))
    (hi : interactive env = false := by rfl) (hs : swapsWith e none pos.line env = pure false := by rfl) : SP w C (exec (.Expr e pos) env) l N Q := fun _ hl hN =>
  wpAny_Expr (h.run hl hN fun v _ _ _ _ x y z => by
    cases v <;> first | exact z.1.elim | exact Po.intro x y z.2) hi hs

theorem SP_store (ok : Ok w C env r) {x : Str} {v : Value} {Q : Unit → Ls → Hl → Prop} (hx : env.kindOf x = some .local) (h : Q () ((x, v) :: l) N) : SP w C (storeName env x v) l N Q := by
  rintro s ⟨m, F, hm, z⟩ hN
  have F' := F.ns
  rw [← ok.loc] at F'
  refine wpAny_storeName_local hx F' (fun h' hn hs => ?_) (by show (env.scope.kind == .class || (env.scope.kind == .module && env.locals != env.globals)) = false; rw [ok.kd]; rfl)
  rw [ok.loc] at hn hs
  refine Po.intro ⟨_, F.set hn hs, fun y u e => ?_, z⟩ (hN.set hs) h
  rw [List.lookup_cons] at e
  by_cases q : y = x
  · subst q; simp only [beq_self_eq_true] at e; cases e; exact if_pos rfl
  · rw [beq_false_of_ne q] at e; exact (if_neg q).trans (hm y u e)
theorem SP_storeCell (ok : Ok w C env r) {x : Str} {v : Value} {c : Addr} {o : Obj} {v₀ : Option Value} {Q : Unit → Ls → Hl → Prop} (hx : env.kindOf x = some .cell) (hc : env.cells.lookup x = some c) (hN0 : N c = some o)
    (hd : o.data = .cell v₀) (h : ∀ o', o'.data = .cell (some v) → Q () l (upd N c o')) : SP w C (storeName env x v) l N Q := by
  rintro s hl hN
  refine wpAny_storeName_cell ok.kd hx hc ⟨o, (hN _ _ hN0).1, hd⟩ fun h' hv hs => ?_
  refine e1_2 hv ?_
  try clear hv
  intro o' ho' hd'
  exact Po.intro (tk' := s.toks) (hl.same hs (hN _ _ hN0).2.1 (hN _ _ hN0).2.2.1) (hN.upd hN0 hs ho') (h o' hd')

theorem SP_AssignName {x : Str} {pos' pos : Pos} {value : Expr} {Q : Flow → Ls → Hl → Prop} (h : SP w C (eval value env) l N (fun v l' N' => SP w C (storeName env x v) l' N' (fun _ => Q .next)))
    (hs : swapsWith value (some (.Name x pos')) pos.line env = pure false := by rfl) : SP w C (exec (.Assign [.Name x pos'] value pos) env) l N Q := fun _ hl hN =>
  wpAny_Assign_Name (h.run hl hN fun _ _ _ _ _ x y z => wpAny_mono (z.go x y) (fun _ _ p => p) fun _ _ e => e) hs
theorem SP_AssignSub {o i : Expr} {pos' pos : Pos} {value : Expr} {Q : Flow → Ls → Hl → Prop}
    (h : SP w C (eval value env) l N (fun v l' N' => SP w C (eval o env) l' N' (fun ov l' N' => SP w C (eval i env) l' N' (fun iv l' N' => SP w C (setItem ov iv v) l' N' (fun _ => Q .next)))))
    (hs : swapsWith value (some (.Subscript o i pos')) pos.line env = pure false := by rfl) : SP w C (exec (.Assign [.Subscript o i pos'] value pos) env) l N Q := fun _ hl hN =>
  wpAny_Assign_Subscript (h.run hl hN fun _ _ _ _ _ x y z => (z.run x y fun _ _ _ _ _ x y z => (z.run x y fun _ _ _ _ _ x y z => z.go x y))) hs
theorem SP_AssignTuple {elts : List Expr} {k : Nat} {tpos pos : Pos} {value : Expr} {Q : Flow → Ls → Hl → Prop}
    (h : SP w C (eval value env) l N (fun v l' N' => SP w C (assign (.Tuple elts k tpos) env v) l' N' (fun _ => Q .next)))
    (hs : swapsWithSole [.Tuple elts k tpos] value pos.line env = pure false := by rfl)
    (hw : swappedStores [.Tuple elts k tpos] value env = pure none := by rfl) : SP w C (exec (.Assign [.Tuple elts k tpos] value pos) env) l N Q := fun _ hl hN =>
  Assign_Tuple (h.run hl hN fun _ _ _ _ _ x y z => z.go x y) hs hw

theorem SP_local (ok : Ok w C env r) {x : Str} {pos : Pos} {v : Value} {Q : Value → Ls → Hl → Prop} (hx : env.kindOf x = some .local) (hv : l.lookup x = some v) (h : Q v l N)
    (hd : (x == ("__debug__" : Str)) = false := by decide) : SP w C (eval (.Name x pos) env) l N Q := by
  rintro s ⟨m, F, hm, z⟩ hN
  have F' := F.ns
  rw [← ok.loc] at F'
  exact wpAny_Name (wpAny_loadName_local ok.kd hx F' (hm _ _ hv) (Po.intro (tk' := s.toks) ⟨m, F, hm, z⟩ hN h)) hd
theorem SP_cell (ok : Ok w C env r) {x : Str} {pos : Pos} {v : Value} {c : Addr} {o : Obj} {Q : Value → Ls → Hl → Prop} (hx : env.kindOf x = some .cell) (hc : env.cells.lookup x = some c) (hN0 : N c = some o) (hd : o.data = .cell (some v)) (h : Q v l N)
    (hb : (x == ("__debug__" : Str)) = false := by decide) : SP w C (eval (.Name x pos) env) l N Q := by
  rintro s hl hN
  exact wpAny_Name (wpAny_loadName_cell ok.kd hx hc ⟨o, (hN _ _ hN0).1, hd⟩ (Po.intro (tk' := s.toks) hl hN h)) hb
theorem SP_global (ok : Ok w C env r) {x : Str} {pos : Pos} {v : Value} {Q : Value → Ls → Hl → Prop} (hx : env.kindOf x = some .globalImplicit) (e : nsIn (KH w.params) mainGlobals x = some (some v)) (h : Q v l N)
    (hd : (x == ("__debug__" : Str)) = false := by decide) : SP w C (eval (.Name x pos) env) l N Q := by
  rintro s hl hN
  refine e5_1 ok.T ?_
  intro p loose mean mg mb T
  have g := T.g.keeps fun b o e => hl.keep (b := b) (o := o) e
  rw [← ok.gl] at g
  exact Name_function_global ok.kd hx (loadGlobal_global (env := env) g (mg_of ok.X T.g e) (Po.intro (tk' := s.toks) hl hN h)) hd
theorem SP_builtin (ok : Ok w C env r) {x : Str} {pos : Pos} {v : Value} {Q : Value → Ls → Hl → Prop} (hx : env.kindOf x = some .globalImplicit) (e : nsIn (KH w.params) mainGlobals x = some none) (hv : bootBuiltins x = some v) (hn : x ≠ "__name__") (h : Q v l N)
    (hd : (x == ("__debug__" : Str)) = false := by decide) : SP w C (eval (.Name x pos) env) l N Q := by
  rintro s hl hN
  refine e5_1 ok.T ?_
  intro p loose mean mg mb T
  have g := T.g.keeps fun b o e => hl.keep (b := b) (o := o) e
  have b := T.b.keeps fun b o e => hl.keep (b := b) (o := o) e
  rw [← ok.gl] at g
  rw [← ok.bl] at b
  exact Name_function_global ok.kd hx (loadGlobal_builtin (env := env) g (mg_none_of ok.X T.g e) b ((T.builtins x hn).trans hv) (Po.intro (tk' := s.toks) hl hN h)) hd

theorem SP_int {i : Int} {k : Nat} {pos : Pos} {Q : Value → Ls → Hl → Prop} (h : ∀ t, Q (.int i t) l N) : SP w C (eval (.Constant (.int i) k pos) env) l N Q := fun _ hl hN => wpAny_Constant_int (Po.intro hl hN (h _))
theorem SP_str {x : Str} {k : Nat} {pos : Pos} {Q : Value → Ls → Hl → Prop} (h : ∀ t, Q (.str x t) l N) : SP w C (eval (.Constant (.str x) k pos) env) l N Q := fun _ hl hN => Constant_str (Po.intro hl hN (h _))
theorem SP_bool {c : Bool} {k : Nat} {pos : Pos} {Q : Value → Ls → Hl → Prop} (h : Q (.bool c) l N) : SP w C (eval (.Constant (.bool c) k pos) env) l N Q := fun s hl hN => Constant_bool (Po.intro (tk' := s.toks) hl hN h)
theorem SP_none {k : Nat} {pos : Pos} {Q : Value → Ls → Hl → Prop} (h : Q .none l N) : SP w C (eval (.Constant .none k pos) env) l N Q := fun s hl hN => Constant_none (Po.intro (tk' := s.toks) hl hN h)

theorem SP_BinOp {a b : Expr} {op : Operator} {pos : Pos} {Q : Value → Ls → Hl → Prop} (h : SP w C (eval a env) l N (fun u l' N' => SP w C (eval b env) l' N' (fun v l' N' => SP w C (binaryOp op u v) l' N' Q))) :
    SP w C (eval (.BinOp a op b pos) env) l N Q := fun _ hl hN => wpAny_BinOp (h.run hl hN fun _ _ _ _ _ x y z => z.run x y fun _ _ _ _ _ x y z => z.go x y)
theorem SP_Compare {a b : Expr} {op : CmpOp} {pos : Pos} {Q : Value → Ls → Hl → Prop} (h : SP w C (eval a env) l N (fun u l' N' => SP w C (eval b env) l' N' (fun v l' N' => SP w C (compareOp op u v) l' N' Q)))
    (hm : behindInMarks op b = false := by with_unfolding_all rfl) :
    SP w C (eval (.Compare a [op] [b] pos) env) l N Q := fun _ hl hN => wpAny_Compare1 (h.run hl hN fun _ _ _ _ _ x y z => z.run x y fun _ _ _ _ _ x y z => z.go x y) hm
theorem SP_isTrueCompare {a b : Expr} {op : CmpOp} {pos : Pos} {whole : Sem Value} {Q : Bool → Ls → Hl → Prop}
    (h : SP w C (eval a env) l N (fun u l' N' => SP w C (eval b env) l' N' (fun v l' N' => SP w C (compareOp op u v) l' N' (fun c l' N' => SP w C (truthy c) l' N' Q))))
    (hm : behindInMarks op b = false := by with_unfolding_all rfl) : SP w C (isTrue (.Compare a [op] [b] pos) env whole) l N Q := fun _ hl hN =>
  wpAny_isTrue_Compare1 (h.run hl hN fun _ _ _ _ _ x y z => z.run x y fun _ _ _ _ _ x y z => z.run x y fun _ _ _ _ _ x y z => z.go x y) hm
theorem SP_isTrue {e : Expr} {whole : Sem Value} {Q : Bool → Ls → Hl → Prop} (h : SP w C whole l N (fun v l' N' => SP w C (truthy v) l' N' Q))
    (he : isTrue e env whole = (do let v ← whole; standAt e.pos; holding [v] (truthy v)) := by rfl) : SP w C (isTrue e env whole) l N Q := fun _ hl hN =>
  isTrue_plain (h.run hl hN fun _ _ _ _ _ x y z => z.go x y) he
theorem SP_isTrueNot {x : Expr} {pos : Pos} {whole : Sem Value} {Q : Bool → Ls → Hl → Prop} (h : SP w C (isTrue x env (eval x env)) l N (fun c l' N' => Q (!c) l' N')) : SP w C (isTrue (.UnaryOp .Not x pos) env whole) l N Q := fun _ hl hN =>
  isTrue_not (h.run hl hN fun _ _ _ _ _ x y z => Po.intro x y z)
theorem SP_isTrueAnd {x : Expr} {rest : List Expr} {pos : Pos} {whole : Sem Value} {Q : Bool → Ls → Hl → Prop}
    (h : SP w C (isTrue x env (eval x env)) l N (fun c l' N' => Br c (SP w C (isTrue (.BoolOp .And rest pos) env whole) l' N' Q) (Q false l' N'))) : SP w C (isTrue (.BoolOp .And (x :: rest) pos) env whole) l N Q := fun _ hl hN =>
  isTrue_and (h.run hl hN fun c _ _ _ _ x y z => by
    cases c with
    | true => simp only [if_true]; exact (z.1 rfl).go x y
    | false => simp only [Bool.false_eq_true, if_false]; exact Po.intro x y (z.2 rfl))
theorem SP_isTrueAnd0 {pos : Pos} {whole : Sem Value} {Q : Bool → Ls → Hl → Prop} (h : Q true l N) : SP w C (isTrue (.BoolOp .And [] pos) env whole) l N Q := fun s hl hN => isTrue_and_nil (Po.intro (tk' := s.toks) hl hN h)
theorem SP_isTrueOr {x : Expr} {rest : List Expr} {pos : Pos} {whole : Sem Value} {Q : Bool → Ls → Hl → Prop}
    (h : SP w C (isTrue x env (eval x env)) l N (fun c l' N' => Br c (Q true l' N') (SP w C (isTrue (.BoolOp .Or rest pos) env whole) l' N' Q))) : SP w C (isTrue (.BoolOp .Or (x :: rest) pos) env whole) l N Q := fun _ hl hN =>
  isTrue_or (h.run hl hN fun c _ _ _ _ x y z => by
    cases c with
    | true => simp only [if_true]; exact Po.intro x y (z.1 rfl)
    | false => simp only [Bool.false_eq_true, if_false]; exact (z.2 rfl).go x y)
theorem SP_isTrueOr0 {pos : Pos} {whole : Sem Value} {Q : Bool → Ls → Hl → Prop} (h : Q false l N) : SP w C (isTrue (.BoolOp .Or [] pos) env whole) l N Q := fun s hl hN => isTrue_or_nil (Po.intro (tk' := s.toks) hl hN h)
theorem SP_truthyBool {b : Bool} {Q : Bool → Ls → Hl → Prop} (h : Q b l N) : SP w C (truthy (.bool b)) l N Q := fun s hl hN => wpAny_truthy_bool (Po.intro (tk' := s.toks) hl hN h)
theorem SP_IfExp {test body orelse : Expr} {pos : Pos} {Q : Value → Ls → Hl → Prop}
    (h : SP w C (isTrue test env (eval test env)) l N (fun c l' N' => Br c (SP w C (eval body env) l' N' Q) (SP w C (eval orelse env) l' N' Q))) : SP w C (eval (.IfExp test body orelse pos) env) l N Q := fun _ hl hN =>
  IfExp_ (h.run hl hN fun c _ _ _ _ x y z => by
    cases c with
    | true => simp only [if_true]; exact (z.1 rfl).go x y
    | false => simp only [Bool.false_eq_true, if_false]; exact (z.2 rfl).go x y)
theorem SP_BoolAnd {a b : Expr} {rest : List Expr} {pos : Pos} {Q : Value → Ls → Hl → Prop}
    (h : SP w C (eval a env) l N (fun v l' N' => SP w C (truthy v) l' N' (fun c l' N' => Br c (SP w C (eval (.BoolOp .And (b :: rest) pos) env) l' N' Q) (Q v l' N')))) : SP w C (eval (.BoolOp .And (a :: b :: rest) pos) env) l N Q := fun _ hl hN =>
  BoolOp_and (h.run hl hN fun _ _ _ _ _ x y z => z.run x y fun c _ _ _ _ x y z => by
    cases c with
    | true => simp only [if_true]; exact (z.1 rfl).go x y
    | false => simp only [Bool.false_eq_true, if_false]; exact Po.intro x y (z.2 rfl))
theorem SP_Bool1 {op : BoolOp} {e : Expr} {pos : Pos} {Q : Value → Ls → Hl → Prop} (h : SP w C (eval e env) l N Q) : SP w C (eval (.BoolOp op [e] pos) env) l N Q := fun s hl hN => BoolOp_one (h s hl hN)
theorem SP_Subscript {value slice : Expr} {pos : Pos} {Q : Value → Ls → Hl → Prop}
    (h : SP w C (eval value env) l N (fun o l' N' => SP w C (eval slice env) l' N' (fun i l' N' => SP w C (subscriptTail value slice o i) l' N' Q))) : SP w C (eval (.Subscript value slice pos) env) l N Q := fun _ hl hN =>
  Subscript_ (h.run hl hN fun _ _ _ _ _ x y z => z.run x y fun _ _ _ _ _ x y z => z.go x y)
theorem SP_Attribute {value : Expr} {attr : Str} {pos : Pos} {Q : Value → Ls → Hl → Prop}
    (h : SP w C (eval value env) l N (fun o l' N' => SP w C (getAttr o attr true) l' N' Q))
    (he : eval (.Attribute value attr pos) env = (do
      let o ← eval value env
      standAt pos.atName
      let r ← holding [o] (getAttr o attr true)
      letTemporaryGo value o r
      pure r) := by with_unfolding_all rfl) : SP w C (eval (.Attribute value attr pos) env) l N Q := fun _ hl hN =>
  Attribute_any_ (h.run hl hN fun _ _ _ _ _ x y z => z.go x y) he
theorem SP_Tuple {elts : List Expr} {k : Nat} {pos : Pos} {Q : Value → Ls → Hl → Prop}
    (h : SP w C (spliced (backTo pos (starEach elts env))) l N (fun vs l' N' => SP w C (newTuple vs) l' N' Q)) : SP w C (eval (.Tuple elts k pos) env) l N Q := fun _ hl hN =>
  Tuple_ (h.run hl hN fun _ _ _ _ _ x y z => z.go x y)
theorem SP_List {elts : List Expr} {pos : Pos} {Q : Value → Ls → Hl → Prop}
    (h : SP w C (spliced (backTo pos (starEach elts env))) l N (fun vs l' N' => SP w C (newList vs) l' N' Q)) : SP w C (eval (.List elts pos) env) l N Q := fun _ hl hN =>
  List_ (h.run hl hN fun _ _ _ _ _ x y z => z.go x y)
theorem SP_args0 {pos : Pos} {Q : List Value → Ls → Hl → Prop} (h : Q [] l N) : SP w C (spliced (backTo pos (starEach [] env))) l N Q := fun s hl hN => args_nil (Po.intro (tk' := s.toks) hl hN h)
theorem SP_args {e : Expr} {rest : List Expr} {pos : Pos} {Q : List Value → Ls → Hl → Prop}
    (h : SP w C (eval e env) l N (fun v l' N' => SP w C (spliced (backTo pos (starEach rest env))) l' N' (fun vs l' N' => Q (v :: vs) l' N')))
    (he : starEach (e :: rest) env = (false, eval e env) :: starEach rest env := by rfl) : SP w C (spliced (backTo pos (starEach (e :: rest) env))) l N Q := fun _ hl hN =>
  args_cons (h.run hl hN fun _ _ _ _ _ x y z => z.run x y fun _ _ _ _ _ x y z => Po.intro x y z) he

abbrev tupObj (vs : List Value) : Obj := { cls := .type "tuple", data := .seq vs.toArray }
theorem SP_newTuple {vs : List Value} {Q : Value → Ls → Hl → Prop} (h : ∀ q, N q = none → Q (.ref q) l (upd N q (tupObj vs))) (hsz : vs.length ≤ sizeLine := by size_fits) : SP w C (newTuple vs) l N Q := fun s hl hN =>
  wpAny_newObj_type (Po.intro (tk' := s.toks) (hl.push _) (hN.push hl _) (h _ hN.fresh)) (by show vs.toArray.size ≤ sizeLine; rw [List.size_toArray]; exact hsz)
theorem SP_newList {vs : List Value} {Q : Value → Ls → Hl → Prop} (h : ∀ q, N q = none → Q (.ref q) l (upd N q (listOf vs.toArray 0))) (hsz : vs.length ≤ sizeLine := by size_fits) : SP w C (newList vs) l N Q := fun s hl hN =>
  wpAny_newObj_type (Po.intro (tk' := s.toks) (hl.push _) (hN.push hl _) (h _ hN.fresh)) (by show vs.toArray.size ≤ sizeLine; rw [List.size_toArray]; exact hsz)

/-! calls -/
theorem SP_Call {func : Expr} {args : List Expr} {pos : Pos} {Q : Value → Ls → Hl → Prop}
    (h : SP w C (eval func env) l N (fun f l' N' => SP w C (callWith pos f [] (backTo pos (starEach args env)) []) l' N' Q))
    (he : eval (.Call func args [] pos) env = (do callWith pos (← eval func env) [] (backTo pos (starEach args env)) (backToKw pos (keywordEach [] env))) := by rfl) :
    SP w C (eval (.Call func args [] pos) env) l N Q := fun _ hl hN => Call_ (h.run hl hN fun _ _ _ _ _ x y z => z.go x y) he
theorem SP_MethCall {o : Expr} {name : Str} {apos pos : Pos} {args : List Expr} {pl : Sem Bool} {Q : Value → Ls → Hl → Prop}
    (h : SP w C (eval o env) l N (fun ov l' N' => SP w C (getMethod ov name pl) l' N' (fun fx l' N' => SP w C (callWith pos fx.1 fx.2 (backTo pos (starEach args env)) []) l' N' Q)))
    (he : eval (.Call (.Attribute o name apos) args [] pos) env = (do
      let ov ← eval o env
      standAt apos.atName
      let (f, first) ← holding [ov] (getMethod ov name pl)
      callWith pos f first (backTo pos (starEach args env)) []) := by rfl) : SP w C (eval (.Call (.Attribute o name apos) args [] pos) env) l N Q := fun _ hl hN =>
  MethodCall_ (h.run hl hN fun _ _ _ _ _ x y z => z.run x y fun _ _ _ _ _ x y z => z.go x y) he
theorem SP_callK (ok : Ok w C env r) {pos : Pos} {f : Value} {first : List Value} {e : Expr} {rest : List Expr} {Q : Value → Ls → Hl → Prop} (hk : keepIn (KH w.params) f = true)
    (h : SP w C (spliced (backTo pos (starEach (e :: rest) env))) l N (fun vs l' N' => SP w C (call f (first ++ vs)) l' N' Q))
    (he : starEach (e :: rest) env = (false, eval e env) :: starEach rest env := by rfl) (hplain : (backTo pos (starEach rest env)).any (·.1) = false := by rfl) :
    SP w C (callWith pos f first (backTo pos (starEach (e :: rest) env)) []) l N Q := fun _ hl hN =>
  callWith_K ok.X hk (h.run hl hN fun _ _ _ _ _ x y z => ⟨ok.X.keeps fun b o e => x.keep (b := b) (o := o) e, z.go x y⟩) he hplain
theorem SP_callK0 (ok : Ok w C env r) {pos : Pos} {f : Value} {first : List Value} {Q : Value → Ls → Hl → Prop} (hk : keepIn (KH w.params) f = true)
    (h : SP w C (call f (first ++ [])) l N Q) : SP w C (callWith pos f first (backTo pos (starEach [] env)) []) l N Q := fun s hl hN =>
  callWith_K0 (ok.X.keeps fun b o e => hl.keep (b := b) (o := o) e) hk (h s hl hN)
theorem SP_callB {pos : Pos} {id : String} {first : List Value} {e : Expr} {rest : List Expr} {Q : Value → Ls → Hl → Prop}
    (h : SP w C (spliced (backTo pos (starEach (e :: rest) env))) l N (fun vs l' N' => SP w C (call (.builtin id) (first ++ vs)) l' N' Q))
    (he : starEach (e :: rest) env = (false, eval e env) :: starEach rest env := by rfl) (hplain : (backTo pos (starEach rest env)).any (·.1) = false := by rfl) :
    SP w C (callWith pos (.builtin id) first (backTo pos (starEach (e :: rest) env)) []) l N Q := fun _ hl hN => by
  rw [he] at h ⊢
  exact callWith_builtin (by show (false || (backTo pos (starEach rest env)).any (·.1)) = false; rw [hplain]; rfl) (evalArgs_plain (h.run hl hN fun _ _ _ _ _ x y z => z.go x y))
theorem SP_callB0 {pos : Pos} {id : String} {first : List Value} {Q : Value → Ls → Hl → Prop}
    (h : SP w C (call (.builtin id) (first ++ [])) l N Q) : SP w C (callWith pos (.builtin id) first (backTo pos (starEach [] env)) []) l N Q := fun s hl hN =>
  callWith_builtin rfl (evalArgs_nil3 (h s hl hN))
theorem SP_use {f : Addr} {args : List Value} {Q₁ : Value → Hl → Prop} {Q : Value → Ls → Hl → Prop} {k : Nat} (ok : Ok w C env r) (c : Calls w f args N k Q₁) (hk : k ≤ r) (h : ∀ v N', Q₁ v N' → Q v l N') : SP w C (call (.ref f) args) l N Q :=
  (c C env (ok.le hk) l).mono fun v _ N' ⟨e, q⟩ => e ▸ h v N' q
end
end
/-! part Sp3 -/
section

/-- a row of the book: an operation, its arguments' numbers, its sort, its datum -/
structure Sh where
  op : Str
  args : List Int
  kind : Int
  data : Int
deriving DecidableEq

def Sh.py (k : Sh) : PyData := .tuple [.str k.op, .tuple (k.args.map .int), .int k.kind, .int k.data]

abbrev IK (w : World) : KeyKind PG w Int := PySem.intKind PG w

def IsShape (w : World) (h : Heap) (k : Sh) (a : Addr) : Prop :=
  ∃ o t1 b t2 t3 n, h.get? a = some o ∧ o.cls = .type "tuple" ∧ o.data = .seq #[.str k.op t1, .ref b, .int k.kind t2, .int k.data t3] n ∧ IsTupleKey (IK w) h k.args b

def hashSh (w : World) (k : Sh) : Int := reduceHash (Builtin.Tuple.tupleHashOf [PySem.hashStr w k.op, tupleKeyHash (IK w) k.args, hashInt k.kind, hashInt k.data])
def drawsSh (k : Sh) : Nat := 1 + (k.args.length + 1) + 1 + 1 + 1

theorem itemsAre_ints {w : World} : ∀ {vs : List Value} {ns : List Int}, IntsAre vs ns → ItemsAre (IK w) ns vs
  | _, _, .nil => .nil
  | _, _, .cons n t h => .cons (intKind_is PG w n t) (itemsAre_ints h)
theorem ints_itemsAre {w : World} : ∀ {ns : List Int} {vs : List Value}, ItemsAre (IK w) ns vs → IntsAre vs ns
  | _, _, .nil => .nil
  | _, _, .cons h t => by
    refine e1_1 (Value.isInt_shape h) ?_
    intro u hy1_
    subst hy1_
    exact .cons _ u (ints_itemsAre t)

theorem tupKey_reads {w : World} {h : Heap} {ks : List Int} {a : Addr} (x : IsTupleKey (IK w) h ks a) : Reads h (.ref a) (.tuple (ks.map .int)) [] := by
  refine e3_4 x ?_
  try clear x
  intro o items n ho hc hd hi
  exact .tuple ho hc hd ((ints_itemsAre hi).reads h)
theorem IsShape.reads {w : World} {h : Heap} {k : Sh} {a : Addr} (x : IsShape w h k a) : Reads h (.ref a) k.py [] := by
  refine e6_4 x ?_
  try clear x
  intro o t1 b t2 t3 n ho hc hd hb
  exact .tuple (as := [] ++ ([] ++ ([] ++ ([] ++ [])))) ho hc hd (.cons (.str _ _) (.cons (tupKey_reads hb) (.cons (.int _ _) (.cons (.int _ _) .nil))))

theorem eqvAll_ints : ∀ (xs ys : List Int), PyData.eqvAll (xs.map .int) (ys.map .int) = decide (xs = ys)
  | [], [] => by simp [PyData.eqvAll]
  | [], _ :: _ => by simp [PyData.eqvAll]
  | _ :: _, [] => by simp [PyData.eqvAll]
  | x :: xs, y :: ys => by
    have ih := eqvAll_ints xs ys
    rw [List.map_cons, List.map_cons, PyData.eqvAll, ih, PyData.eqv]
    by_cases h : x = y <;> by_cases h' : xs = ys <;> simp [h, h']
theorem eqv_sh (x y : Sh) : PyData.eqv x.py y.py = decide (x = y) := by
  obtain ⟨o1, a1, k1, d1⟩ := x
  obtain ⟨o2, a2, k2, d2⟩ := y
  simp only [Sh.py, PyData.eqv, PyData.eqvAll, eqvAll_ints, Sh.mk.injEq]
  by_cases h1 : o1 = o2 <;> by_cases h2 : a1 = a2 <;> by_cases h3 : k1 = k2 <;> by_cases h4 : d1 = d2 <;> simp [h1, h2, h3, h4]

theorem canLay_ints : ∀ (xs : List Int), PyData.canLayAll0 (xs.map .int) = true
  | [] => by simp [PyData.canLayAll0]
  | x :: xs => by simp [PyData.canLayAll0, PyData.canLay0, canLay_ints xs]
theorem depth_ints : ∀ (xs : List Int), PyData.depthAll (xs.map .int) ≤ 1
  | [] => by simp [PyData.depthAll]
  | x :: xs => by have := depth_ints xs; simp only [List.map_cons, PyData.depthAll, PyData.depth]; omega

theorem IsShape.typeIs {w : World} {s : Shared} {k : Sh} {a : Addr} (x : IsShape w s.heap k a) : s.TypeIs (.ref a) "tuple" := by
  obtain ⟨o, t1, b, t2, t3, n, ho, hc, _⟩ := x; exact ⟨o, ho, hc⟩

theorem IsShape.inj {w : World} {h : Heap} {a : Addr} {x y : Sh} (hx : IsShape w h x a) (hy : IsShape w h y a) : x = y := by
  refine e6_4 hx ?_
  try clear hx
  intro o t1 b t2 t3 n ho hc hd hb
  refine e6_4 hy ?_
  try clear hy
  intro o' t1' b' t2' t3' n' ho' hc' hd' hb'
  rw [ho] at ho'; cases ho'
  rw [hd] at hd'
  injection hd' with e1 e2
  simp only [Array.mk.injEq, List.cons.injEq, Value.str.injEq, Value.ref.injEq, Value.int.injEq] at e1
  refine e0_5 e1 ?_
  try clear e1
  intro hy0_ h2 hy2_ hy3_ _
  obtain ⟨h1, _⟩ := hy0_
  obtain ⟨h3, _⟩ := hy2_
  obtain ⟨h4, _⟩ := hy3_
  subst h2
  have h5 := hb.inj hb'
  obtain ⟨o1, a1, k1, d1⟩ := x
  obtain ⟨o2, a2, k2, d2⟩ := y
  simp only at h1 h3 h4 h5
  subst h1 h3 h4 h5
  rfl

section
variable {w : World} {A : Around} {E : Value → Shared → Prop} {s : Shared}

theorem pyHash_shape {k : Sh} {a : Addr} {Q : Int → Shared → Prop} (hu : A.units + 1 < cLine) (hk : IsShape w s.heap k a) (h : Q (hashSh w k) { s with toks := s.toks + drawsSh k }) :
    wpAny (model PG w) A (pyHash (.ref a)) Q E s := by
  have hT := hk.typeIs
  refine e6_4 hk ?_
  try clear hk
  intro o t1 b t2 t3 n ho hc hd hb
  unfold pyHash
  first | unfold pyHashByItsType | skip
  first | refine wpAny_bind (wpAny_cRoomFor_or (.inr (by first | exact Nat.le_refl _ | exact leK rfl | omega)) ?_) | skip
  refine wpAny_bind (wpAny_specialOf hT F.slot_tuple_hash.lookup ?_)
  show wpAny _ _ (if (some (Value.builtin "tuple.__hash__") == some Value.none) = true then _ else _) Q E s
  rw [if_neg (by rw [beq_builtin_none]; exact Bool.false_ne_true)]
  refine wpAny_bind (wpAny_specialOf hT F.slot_tuple_hash.lookup ?_)
  show wpAny _ _ (callSpecialIfBoundUnlessNone? (.ref a) "__hash__" _ >>= _) Q E s
  refine wpAny_bind (wpAny_callSpecialIfBoundUnlessNone?_slot hT F.slot_tuple_hash (wpAny_call_entry F.slot_tuple_hash hT F.entry_tuple_hash ?_ (F.args_tuple_hash_1 _)))
  show wpAny _ _ (Builtin.Tuple.tupleItemsOf (.ref a) >>= _) _ _ s
  refine wpAny_bind (wpAny_tupleItemsOf ho hd ?_)
  refine wpAny_bind ?_
  rw [← Array.forIn_toList]
  show wpAny _ _ (forIn [Value.str k.op t1, .ref b, .int k.kind t2, .int k.data t3] _ _) _ _ s
  simp only [List.forIn_cons, List.forIn_nil]
  refine wpAny_bind (wpAny_bind (wpAny_pyHash_str ?_))
  refine wpAny_pure ?_
  refine wpAny_bind (wpAny_bind (wpAny_pyHash_tuple (knd := IK w) (ks := k.args) (by show A.units + 1 < cLine; exact hu) hb ?_))
  refine wpAny_pure ?_
  refine wpAny_bind (wpAny_bind (wpAny_pyHash_int ?_))
  refine wpAny_pure ?_
  refine wpAny_bind (wpAny_bind (wpAny_pyHash_int ?_))
  refine wpAny_pure ?_
  refine wpAny_pure ?_
  show wpAny _ _ (retInt (Builtin.Tuple.tupleHashOf _)) _ _ _
  refine wpAny_ret_mkInt ?_
  generalize hv : Builtin.Tuple.tupleHashOf _ = v
  have hv' : Builtin.Tuple.tupleHashOf [PySem.hashStr w k.op, tupleKeyHash (IK w) k.args, hashInt k.kind, hashInt k.data] = v := hv
  unfold hashSh at h
  rw [hv'] at h
  have key : ∀ s' : Shared, s' = { s with toks := s.toks + drawsSh k } → Q (reduceHash v) s' := fun s' e => e ▸ h
  have et : ∀ tk, tk = s.toks + drawsSh k → Q (reduceHash v) { s with toks := tk } := fun tk e => e ▸ h
  show wpAny _ _ (if (decide (-(2 : Int) ^ 63 ≤ v) && decide (v < 2 ^ 63)) = true then _ else _) Q E _
  unfold reduceHash at et
  by_cases hr : (decide (-(2 : Int) ^ 63 ≤ v) && decide (v < 2 ^ 63)) = true
  · rw [if_pos hr]
    rw [if_pos hr] at et
    exact wpAny_pure (et _ (by unfold drawsSh; dsimp only; omega))
  · rw [if_neg hr]
    rw [if_neg hr] at et
    exact wpAny_bind (wpAny_rule (wpAny_pure (et _ (by unfold drawsSh; dsimp only; omega))))

theorem depth_sh (k : Sh) : k.py.depth ≤ 3 := by
  have := depth_ints k.args
  simp only [Sh.py, PyData.depth, PyData.depthAll]
  omega
def OpOk (k : Sh) : Prop := PyData.strOk k.op = true
theorem canLay_sh {k : Sh} (h : OpOk k) : k.py.canLay0 = true := by
  have h' : PyData.strOk k.op = true := h
  simp [Sh.py, PyData.canLay0, PyData.canLayAll0, canLay_ints, h']

theorem eqBool_shape {x y : Sh} {a b : Addr} {Q : Bool → Shared → Prop} (hu : A.units + 4 < cLine) (ox : OpOk x) (oy : OpOk y) (hx : IsShape w s.heap x a) (hy : IsShape w s.heap y b) (h : Q (decide (x = y)) s) :
    wpAny (model PG w) A (eqBool (.ref a) (.ref b)) Q E s := by
  refine SeqAt.eqAt_reads _ _ A s _ _ _ _ hx.reads hy.reads (canLay_sh ox) (canLay_sh oy) ?_ PG w E Q ?_
  · have := depth_sh x; omega
  · rw [eqv_sh]; exact h

theorem quiet_shape {k : Sh} {a : Addr} {Q : Bool → Shared → Prop} (hk : IsShape w s.heap k a) (h : Q true s) : wpAny (model PG w) A (eqIsQuiet 8 (.ref a)) Q E s := by
  have hT := hk.typeIs
  refine e6_4 hk ?_
  try clear hk
  intro o t1 b t2 t3 n ho hc hd hb
  have hTb := hb.typeIs
  refine e3_4 hb ?_
  try clear hb
  intro o' items n' ho' hc' hd' hi
  unfold eqIsQuiet
  refine wpAny_bind (wpAny_specialOf hT F.slot_tuple_eq.lookup ?_)
  show wpAny _ _ (isInstance (.ref a) (.type "tuple") >>= _) _ _ s
  refine wpAny_bind (wpAny_isInstance hT isSubtype_tuple_tuple ?_)
  simp only [Bool.not_true, Bool.false_eq_true, if_false]
  refine wpAny_bind (wpAny_seqItems ho hd ?_)
  refine wpAny_bind ?_
  show wpAny _ _ (forIn (#[Value.str k.op t1, .ref b, .int k.kind t2, .int k.data t3] : Array Value) _ _) _ _ s
  rw [← Array.forIn_toList]
  show wpAny _ _ (forIn [Value.str k.op t1, .ref b, .int k.kind t2, .int k.data t3] _ _) _ _ s
  simp only [List.forIn_cons, List.forIn_nil]
  have inner : ∀ {Q' : Bool → Shared → Prop}, Q' true s → wpAny (model PG w) A (eqIsQuiet 7 (.ref b)) Q' E s := fun {Q'} hq => by
    unfold eqIsQuiet
    refine wpAny_bind (wpAny_specialOf hTb F.slot_tuple_eq.lookup ?_)
    show wpAny _ _ (isInstance (.ref b) (.type "tuple") >>= _) _ _ s
    refine wpAny_bind (wpAny_isInstance hTb isSubtype_tuple_tuple ?_)
    simp only [Bool.not_true, Bool.false_eq_true, if_false]
    refine wpAny_bind (wpAny_seqItems ho' hd' ?_)
    refine wpAny_bind ?_
    show wpAny _ _ (forIn items _ _) _ _ s
    rw [← Array.forIn_toList]
    refine wpAny_forIn_list _ (fun rest r s' => r.1 = none ∧ s' = s ∧ ∀ v ∈ rest, carriedByValue v = true) _ ?_ ?_ _ _ ⟨rfl, rfl, hi.byValue⟩
    · intro v rest r s' hz_
      refine e0_3 hz_ ?_
      try clear hz_
      intro hr hy1_ hall
      subst hy1_
      rw [eqIsQuiet_byValue _ (hall v List.mem_cons_self)]
      refine wpAny_bind (wpAny_pure ?_)
      simp only [Bool.not_true, Bool.false_eq_true, if_false]
      exact wpAny_pure ⟨rfl, rfl, fun u hu' => hall u (List.mem_cons_of_mem _ hu')⟩
    · rintro ⟨r1, r2⟩ s' ⟨hr, rfl, _⟩
      simp only at hr
      subst hr
      exact wpAny_pure hq
  rw [eqIsQuiet_byValue 7 (v := .str k.op t1) rfl, eqIsQuiet_byValue 7 (v := .int k.kind t2) rfl, eqIsQuiet_byValue 7 (v := .int k.data t3) rfl]
  refine wpAny_bind (wpAny_bind (wpAny_pure ?_))
  simp only [Bool.not_true, Bool.false_eq_true, if_false]
  refine wpAny_pure ?_
  refine wpAny_bind (wpAny_bind (inner ?_))
  simp only [Bool.not_true, Bool.false_eq_true, if_false]
  refine wpAny_pure ?_
  refine wpAny_bind (wpAny_bind (wpAny_pure ?_))
  simp only [Bool.not_true, Bool.false_eq_true, if_false]
  refine wpAny_pure ?_
  refine wpAny_bind (wpAny_bind (wpAny_pure ?_))
  simp only [Bool.not_true, Bool.false_eq_true, if_false]
  refine wpAny_pure ?_
  exact wpAny_pure (wpAny_pure h)

theorem keeps_shape {h h' : Heap} {k : Sh} {a d : Addr} {o : Obj} {es ep} (x : IsShape w h k a) (ho : h.get? d = some o) (hd : o.data = .dict es ep) (hs : Heap.SameBut d h h') : IsShape w h' k a := by
  refine e6_4 x ?_
  try clear x
  intro o' t1 b t2 t3 n ho' hc hd' hb
  refine ⟨o', t1, b, t2, t3, n, (hs.2 a ?_).trans ho', hc, hd', hb.keeps ho hd hs⟩
  rintro rfl
  rw [ho] at ho'; cases ho'
  rw [hd] at hd'; cases hd'
end

def shKind (w : World) : HeapKind PG w Sh where
  is := fun h k a => IsShape w h k a ∧ OpOk k
  hash := hashSh w
  draws := drawsSh
  room := fun A => A.units + 4 < cLine
  inj := fun hx hy => hx.1.inj hy.1
  keeps := fun x ho hd hs => ⟨keeps_shape x.1 ho hd hs, x.2⟩
  pyHash := fun hu hk h => pyHash_shape (by first | exact Nat.le_refl _ | exact leK rfl | omega) hk.1 h
  eqBool := fun hu hx hy h => eqBool_shape hu hx.2 hy.2 hx.1 hy.1 h
  quiet := fun hk h => quiet_shape hk.1 h
end
/-! part Sp4 -/
section

abbrev lst (vs : List Value) (n : Nat) : Obj := listOf vs.toArray n
/-- a list object, whatever its count of changes -/
def LO (o : Obj) (vs : List Value) : Prop := o.cls = .type "list" ∧ ∃ n, o.data = .seq vs.toArray n
theorem LO.lst (vs : List Value) (n : Nat) : LO (lst vs n) vs := ⟨rfl, n, rfl⟩

section
variable {w : World} {C : Cx} {α β : Type} {l : Ls} {N : Hl} {env : Env} {r : Nat}

/-- a step of the library that leaves heap and ledger as they are -/
theorem SP.still {t : Sem α} {Q : α → Ls → Hl → Prop} (h : ∀ s : Shared, (∀ a o, N a = some o → s.heap.get? a = some o) → ∀ R : α → Shared → Prop, (∀ v tk, Q v l N → R v { s with toks := tk }) → wpAny (model PG w) C.A t R (fun _ _ => False) s) : SP w C t l N Q := fun s hl hN =>
  h s (fun a o e => (hN a o e).1) _ fun _ _ q => Po.intro hl hN q

/-! ints and texts -/
theorem SP_add {a b : Int} {t u : Tok} {Q : Value → Ls → Hl → Prop} (h : ∀ t', Q (.int (a + b) t') l N) : SP w C (binaryOp .Add (.int a t) (.int b u)) l N Q := fun _ hl hN => add_int (Po.intro hl hN (h _))
theorem SP_sub {a b : Int} {t u : Tok} {Q : Value → Ls → Hl → Prop} (h : ∀ t', Q (.int (a - b) t') l N) : SP w C (binaryOp .Sub (.int a t) (.int b u)) l N Q := fun _ hl hN => sub_int (Po.intro hl hN (h _))
theorem SP_mul {a b : Int} {t u : Tok} {Q : Value → Ls → Hl → Prop} (hm : IntMulOk a b) (h : ∀ t', Q (.int (a * b) t') l N) : SP w C (binaryOp .Mult (.int a t) (.int b u)) l N Q := fun _ hl hN => mul_int (Po.intro hl hN (h _)) hm
theorem SP_mod {a b : Int} {t u : Tok} {Q : Value → Ls → Hl → Prop} (hb : b ≠ 0) (h : ∀ t', Q (.int (a.fmod b) t') l N) : SP w C (binaryOp .Mod (.int a t) (.int b u)) l N Q := fun _ hl hN => mod_int' hb (Po.intro hl hN (h _))
theorem SP_eqI {a b : Int} {t u : Tok} {Q : Value → Ls → Hl → Prop} (h : Q (.bool (a == b)) l N) : SP w C (compareOp .Eq (.int a t) (.int b u)) l N Q := fun s hl hN => eq_int (Po.intro (tk' := s.toks) hl hN h)
theorem SP_neI {a b : Int} {t u : Tok} {Q : Value → Ls → Hl → Prop} (h : Q (.bool (a != b)) l N) : SP w C (compareOp .NotEq (.int a t) (.int b u)) l N Q := fun s hl hN => ne_int (Po.intro (tk' := s.toks) hl hN h)
theorem SP_ltI {a b : Int} {t u : Tok} {Q : Value → Ls → Hl → Prop} (h : Q (.bool (decide (a < b))) l N) : SP w C (compareOp .Lt (.int a t) (.int b u)) l N Q := fun s hl hN => lt_int (Po.intro (tk' := s.toks) hl hN h)
theorem SP_gtI {a b : Int} {t u : Tok} {Q : Value → Ls → Hl → Prop} (h : Q (.bool (decide (b < a))) l N) : SP w C (compareOp .Gt (.int a t) (.int b u)) l N Q := fun s hl hN => gt_int (Po.intro (tk' := s.toks) hl hN h)
theorem SP_eqS {a b : Str} {t u : Tok} {Q : Value → Ls → Hl → Prop} (h : Q (.bool (a == b)) l N) : SP w C (compareOp .Eq (.str a t) (.str b u)) l N Q := fun s hl hN => eq_str (Po.intro (tk' := s.toks) hl hN h)

/-! lists and tuples read -/
theorem isList_at {h : Heap} {a : Addr} {o : Obj} {vs : List Value} (e : h.get? a = some o) (x : LO o vs) : h.IsList a vs.toArray := ⟨_, e, x.1, x.2⟩
theorem isTup_at {h : Heap} {a : Addr} {vs : List Value} (e : h.get? a = some (tupObj vs)) : IsTup h a vs.toArray := ⟨_, e, rfl, 0, rfl⟩

theorem SP_lenL {a : Addr} {vs : List Value} {o : Obj} {Q : Value → Ls → Hl → Prop} (e : N a = some o) (x : LO o vs) (hz : (vs.length : Int) < 2 ^ 63) (h : ∀ t, Q (.int vs.length t) l N) : SP w C (call (.builtin "len") [.ref a]) l N Q := fun _ hl hN =>
  call_len_list (isList_at (hN _ _ e).1 x) (by first | exact nm1 hz | exact nm1 (Ne.symm hz) | simpa using hz) (Po.intro hl hN (by simpa using h _))
theorem SP_lenT {a : Addr} {vs : List Value} {Q : Value → Ls → Hl → Prop} (e : N a = some (tupObj vs)) (hz : (vs.length : Int) < 2 ^ 63) (h : ∀ t, Q (.int vs.length t) l N) : SP w C (call (.builtin "len") [.ref a]) l N Q := fun _ hl hN =>
  PyProof.Rows.len_tuple (isTup_at (hN _ _ e).1) (by first | exact nm1 hz | exact nm1 (Ne.symm hz) | simpa using hz) (Po.intro hl hN (by simpa using h _))
theorem SP_itemL {value slice : Expr} {a : Addr} {vs : List Value} {o : Obj} {k : Int} {u : Tok} {v : Value} {Q : Value → Ls → Hl → Prop} (e : N a = some o) (x : LO o vs) (h0 : 0 ≤ k) (hz : k < 2 ^ 63) (hv : vs[k.toNat]? = some v) (h : Q v l N)
    (hs : subscripted slice false (.ref a) (.int k u) = operate [.ref a, .int k u] (getItem (.ref a) (.int k u)) := by with_unfolding_all rfl) : SP w C (subscriptTail value slice (.ref a) (.int k u)) l N Q := fun s hl hN =>
  have hL := isList_at (hN _ _ e).1 x
  tail_any hL.typeIs slot_list_getitem.lookup (wpAny_getItem_list hL h0 hz (by first | exact nm1 hv | exact nm1 (Ne.symm hv) | simpa using hv) (Po.intro (tk' := s.toks) hl hN h)) hs
theorem SP_itemLneg {value slice : Expr} {a : Addr} {vs : List Value} {o : Obj} {k : Int} {u : Tok} {v : Value} {Q : Value → Ls → Hl → Prop} (e : N a = some o) (x : LO o vs) (h0 : k < 0) (h1 : -(vs.length : Int) ≤ k) (hz : -(2 ^ 63) ≤ k) (hv : vs[(k + vs.length).toNat]? = some v) (h : Q v l N)
    (hs : subscripted slice false (.ref a) (.int k u) = operate [.ref a, .int k u] (getItem (.ref a) (.int k u)) := by with_unfolding_all rfl) : SP w C (subscriptTail value slice (.ref a) (.int k u)) l N Q := fun s hl hN =>
  have hL := isList_at (hN _ _ e).1 x
  tail_any hL.typeIs slot_list_getitem.lookup (wpAny_getItem_list_neg hL h0 (by first | exact nm1 h1 | exact nm1 (Ne.symm h1) | simpa using h1) hz (by first | exact nm1 hv | exact nm1 (Ne.symm hv) | simpa using hv) (Po.intro (tk' := s.toks) hl hN h)) hs
theorem SP_itemT {value slice : Expr} {a : Addr} {vs : List Value} {k : Int} {u : Tok} {v : Value} {Q : Value → Ls → Hl → Prop} (e : N a = some (tupObj vs)) (h0 : 0 ≤ k) (hz : k < 2 ^ 63) (hv : vs[k.toNat]? = some v) (h : Q v l N)
    (hs : subscripted slice false (.ref a) (.int k u) = operate [.ref a, .int k u] (getItem (.ref a) (.int k u)) := by with_unfolding_all rfl) : SP w C (subscriptTail value slice (.ref a) (.int k u)) l N Q := fun s hl hN =>
  item_tupleT (isTup_at (hN _ _ e).1) (by first | exact Nat.le_refl _ | exact leK rfl | omega) hz (seqIndex_of h0 (by have := (List.getElem?_eq_some_iff.mp hv).1; omega)) hv (Po.intro (tk' := s.toks) hl hN h) hs

/-! lists changed -/
theorem SP_append {a : Addr} {vs : List Value} {n : Nat} {v : Value} {Q : Value → Ls → Hl → Prop} (e : N a = some (lst vs n)) (hz : vs.length ≤ sizeLine) (h : Q .none l (upd N a (lst (vs ++ [v]) (n + 1)))) : SP w C (call (.builtin "list.append") [.ref a, v]) l N Q := fun s hl hN =>
  append_at (hsz := by simpa using hz) (hN _ _ e).1 fun h' hs ho => Po.intro (tk' := s.toks) (hl.same hs (hN _ _ e).2.1 (hN _ _ e).2.2.1) (hN.upd e hs ho) (by first | exact nm1 h | exact nm1 (Ne.symm h) | simpa using h)
theorem SP_pop {a : Addr} {vs : List Value} {n : Nat} {v : Value} {Q : Value → Ls → Hl → Prop} (e : N a = some (lst (vs ++ [v]) n)) (hz : vs.length < sizeLine) (h : Q v l (upd N a (lst vs (n + 1)))) : SP w C (call (.builtin "list.pop") [.ref a]) l N Q := fun s hl hN => by
  have e1 : (vs ++ [v]).toArray = vs.toArray.push v := by simp
  refine Copied.pop_at (hsz := by simp; omega) (hN _ _ e).1 (y := v) (by simp) fun h' hs ho => ?_
  rw [e1, Array.pop_push] at ho
  exact Po.intro (tk' := s.toks) (hl.same hs (hN _ _ e).2.1 (hN _ _ e).2.2.1) (hN.upd e hs ho) h
theorem SP_setL {a : Addr} {o : Obj} {vs : List Value} {k : Int} {t : Tok} {v : Value} {Q : Unit → Ls → Hl → Prop} (e : N a = some o) (x : LO o vs) (h0 : 0 ≤ k) (hz : k < 2 ^ 63) (hn : k < vs.length)
    (h : ∀ o', LO o' (vs.set k.toNat v) → Q () l (upd N a o')) : SP w C (setItem (.ref a) (.int k t) v) l N Q := fun s hl hN =>
  wpAny_setItem_list (isList_at (hN _ _ e).1 x) h0 hz (by first | exact nm1 hn | exact nm1 (Ne.symm hn) | simpa using hn) fun h' ⟨o', ho', hc, n, hd⟩ hs =>
    Po.intro (tk' := s.toks) (hl.same hs (hN _ _ e).2.1 (hN _ _ e).2.2.1) (hN.upd e hs ho') (h o' ⟨hc, n, by simpa using hd⟩)

/-! methods of lists and dicts -/
theorem SP_mAppend {a : Addr} {vs : List Value} {n : Nat} {pl : Sem Bool} {Q : Value × List Value → Ls → Hl → Prop} (e : N a = some (lst vs n)) (h : Q (.builtin "list.append", [.ref a]) l N) : SP w C (getMethod (.ref a) "append" pl) l N Q := fun s hl hN =>
  getMethod_list_append (hN _ _ e).1 rfl rfl (Po.intro (tk' := s.toks) hl hN h)
theorem SP_mPop {a : Addr} {vs : List Value} {n : Nat} {pl : Sem Bool} {Q : Value × List Value → Ls → Hl → Prop} (e : N a = some (lst vs n)) (h : Q (.builtin "list.pop", [.ref a]) l N) : SP w C (getMethod (.ref a) "pop" pl) l N Q := fun s hl hN =>
  Copied.getMethod_pop_at (hN _ _ e).1 rfl rfl (Po.intro (tk' := s.toks) hl hN h)

/-! the ledger's words for tuples of ints, shapes, dicts keyed by shapes -/
def TupI (N : Hl) (a : Addr) (ns : List Int) : Prop := ∃ vs, N a = some (tupObj vs) ∧ IntsAre vs ns
def KeyT (N : Hl) (a : Addr) (k : Sh) : Prop := ∃ t1 b t2 t3, N a = some (tupObj [.str k.op t1, .ref b, .int k.kind t2, .int k.data t3]) ∧ TupI N b k.args
/-- tuples stay -/
def TupKeep (N N' : Hl) : Prop := ∀ a vs, N a = some (tupObj vs) → N' a = some (tupObj vs)
theorem TupKeep.refl (N : Hl) : TupKeep N N := fun _ _ e => e
theorem TupKeep.trans {N N' N'' : Hl} (h : TupKeep N N') (h' : TupKeep N' N'') : TupKeep N N'' := fun a vs e => h' a vs (h a vs e)
theorem TupKeep.new {N : Hl} {q : Addr} {o : Obj} (h : N q = none) : TupKeep N (upd N q o) := fun _ _ e => upd_old e h
theorem TupKeep.chg {N : Hl} {q : Addr} {o o' : Obj} (h : N q = some o) (hc : o.cls ≠ .type "tuple") : TupKeep N (upd N q o') := fun a vs e => by
  rw [upd_ne, e]; rintro rfl; rw [h] at e; cases e; exact hc rfl
theorem TupI.keep {N N' : Hl} {a : Addr} {ns : List Int} (x : TupI N a ns) (h : TupKeep N N') : TupI N' a ns := let ⟨vs, e, i⟩ := x; ⟨vs, h _ _ e, i⟩
theorem KeyT.keep {N N' : Hl} {a : Addr} {k : Sh} (x : KeyT N a k) (h : TupKeep N N') : KeyT N' a k := let ⟨t1, b, t2, t3, e, i⟩ := x; ⟨t1, b, t2, t3, h _ _ e, i.keep h⟩
theorem TupI.key {h₀ h : Heap} {L a : Addr} {ns : List Int} (x : TupI N a ns) (hN : Led h₀ L h N) : IsTupleKey (IK w) h ns a := by
  refine e1_2 x ?_
  try clear x
  intro vs e i
  exact ⟨_, vs.toArray, 0, (hN _ _ e).1, rfl, rfl, by simpa using itemsAre_ints i⟩
theorem KeyT.shape {h₀ h : Heap} {L a : Addr} {k : Sh} (x : KeyT N a k) (hN : Led h₀ L h N) : IsShape w h k a := by
  refine e4_2 x ?_
  try clear x
  intro t1 b t2 t3 e i
  exact ⟨_, t1, b, t2, t3, 0, (hN _ _ e).1, rfl, rfl, i.key hN⟩

/-- a dict whose keys are shapes: xs lists key, its tuple's address, value -/
def DicH (w : World) (N : Hl) (d : Addr) (xs : List (Sh × Addr × Value)) : Prop :=
  ∃ o es ep, N d = some o ∧ o.ExactDict ∧ o.data = .dict es ep ∧ es.toList = xs.map (entryOfKey (shKind w)) ∧ (∀ x ∈ xs, KeyT N x.2.1 x.1 ∧ OpOk x.1) ∧ (xs.map (·.1)).Nodup
theorem DicH.of {h₀ h : Heap} {L d : Addr} {xs : List (Sh × Addr × Value)} (x : DicH w N d xs) (hN : Led h₀ L h N) : h.DictOfH (shKind w) d xs := by
  refine e3_6 x ?_
  try clear x
  intro o es ep e hx hd he hk hn
  exact ⟨o, es, ep, (hN _ _ e).1, hx, hd, he, fun y hy => ⟨(hk y hy).1.shape hN, (hk y hy).2⟩, hn⟩
theorem DicH.keep {N N' : Hl} {d : Addr} {xs : List (Sh × Addr × Value)} (x : DicH w N d xs) (h : TupKeep N N') (e : N' d = N d) : DicH w N' d xs := by
  refine e3_6 x ?_
  try clear x
  intro o es ep e0 hx hd he hk hn
  exact ⟨o, es, ep, e.trans e0, hx, hd, he, fun y hy => ⟨(hk y hy).1.keep h, (hk y hy).2⟩, hn⟩
theorem DicH.get {d : Addr} {xs : List (Sh × Addr × Value)} (x : DicH w N d xs) : ∃ o, N d = some o ∧ o.cls = .type "dict" ∧ o.dict = none := by
  obtain ⟨o, es, ep, e0, hx, _⟩ := x; exact ⟨o, e0, hx.1, hx.2.1⟩
theorem lo_of {h₀ h : Heap} {L d : Addr} {o : Obj} (hN : Led h₀ L h N) (e : N d = some o) : (d == sysModules) = false := beq_false_of_ne (Nat.ne_of_gt (hN _ _ e).2.2.2)

theorem SP_mGet {d : Addr} {xs : List (Sh × Addr × Value)} {pl : Sem Bool} {Q : Value × List Value → Ls → Hl → Prop} (x : DicH w N d xs) (h : Q (.builtin "dict.get", [.ref d]) l N) : SP w C (getMethod (.ref d) "get" pl) l N Q := fun s hl hN => by
  refine e1_3 x.get ?_
  intro o e hc hd
  exact getMethod_builtin ⟨o, (hN _ _ e).1, hc⟩ PySem.F.plainAttrs_dict PySem.F.slot_dict_get PySem.F.type_dict_get (fun a q => by cases q; exact ⟨o, (hN _ _ e).1, hd⟩) (Po.intro (tk' := s.toks) hl hN h)
theorem SP_dGet (ok : Ok w C env r) {d a : Addr} {xs : List (Sh × Addr × Value)} {k : Sh} {v : Value} {Q : Value → Ls → Hl → Prop} (x : DicH w N d xs) (hk : KeyT N a k) (ho : OpOk k) (h : Q (((atKey xs k).map (·.2)).getD v) l N) :
    SP w C (call (.builtin "dict.get") [.ref d, .ref a, v]) l N Q := fun s hl hN => by
  refine e1_2 x.get ?_
  intro o e _
  exact call_meetsIn PySem.F.slot_dict_get (x.of hN).typeIs PySem.F.entry_dict_get (PySem.F.args_dict_get_3 _ _ _) (meetsH_dict_get_default (shKind w) d a (lo_of hN e) v)
    ⟨by have := ok.u0; show C.A.units + 1 + 4 < cLine; have := ok.hu; rw [cLine_is]; omega, k, xs, ⟨hk.shape hN, ho⟩, x.of hN, Po.intro hl hN h⟩
theorem SP_dIn (ok : Ok w C env r) {d a : Addr} {xs : List (Sh × Addr × Value)} {k : Sh} {Q : Value → Ls → Hl → Prop} (x : DicH w N d xs) (hk : KeyT N a k) (ho : OpOk k) (h : Q (.bool (!(atKey xs k).isSome)) l N) :
    SP w C (compareOp .NotIn (.ref a) (.ref d)) l N Q := fun s hl hN => by
  refine e1_2 x.get ?_
  intro o e _
  have hm := x.of hN
  have lo := lo_of hN e
  show wpAny _ _ (do return Value.bool (!(← contains (.ref d) (.ref a))) : Sem Value) _ _ s
  refine wpAny_bind ?_
  unfold contains
  try with_reducible refine wpAny_holding ?_
  refine wpAny_bind (wpAny_specialOf hm.typeIs slot_dict_contains.lookup ?_)
  show wpAny _ _ (if (some (Value.builtin "dict.__contains__") == some Value.none) = true then _ else _) _ _ s
  rw [if_neg (by rw [beq_builtin_none]; exact Bool.false_ne_true)]
  refine wpAny_bind (wpAny_callSpecialUnlessNone?_slot (name := Str.ofString "__contains__") hm.typeIs slot_dict_contains
    (wpAny_call_entry slot_dict_contains hm.typeIs entry_dict_contains ?_ (args_dict_contains _ _)))
  show wpAny _ _ (dictGet d (.ref a) >>= _) _ _ s
  refine wpAny_bind (wpAny_dictGet_heap (knd := shKind w) (by have := ok.hu; show C.A.units + 1 + 4 < cLine; rw [cLine_is]; omega) (k := k) ⟨hk.shape hN, ho⟩ hm ?_)
  cases hf : atKey xs k with
  | some p =>
    rw [hf] at h
    show wpAny _ _ (ret (.bool true)) _ _ _
    exact wpAny_pure ⟨_, rfl, wpAny_truthy_bool (wpAny_pure (Po.intro hl hN h))⟩
  | none =>
    rw [hf] at h
    show wpAny _ _ (Builtin.Dict.pendingKey? d (.ref a) >>= _) _ _ _
    exact wpAny_bind (wpAny_pendingKey_other lo (wpAny_pure ⟨_, rfl, wpAny_truthy_bool (wpAny_pure (Po.intro hl hN h))⟩))
theorem SP_dItem (ok : Ok w C env r) {value slice : Expr} {d a : Addr} {xs : List (Sh × Addr × Value)} {k : Sh} {p : Addr × Value} {Q : Value → Ls → Hl → Prop} (x : DicH w N d xs) (hk : KeyT N a k) (ho : OpOk k) (hp : atKey xs k = some p) (h : Q p.2 l N)
    (hs : subscripted slice false (.ref d) (.ref a) = operate [.ref d, .ref a] (getItem (.ref d) (.ref a)) := by with_unfolding_all rfl) :
    SP w C (subscriptTail value slice (.ref d) (.ref a)) l N Q := fun s hl hN => by
  have hm := x.of hN
  exact tail_any hm.typeIs slot_dict_getitem.lookup (wpAny_getItem_heap (knd := shKind w) (by have := ok.hu; show C.A.units + 1 + 4 < cLine; rw [cLine_is]; omega) (k := k) ⟨hk.shape hN, ho⟩ hm hp (Po.intro hl hN h)) hs
theorem SP_dSet (ok : Ok w C env r) {d a : Addr} {xs : List (Sh × Addr × Value)} {k : Sh} {v : Value} {Q : Unit → Ls → Hl → Prop} (x : DicH w N d xs) (hk : KeyT N a k) (ho : OpOk k) (hz : xs.length ≤ sizeLine)
    (h : ∀ o', DicH w (upd N d o') d (storedH xs k a v) → Q () l (upd N d o')) : SP w C (setItem (.ref d) (.ref a) v) l N Q := fun s hl hN => by
  refine e1_3 x.get ?_
  intro o e hc _
  refine wpAny_setItem_heap (knd := shKind w) (by have := ok.hu; show C.A.units + 1 + 4 < cLine; rw [cLine_is]; omega) (k := k) ⟨hk.shape hN, ho⟩ (x.of hN) (fun h' hm hs => ?_) hz
  refine e3_6 hm ?_
  try clear hm
  intro o' es ep ho' hx' hd' he' _ hn'
  have tk : TupKeep N (upd N d o') := TupKeep.chg e (by rw [hc]; decide)
  refine Po.intro (hl.same hs (hN _ _ e).2.1 (hN _ _ e).2.2.1) (hN.upd e hs ho') (h o' ⟨o', es, ep, upd_self .., hx', hd', he', fun y hy => ?_, hn'⟩)
  have all : ∀ y ∈ xs, KeyT (upd N d o') y.2.1 y.1 ∧ OpOk y.1 := fun y hy => by
    refine e3_6 x ?_
    try clear x
    intro _ _ _ _ _ _ _ hk' _
    exact ⟨(hk' y hy).1.keep tk, (hk' y hy).2⟩
  unfold storedH at hy
  split at hy
  · refine e1_2 (List.mem_map.mp hy) ?_
    intro z hz hy2_
    subst hy2_
    have := all z hz
    unfold putAt
    split <;> exact this
  · rcases List.mem_append.mp hy with hy | hy
    · exact all y hy
    · rw [List.mem_singleton.mp hy]; exact ⟨hk.keep tk, ho⟩
end
end
/-! part Sp5 -/
section

theorem Led.cons {h₀ h h' : Heap} {L D : Addr} {o : Obj} {N : Hl} (hN : Led h₀ L h N) (n : News h₀ L h' ((D, o) :: hlList h N)) (lt : ∀ q ∈ hlList h N, q.1 < D) (hz : sysModules < D) : Led h₀ L h' (Mine.upd N D o) ∧ N D = none := by
  have hn : N D = none := by
    cases e : N D with
    | none => rfl
    | some o' => exact absurd (lt _ (hN.mem e)) (Nat.lt_irrefl _)
  refine ⟨fun a o' e => ?_, hn⟩
  by_cases ha : a = D
  · subst ha; rw [upd_self] at e; cases e
    have x := n _ (.head _)
    exact ⟨x.1, x.2.1, x.2.2, hz⟩
  · rw [upd_ne ha] at e
    have x := n _ (.tail _ (hN.mem e))
    exact ⟨x.1, x.2.1, x.2.2, (hN a o' e).2.2.2⟩

section
variable {w : World} {C : Cx} {α β : Type} {l : Ls} {N : Hl} {env : Env} {r : Nat}

theorem SP_callT {pos : Pos} {T : String} {first : List Value} {e : Expr} {rest : List Expr} {Q : Value → Ls → Hl → Prop}
    (h : SP w C (spliced (backTo pos (starEach (e :: rest) env))) l N (fun vs l' N' => SP w C (call (.type T) (first ++ vs)) l' N' Q))
    (he : starEach (e :: rest) env = (false, eval e env) :: starEach rest env := by rfl) (hplain : (backTo pos (starEach rest env)).any (·.1) = false := by rfl) :
    SP w C (callWith pos (.type T) first (backTo pos (starEach (e :: rest) env)) []) l N Q := fun _ hl hN => by
  rw [he] at h ⊢
  exact PyProof.Rows.callWith_type (by show (false || (backTo pos (starEach rest env)).any (·.1)) = false; rw [hplain]; rfl) (evalArgs_plain (h.run hl hN fun _ _ _ _ _ x y z => z.go x y))

theorem SP_tupleL {a : Addr} {o : Obj} {vs : List Value} {Q : Value → Ls → Hl → Prop} (e : N a = some o) (x : LO o vs) (hz : vs.length ≤ 16384) (h : ∀ q, N q = none → Q (.ref q) l (upd N q (tupObj vs))) : SP w C (call (.type "tuple") [.ref a]) l N Q := by
  rintro s hl hN
  refine e1_3 (id hl) ?_
  intro m F hm z
  refine kde_tupleOf (zs := vs) F hN.news (isList_at (hN _ _ e).1 x) (by first | exact nm1 hz | exact nm1 (Ne.symm hz) | simpa using hz) (by simp) fun D h' F' N' lt => ?_
  refine e0_2 (hN.cons N' lt (Nat.lt_trans (hN _ _ e).2.2.2 (lt _ (hN.mem e)))) ?_
  intro L' hn
  exact Po.intro (tk' := s.toks) ⟨m, F', hm, z⟩ L' (h D hn)
theorem SP_tupleT {a : Addr} {vs : List Value} {Q : Value → Ls → Hl → Prop} (e : N a = some (tupObj vs)) (h : Q (.ref a) l N) : SP w C (call (.type "tuple") [.ref a]) l N Q := fun s hl hN =>
  call_tuple_tup (isTup_at (hN _ _ e).1) (Po.intro (tk' := s.toks) hl hN h)
theorem SP_listL {a : Addr} {o : Obj} {vs : List Value} {Q : Value → Ls → Hl → Prop} (e : N a = some o) (x : LO o vs) (hz : vs.length ≤ sizeLine) (h : ∀ q n, N q = none → Q (.ref q) l (upd N q (lst vs n))) : SP w C (call (.type "list") [.ref a]) l N Q := by
  rintro s hl hN
  refine e1_3 (id hl) ?_
  intro m F hm z
  refine list_copyK F hN.news (isList_at (hN _ _ e).1 x) (fun D c h' F' N' lt => ?_) (by first | exact nm1 hz | exact nm1 (Ne.symm hz) | simpa using hz)
  refine e0_2 (hN.cons N' lt (Nat.lt_trans (hN _ _ e).2.2.2 (lt _ (hN.mem e)))) ?_
  intro L' hn
  exact Po.intro (tk' := s.toks) ⟨m, F', hm, z⟩ L' (h D c hn)
theorem SP_sorted {a : Addr} {o : Obj} {vs : List Value} {ns : List Int} {Q : Value → Ls → Hl → Prop} (e : N a = some o) (x : LO o vs) (hI : IntsAre vs ns) (hz : vs.length < 64)
    (h : ∀ q vs' ns' n, N q = none → IntsAre vs' ns' → ns'.Perm ns → ns'.Pairwise (· ≤ ·) → Q (.ref q) l (upd N q (lst vs' n))) : SP w C (call (.builtin "sorted") [.ref a]) l N Q := by
  rintro s hl hN
  refine e1_3 (id hl) ?_
  intro m F hm z
  refine sorted_N F hN.news (isList_at (hN _ _ e).1 x) hI hz fun h' vs' ns' n F' N' a1 a2 a3 => ?_
  refine e0_2 (hN.cons N' (fun q hq => Nat.lt_succ_of_lt (mem_hlList.mp hq).1) (Nat.lt_succ_of_lt (Nat.lt_trans (hN _ _ e).2.2.2 (Heap.lt_size (hN _ _ e).1)))) ?_
  intro L' hn
  exact Po.intro (tk' := s.toks) ⟨m, F', hm, z⟩ L' (h _ vs' ns' n hn a1 a2 a3)
theorem Led.same {h₀ h h' : Heap} {L : Addr} (hN : Led h₀ L h N) (n : News h₀ L h' (hlList h N)) : Led h₀ L h' N := hN.of' n
theorem SP_min (ok : Ok w C env r) {a b : Int} {t u : Tok} {Q : Value → Ls → Hl → Prop} (h : ∀ t', Q (.int (if b < a then b else a) t') l N) : SP w C (call (.builtin "min") [.int a t, .int b u]) l N Q := by
  rintro s hl hN
  refine e1_3 (id hl) ?_
  intro m F hm z
  exact min_two_N ok.hh F hN.news fun h' tk F' N' => Po.intro ⟨m, F', hm, z⟩ (hN.of' N') (h _)
theorem SP_max (ok : Ok w C env r) {a b : Int} {t u : Tok} {Q : Value → Ls → Hl → Prop} (h : ∀ t', Q (.int (if b > a then b else a) t') l N) : SP w C (call (.builtin "max") [.int a t, .int b u]) l N Q := by
  rintro s hl hN
  refine e1_3 (id hl) ?_
  intro m F hm z
  exact max_two_N ok.hh F hN.news fun h' tk F' N' => Po.intro ⟨m, F', hm, z⟩ (hN.of' N') (h _)

/-! instances -/
theorem inst_at {h₀ h : Heap} {L x dx Cl : Addr} {es : List DictEntry} {n : Nat} (hN : Led h₀ L h N) (h1 : N x = some (instObj Cl dx)) (h2 : N dx = some (dictOf es n)) :
    W.InstAt h x (instObj Cl dx) Cl (some (dictOf es n)) := ⟨(hN _ _ h1).1, rfl, rfl, (hN _ _ h2).1⟩
theorem SP_attr (ok : Ok w C env r) {x dx Cl : Addr} {es : List DictEntry} {n : Nat} {name : Str} {attr : Option Value} {v : Value} {expr : Bool} {Q : Value → Ls → Hl → Prop} (h1 : N x = some (instObj Cl dx)) (h2 : N dx = some (dictOf es n))
    (hg : plainGet (KH w.params) Cl name = true) (hh : hasDictIn (KH w.params) Cl = true) (ha : findIn (KH w.params) (.ref Cl) name = some attr) (hn : noGet (KH w.params) attr = true)
    (hl : getL name es = some (some v)) (hv : handedIn v = true) (h : Q v l N) : SP w C (getAttr (.ref x) name expr) l N Q := fun _ hs hN =>
  let ⟨_, F, _⟩ := id hs
  get_own F ok.X (inst_at hN h1 h2) hg hh ha hn hl hv (Po.intro hs hN h)
theorem SP_meth (ok : Ok w C env r) {x dx Cl f : Addr} {es : List DictEntry} {n : Nat} {name : Str} {pl : Sem Bool} {Q : Value × List Value → Ls → Hl → Prop} (h1 : N x = some (instObj Cl dx)) (h2 : N dx = some (dictOf es n))
    (hg : plainGet (KH w.params) Cl name = true) (hf : findIn (KH w.params) (.ref Cl) name = some (some (.ref f))) (ht : isFn (KH w.params) (.ref f) = true)
    (hl : getL name es = some none) (h : Q (.ref f, [.ref x]) l N) : SP w C (getMethod (.ref x) name pl) l N Q := fun s hs hN =>
  let ⟨_, F, _⟩ := id hs
  method_inst F ok.X (inst_at hN h1 h2) hg hf ht hl (Po.intro (tk' := s.toks) hs hN h)

/-! loops -/
def isIt (o : Obj) : Bool := match o.cls with
  | .type t => t == "list_iterator" || t == "tuple_iterator" || t == "range_iterator" || t == "reversed" || t == "zip"
  | _ => false
/-- all but iterators stay -/
def Le (N N' : Hl) : Prop := ∀ a o, N a = some o → isIt o = false → N' a = some o
theorem Le.refl (N : Hl) : Le N N := fun _ _ e _ => e
theorem Le.trans {N N' N'' : Hl} (h : Le N N') (h' : Le N' N'') : Le N N'' := fun a o e i => h' a o (h a o e i) i
theorem Le.new {N : Hl} {q : Addr} {o : Obj} (h : N q = none) : Le N (upd N q o) := fun _ _ e _ => upd_old e h
theorem Le.it {N : Hl} {q : Addr} {o o' : Obj} (h : N q = some o) (hi : isIt o = true) : Le N (upd N q o') := fun a x e i => by
  rw [upd_ne, e]; rintro rfl; rw [h] at e; cases e; rw [hi] at i; cases i
theorem Le.hide {N : Hl} {q : Addr} {o : Obj} (h : N q = some o) (hi : isIt o = true) : Le N (hide N q) := fun a x e i => by
  rw [hide_ne, e]; rintro rfl; rw [h] at e; cases e; rw [hi] at i; cases i
theorem Le.tup {N N' : Hl} (h : Le N N') : TupKeep N N' := fun a _ e => h a _ e rfl

/-- all but what stands at I stays, and I is no matter to what speaks of no iterator -/
def Off (I : Addr) (N N' : Hl) : Prop := Le N N' ∧ ∀ a o, N a = some o → a ≠ I → N' a = some o
theorem Off.new {N : Hl} {q : Addr} {o : Obj} (h : N q = none) : Off q N (upd N q o) := ⟨Le.new h, fun _ _ e _ => upd_old e h⟩
theorem Off.it {N : Hl} {q : Addr} {o o' : Obj} (h : N q = some o) (hi : isIt o = true) : Off q N (upd N q o') := ⟨Le.it h hi, fun _ _ e i => (upd_ne i).trans e⟩
theorem Off.hide {N : Hl} {q : Addr} {o : Obj} (h : N q = some o) (hi : isIt o = true) : Off q N (hide N q) := ⟨Le.hide h hi, fun _ _ e i => (hide_ne i).trans e⟩
/-- an iterator in the ledger -/
structure It (w : World) (C : Cx) (I : Addr) (n : Nat) (item : Nat → Value → Prop) (St : Nat → Obj → Prop) (dep : Hl → Prop) : Prop where
  it : ∀ i o, St i o → isIt o = true
  next : ∀ i l N o (Q : Option Value → Ls → Hl → Prop), i < n → N I = some o → St i o → dep N → (∀ v o', item i v → St (i + 1) o' → Q (some v) l (upd N I o')) → SP w C (pyNext (.ref I)) l N Q
  done : ∀ l N o (Q : Option Value → Ls → Hl → Prop), N I = some o → St n o → dep N → Q none l (hide N I) → SP w C (pyNext (.ref I)) l N Q

def TurnEnd (I : Addr) (o : Obj) (Q : Flow → Ls → Hl → Prop) (J : Ls → Hl → Prop) (f : Flow) (l : Ls) (N : Hl) : Prop := match f with
  | .ret v => Q (.ret v) l N
  | .brk => False
  | _ => N I = some o ∧ J l N
theorem TurnEnd.next {I : Addr} {o : Obj} {Q : Flow → Ls → Hl → Prop} {J : Ls → Hl → Prop} (h1 : N I = some o) (h2 : J l N) : TurnEnd I o Q J .next l N := ⟨h1, h2⟩
theorem TurnEnd.cont {I : Addr} {o : Obj} {Q : Flow → Ls → Hl → Prop} {J : Ls → Hl → Prop} (h1 : N I = some o) (h2 : J l N) : TurnEnd I o Q J .cont l N := ⟨h1, h2⟩
theorem TurnEnd.ret {I : Addr} {o : Obj} {Q : Flow → Ls → Hl → Prop} {J : Ls → Hl → Prop} {v : Value} (h1 : Q (.ret v) l N) : TurnEnd I o Q J (.ret v) l N := h1

def LoopOf (w : World) (C : Cx) (env : Env) (x : Str) (body : List Stmt) (Q : Flow → Ls → Hl → Prop) (it : Value) (l : Ls) (N : Hl) : Prop :=
  ∃ (I : Addr) (n : Nat) (item : Nat → Value → Prop) (St : Nat → Obj → Prop) (dep : Hl → Prop) (o : Obj) (J : Nat → Ls → Hl → Prop),
    it = .ref I ∧ It w C I n item St dep ∧ N I = some o ∧ St 0 o ∧ J 0 l N ∧ (∀ i l N N', Off I N N' → J i l N → J i l N') ∧ (∀ i l N, J i l N → dep N) ∧
    (∀ i v l N o, i < n → item i v → isIt o = true → N I = some o → J i l N → SP w C (execs body env) ((x, v) :: l) N (TurnEnd I o Q (J (i + 1)))) ∧
    ∀ l N, J n l N → Q .next l N

theorem SP_For (ok : Ok w C env r) {x : Str} {px pos : Pos} {iter : Expr} {body : List Stmt} {Q : Flow → Ls → Hl → Prop} (hx : env.kindOf x = some .local)
    (h : SP w C (eval iter env) l N (fun v l' N' => SP w C (pyIter v) l' N' (LoopOf w C env x body Q)))
    (hs : ∀ x, foldedSetIterable iter env x = pure x) : SP w C (exec (.For (.Name x px) iter body [] pos) env) l N Q := by
  intro s hl hN
  refine wpAny_For (h.run hl hN fun v h₁ tk₁ l₁ N₁ x₁ y₁ z₁ => z₁.run x₁ y₁ fun it h₂ tk₂ l₂ N₂ x₂ y₂ z₂ => ?_) hs
  refine e7_9 z₂ ?_
  intro I n item St dep o J hy7_ W ho hst hJ mono hdep turn fin
  subst hy7_
  refine codeAny_forLoop (fun k s' => ∃ i h' tk' l' N' o', k = n - i ∧ i ≤ n ∧ s' = { s with heap := h', toks := tk' } ∧ Loc C.h₀ C.L h' l' ∧ Led C.h₀ C.L h' N' ∧ N' I = some o' ∧ St i o' ∧ J i l' N') ?_ n
    ⟨0, h₂, tk₂, l₂, N₂, o, rfl, Nat.zero_le _, rfl, x₂, y₂, ho, hst, hJ⟩
  intro k s' hz_
  refine e6_8 hz_ ?_
  try clear hz_
  intro i h' tk' l' N' o' hy6_ hi hy8_ hl' hN' ho' hst' hJ'
  subst hy6_
  subst hy8_
  have noErr : ∀ {α : Type} {t : Sem α} {R : α → Shared → Prop} {E : Value → Shared → Prop} {s : Shared}, wpAny (model PG w) C.A t R (fun _ _ => False) s → wpAny (model PG w) C.A t R E s := fun h => wpAny_mono h (fun _ _ x => x) fun _ _ e => e.elim
  by_cases hlt : i < n
  · refine noErr (SP.run (s := { s with heap := h', toks := tk' }) (l := l') (N := N') (Q := fun r l₃ N₃ => ∃ v o'', r = some v ∧ item i v ∧ St (i + 1) o'' ∧ l₃ = l' ∧ N₃ = upd N' I o'') (W.next i l' N' o' _ hlt ho' hst' (hdep _ _ _ hJ') fun v o'' a b => ⟨v, o'', rfl, a, b, rfl, rfl⟩) hl' hN' ?_)
    intro r h₃ tk₃ l₃ N₃ x₃ y₃ hz_
    refine e2_5 hz_ ?_
    try clear hz_
    intro v o'' hy2_ hv hst'' hy5_ hy6_
    subst hy2_
    subst hy5_
    subst hy6_
    have ie : isIt o'' = true := W.it _ _ hst''
    have hJ₃ : J i l₃ (upd N' I o'') := mono _ _ _ _ (Off.it ho' (W.it _ _ hst')) hJ'
    have body₃ := turn i v l₃ (upd N' I o'') o'' hlt hv ie (upd_self ..) hJ₃
    have step : SP w C (assign (.Name x px) env v) l₃ (upd N' I o'') (fun _ l₄ N₄ => SP w C (execs body env) l₄ N₄ (TurnEnd I o'' Q (J (i + 1)))) := fun s₅ hl₅ hN₅ => by
      show wpAny _ _ (do standAt px; bindName env x v) _ _ _
      exact wpAny_bind (wpAny_standAt (wpAny_bindName ((SP_store ok hx body₃) s₅ hl₅ hN₅)))
    refine noErr (step.run x₃ y₃ fun _ h₄ tk₄ l₄ N₄ x₄ y₄ z₄ => noErr (z₄.run x₄ y₄ fun f h₅ tk₅ l₅ N₅ x₅ y₅ z₅ => ?_))
    cases f with
    | next => exact ⟨n - (i + 1), by omega, i + 1, h₅, tk₅, l₅, N₅, o'', rfl, hlt, rfl, x₅, y₅, z₅.1, hst'', z₅.2⟩
    | cont => exact ⟨n - (i + 1), by omega, i + 1, h₅, tk₅, l₅, N₅, o'', rfl, hlt, rfl, x₅, y₅, z₅.1, hst'', z₅.2⟩
    | brk => exact z₅.elim
    | ret v => exact Po.intro x₅ y₅ z₅
  · have e : i = n := by omega
    subst e
    refine noErr (SP.run (s := { s with heap := h', toks := tk' }) (l := l') (N := N') (Q := fun r l₃ N₃ => r = none ∧ l₃ = l' ∧ N₃ = hide N' I) (W.done l' N' o' _ ho' hst' (hdep _ _ _ hJ') ⟨rfl, rfl, rfl⟩) hl' hN' ?_)
    intro r h₃ tk₃ l₃ N₃ x₃ y₃ hz_
    refine e0_3 hz_ ?_
    try clear hz_
    intro hy0_ hy1_ hy2_
    subst hy0_
    subst hy1_
    subst hy2_
    exact wpAny_execs_nil (Po.intro x₃ y₃ (fin _ _ (mono _ _ _ _ (Off.hide ho' (W.it _ _ hst')) hJ')))

def LiO (a : Addr) (i : Nat) (o : Obj) : Prop := o.cls = .type "list_iterator" ∧ o.data = .fields #[.ref a, .int i 0]
def TiO (a : Addr) (i : Nat) (o : Obj) : Prop := o.cls = .type "tuple_iterator" ∧ o.data = .fields #[.ref a, .int i 0]

theorem It.list (ok : Ok w C env r) (I a : Addr) (vs : List Value) : It w C I vs.length (fun i v => vs[i]? = some v) (LiO a) (fun N => ∃ o, N a = some o ∧ LO o vs) where
  it := fun i o h => by unfold isIt; rw [h.1]; decide
  next := fun i l N o Q hi ho hst ⟨oa, ha, la⟩ k s hl hN => by
    refine wpAny_pyNext_list_item (x := vs[i]) ⟨o, (hN _ _ ho).1, hst⟩ (isList_at (hN _ _ ha).1 la) (by simp [hi]) fun h' ⟨o', ho', hst'⟩ hs => ?_
    exact Po.intro (tk' := s.toks) (hl.same hs (hN _ _ ho).2.1 (hN _ _ ho).2.2.1) (hN.upd ho hs ho') (k _ o' (by simp [hi]) hst')
  done := fun l N o Q ho hst ⟨oa, ha, la⟩ k s hl hN => by
    refine wpAny_pyNext_list_end ok.hh ⟨o, (hN _ _ ho).1, hst⟩ (isList_at (hN _ _ ha).1 la) (by simp) fun h' hs => ?_
    exact Po.intro (tk' := s.toks) (hl.ext hs (hN _ _ ho).2.1 (hN _ _ ho).2.2.1) (hN.hide hs) k
theorem It.tuple (ok : Ok w C env r) (I a : Addr) (vs : List Value) : It w C I vs.length (fun i v => vs[i]? = some v) (TiO a) (fun N => N a = some (tupObj vs)) where
  it := fun i o h => by unfold isIt; rw [h.1]; decide
  next := fun i l N o Q hi ho hst ha k s hl hN => by
    refine wpAny_pyNext_tuple_item (x := vs[i]) ⟨o, (hN _ _ ho).1, hst⟩ (isTup_at (hN _ _ ha).1) (by simp [hi]) fun h' ⟨o', ho', hst'⟩ hs => ?_
    exact Po.intro (tk' := s.toks) (hl.same hs (hN _ _ ho).2.1 (hN _ _ ho).2.2.1) (hN.upd ho hs ho') (k _ o' (by simp [hi]) hst')
  done := fun l N o Q ho hst ha k s hl hN => by
    refine wpAny_pyNext_tuple_end ok.hh ⟨o, (hN _ _ ho).1, hst⟩ (isTup_at (hN _ _ ha).1) (by simp) fun h' hs => ?_
    exact Po.intro (tk' := s.toks) (hl.ext hs (hN _ _ ho).2.1 (hN _ _ ho).2.2.1) (hN.hide hs) k

/-- the loop over a list: J i of the locals and the ledger ahead of turn i; it must know the list -/
theorem SP_iterL (ok : Ok w C env r) {x : Str} {body : List Stmt} {a : Addr} {oa : Obj} {vs : List Value} {Q : Flow → Ls → Hl → Prop} (J : Nat → Ls → Hl → Prop) (ha : N a = some oa) (la : LO oa vs) (h0 : J 0 l N)
    (mono : ∀ I, N I = none → ∀ i l N₁ N₂, Off I N₁ N₂ → J i l N₁ → J i l N₂) (hdep : ∀ i l N, J i l N → ∃ o, N a = some o ∧ LO o vs)
    (turn : ∀ I o i v l N, i < vs.length → vs[i]? = some v → isIt o = true → N I = some o → J i l N → SP w C (execs body env) ((x, v) :: l) N (TurnEnd I o Q (J (i + 1))))
    (fin : ∀ l N, J vs.length l N → Q .next l N) : SP w C (pyIter (.ref a)) l N (LoopOf w C env x body Q) := fun s hl hN =>
  wpAny_pyIter_list (isList_at (hN _ _ ha).1 la) (Po.intro (tk' := s.toks) (hl.push _) (hN.push hl _)
    ⟨_, vs.length, _, LiO a, _, _, J, rfl, It.list ok _ a vs, upd_self .., ⟨rfl, rfl⟩, mono _ hN.fresh _ _ _ _ (Off.new hN.fresh) h0, mono _ hN.fresh, hdep, fun i v l N o hi hv ie ho hJ => turn _ o i v l N hi hv ie ho hJ, fin⟩)
theorem SP_iterT (ok : Ok w C env r) {x : Str} {body : List Stmt} {a : Addr} {vs : List Value} {Q : Flow → Ls → Hl → Prop} (J : Nat → Ls → Hl → Prop) (ha : N a = some (tupObj vs)) (h0 : J 0 l N)
    (mono : ∀ I, N I = none → ∀ i l N₁ N₂, Off I N₁ N₂ → J i l N₁ → J i l N₂) (hdep : ∀ i l N, J i l N → N a = some (tupObj vs))
    (turn : ∀ I o i v l N, i < vs.length → vs[i]? = some v → isIt o = true → N I = some o → J i l N → SP w C (execs body env) ((x, v) :: l) N (TurnEnd I o Q (J (i + 1))))
    (fin : ∀ l N, J vs.length l N → Q .next l N) : SP w C (pyIter (.ref a)) l N (LoopOf w C env x body Q) := fun s hl hN =>
  wpAny_pyIter_tuple (isTup_at (hN _ _ ha).1) (Po.intro (tk' := s.toks) (hl.push _) (hN.push hl _)
    ⟨_, vs.length, _, TiO a, _, _, J, rfl, It.tuple ok _ a vs, upd_self .., ⟨rfl, rfl⟩, mono _ hN.fresh _ _ _ _ (Off.new hN.fresh) h0, mono _ hN.fresh, hdep, fun i v l N o hi hv ie ho hJ => turn _ o i v l N hi hv ie ho hJ, fin⟩)
end
end
/-! part Sp6 -/
section

section
variable {w : World} {C : Cx} {α β : Type} {l : Ls} {N N' : Hl} {env : Env} {r : Nat}

/-! dicts keyed by texts or ints: a partial function -/
def DicF {K : Type} [DecidableEq K] (knd : KeyKind PG w K) (N : Hl) (d : Addr) (f : K → Option Value) : Prop :=
  ∃ o es ep, N d = some o ∧ o.ExactDict ∧ o.data = .dict es ep ∧ KeysOf knd es ∧ (∀ k, findBy knd.is es k = f k) ∧ es.size ≤ 4096
theorem DicF.of {K : Type} [DecidableEq K] {knd : KeyKind PG w K} {d : Addr} {f : K → Option Value} {h₀ h : Heap} {L : Addr} (x : DicF knd N d f) (hN : Led h₀ L h N) : h.MapOf knd d f := by
  refine e3_6 x ?_
  try clear x
  intro o es ep e a b c z _
  exact ⟨o, es, ep, (hN _ _ e).1, a, b, c, z⟩
theorem DicF.le {K : Type} [DecidableEq K] {knd : KeyKind PG w K} {d : Addr} {f : K → Option Value} (x : DicF knd N d f) (h : ∀ o, N d = some o → o.cls = .type "dict" → N' d = some o) : DicF knd N' d f := by
  refine e3_3 x ?_
  try clear x
  intro o es ep e a b
  exact ⟨o, es, ep, h o e a.1, a, b⟩
theorem DicF.get {K : Type} [DecidableEq K] {knd : KeyKind PG w K} {d : Addr} {f : K → Option Value} (x : DicF knd N d f) : ∃ o, N d = some o ∧ o.cls = .type "dict" := by
  obtain ⟨o, es, ep, e, a, b⟩ := x; exact ⟨o, e, a.1⟩

abbrev SK (w : World) : KeyKind PG w Str := PySem.strKind PG w

theorem SP_sItem {value slice : Expr} {d : Addr} {x : Str} {t : Tok} {f : Str → Option Value} {v : Value} {Q : Value → Ls → Hl → Prop} (h : DicF (SK w) N d f) (hv : f x = some v) (hq : Q v l N)
    (hs : subscripted slice false (.ref d) (.str x t) = operate [.ref d, .str x t] (getItem (.ref d) (.str x t)) := by with_unfolding_all rfl) : SP w C (subscriptTail value slice (.ref d) (.str x t)) l N Q := fun _ hl hN =>
  tail_any (h.of hN).typeIs slot_dict_getitem.lookup (wpAny_getItem_of (strKind_is PG w x t) (h.of hN) hv (Po.intro hl hN hq)) hs
theorem SP_iIn {d : Addr} {x : Int} {t : Tok} {f : Int → Option Value} {Q : Value → Ls → Hl → Prop} (h : DicF (IK w) N d f) (hq : Q (.bool (f x).isSome) l N) : SP w C (compareOp .In (.int x t) (.ref d)) l N Q := fun _ hl hN =>
  let ⟨_, e, _⟩ := h.get
  wpAny_in_of (intKind_is PG w x t) (lo_of hN e) (h.of hN) (Po.intro hl hN hq)
theorem SP_iNotIn {d : Addr} {x : Int} {t : Tok} {f : Int → Option Value} {Q : Value → Ls → Hl → Prop} (h : DicF (IK w) N d f) (hq : Q (.bool (!(f x).isSome)) l N) : SP w C (compareOp .NotIn (.int x t) (.ref d)) l N Q := fun _ hl hN =>
  let ⟨_, e, _⟩ := h.get
  wpAny_notIn_of (intKind_is PG w x t) (lo_of hN e) (h.of hN) (Po.intro hl hN hq)

/-! attributes by name -/
theorem tkLe (h : Le N N') : TupKeep N N' := h.tup
end

/-! the book -/
structure BkA where
  b : Addr
  r : Addr
  d : Addr
abbrev Rws := List Sh
def ent (rows : Rws) (k : Sh) : Rws := if k ∈ rows then rows else rows ++ [k]
def num (rows : Rws) (k : Sh) : Int := (rows.idxOf k : Int) + 1
/-- keys, their tuples, their numbers -/
def Numd (xs : List (Sh × Addr × Value)) : Prop := ∀ (i : Nat) x, xs[i]? = some x → ∃ t, x.2.2 = .int ((i : Int) + 1) t
def bookF (B : BkA) (x : Str) : Option Value := if x = Str.ofString "rows" then some (.ref B.r) else if x = Str.ofString "numbers" then some (.ref B.d) else none
def BookX (w : World) (N : Hl) (B : BkA) (xs : List (Sh × Addr × Value)) : Prop :=
  B.b ≠ B.d ∧ DicF (SK w) N B.b (bookF B) ∧ (∃ n, N B.r = some (lst (xs.map fun x => .ref x.2.1) n)) ∧ DicH w N B.d xs ∧ Numd xs
def BookIn (w : World) (N : Hl) (B : BkA) (rows : Rws) : Prop := ∃ xs, BookX w N B xs ∧ xs.map (·.1) = rows

theorem atKey_idx {xs : List (Sh × Addr × Value)} {k : Sh} (hn : Numd xs) (hd : (xs.map (·.1)).Nodup) (hk : k ∈ xs.map (·.1)) : ∃ a t, atKey xs k = some (a, .int (num (xs.map (·.1)) k) t) := by
  have hi : (xs.map (·.1)).idxOf k < (xs.map (·.1)).length := List.idxOf_lt_length_iff.mpr hk
  have h1 : (xs.map (·.1))[(xs.map (·.1)).idxOf k]? = some k := by rw [List.getElem?_eq_getElem hi, List.getElem_idxOf hi]
  unfold num
  generalize (xs.map (·.1)).idxOf k = i at h1
  rw [List.getElem?_map] at h1
  refine e1_2 (Option.map_eq_some_iff.mp h1) ?_
  intro hy0_ hx e
  obtain ⟨k', a, v⟩ := hy0_
  refine e1_1 (hn _ _ hx) ?_
  intro t ht
  simp only at e ht
  subst e ht
  exact ⟨a, t, atKey_of_get hd hx⟩
theorem atKey_out {xs : List (Sh × Addr × Value)} {k : Sh} (hk : k ∉ xs.map (·.1)) : atKey xs k = none := by
  unfold atKey
  have : (xs.find? fun x => decide (x.1 = k)) = none := by
    rw [List.find?_eq_none]
    intro x hx e
    exact hk (List.mem_map.mpr ⟨x, hx, of_decide_eq_true e⟩)
  rw [this]; rfl
theorem Numd.snoc {xs : List (Sh × Addr × Value)} (h : Numd xs) {k : Sh} {a : Addr} {t : Tok} : Numd (xs ++ [(k, a, .int ((xs.length : Int) + 1) t)]) := by
  intro i x hx
  by_cases hi : i < xs.length
  · rw [List.getElem?_append_left hi] at hx; exact h i x hx
  · have e : i = xs.length := by
      have := (List.getElem?_eq_some_iff.mp hx).1
      simp at this; omega
    subst e
    simp at hx; subst hx; exact ⟨t, rfl⟩

/-- all but what stands at the addresses ds stays -/
def Keep (ds : List Addr) (N N' : Hl) : Prop := ∀ a o, N a = some o → a ∉ ds → N' a = some o
theorem Keep.refl (ds : List Addr) (N : Hl) : Keep ds N N := fun _ _ e _ => e
theorem Keep.trans {ds : List Addr} {N N' N'' : Hl} (h : Keep ds N N') (h' : Keep ds N' N'') : Keep ds N N'' := fun a o e i => h' a o (h a o e i) i
theorem Keep.sub {ds ds' : List Addr} {N N' : Hl} (h : Keep ds N N') (hs : ∀ a ∈ ds, a ∈ ds') : Keep ds' N N' := fun a o e i => h a o e fun q => i (hs a q)
theorem Keep.new {ds : List Addr} {N : Hl} {q : Addr} {o : Obj} (h : N q = none) : Keep ds N (upd N q o) := fun _ _ e _ => upd_old e h
theorem Keep.chg {ds : List Addr} {N : Hl} {q : Addr} {o : Obj} (h : q ∈ ds) : Keep ds N (upd N q o) := fun a x e i => by
  rw [upd_ne, e]; rintro rfl; exact i h
theorem Keep.tup {ds : List Addr} {N N' : Hl} (h : Keep ds N N') (hd : ∀ a ∈ ds, ∃ o, N a = some o ∧ o.cls ≠ .type "tuple") : TupKeep N N' := fun a vs e => h a _ e fun hm => by
  refine e1_2 (hd a hm) ?_
  intro o ho hc
  rw [ho] at e; cases e; exact hc rfl

theorem BookX.keep {w : World} {N N' : Hl} {B : BkA} {xs : List (Sh × Addr × Value)} (x : BookX w N B xs) (tk : TupKeep N N') (hb : ∀ o, N B.b = some o → N' B.b = some o) (hr : N' B.r = N B.r) (hd : N' B.d = N B.d) : BookX w N' B xs := by
  refine e0_5 x ?_
  try clear x
  intro a0 a hy2_ c e
  obtain ⟨n, b⟩ := hy2_
  exact ⟨a0, a.le fun o h _ => hb o h, ⟨n, hr.trans b⟩, c.keep tk hd, e⟩
theorem BookIn.keep {w : World} {N N' : Hl} {B : BkA} {rows : Rws} (x : BookIn w N B rows) (h : ∀ a o, N a = some o → o.cls = .type "tuple" ∨ a = B.b ∨ a = B.r ∨ a = B.d → N' a = some o) : BookIn w N' B rows := by
  refine e1_2 x ?_
  try clear x
  intro xs hx e
  have hx' := hx
  refine e0_5 hx' ?_
  try clear hx'
  intro _ _ hy2_ c _
  obtain ⟨n, b⟩ := hy2_
  refine e1_2 c.get ?_
  intro o hd _
  exact ⟨xs, hx.keep (fun a vs e => h a _ e (.inl rfl)) (fun o h' => h _ o h' (.inr (.inl rfl))) ((h _ _ b (.inr (.inr (.inl rfl)))).trans b.symm) ((h _ _ hd (.inr (.inr (.inr rfl)))).trans hd.symm), e⟩
theorem lst_nt (vs : List Value) (n : Nat) : (lst vs n).cls ≠ .type "tuple" := by show Value.type "list" ≠ .type "tuple"; decide
theorem lst_nd {vs : List Value} {n : Nat} (h : (lst vs n).cls = .type "dict") : False := by have h' : Value.type "list" = .type "dict" := h; revert h'; decide
theorem dic_nt {o : Obj} (h : o.cls = .type "dict") : o.cls ≠ .type "tuple" := by rw [h]; decide
theorem bookF_rows (B : BkA) : bookF B (Str.ofString "rows") = some (.ref B.r) := rfl
theorem bookF_nums (B : BkA) : bookF B (Str.ofString "numbers") = some (.ref B.d) := rfl
theorem sz {n : Nat} (h : n ≤ 4096) : n ≤ sizeLine := by rw [sizeLine_eq]; omega
end
/-! part Sp7 -/
section
/-- the bank: its object, its dict, the entries, its lists -/
structure BnkA where
  x : Addr
  dx : Addr
  es : List DictEntry
  n : Nat
  ops : Addr
  args : Addr
  sorts : Addr
  datas : Addr
  nums : Addr
  fnames : Addr
  fargs : Addr
  fres : Addr
  tt : Tok
  tf : Tok
structure EsOk (A : BnkA) : Prop where
  a_term_ops : getL (Str.ofString "term_ops") A.es = some (some (.ref A.ops))
  a_term_args : getL (Str.ofString "term_args") A.es = some (some (.ref A.args))
  a_term_sorts : getL (Str.ofString "term_sorts") A.es = some (some (.ref A.sorts))
  a_term_datas : getL (Str.ofString "term_datas") A.es = some (some (.ref A.datas))
  a_numbers : getL (Str.ofString "numbers") A.es = some (some (.ref A.nums))
  a_fun_names : getL (Str.ofString "fun_names") A.es = some (some (.ref A.fnames))
  a_fun_args : getL (Str.ofString "fun_args") A.es = some (some (.ref A.fargs))
  a_fun_results : getL (Str.ofString "fun_results") A.es = some (some (.ref A.fres))
  a_true_number : getL (Str.ofString "true_number") A.es = some (some (.int 1 A.tt))
  a_false_number : getL (Str.ofString "false_number") A.es = some (some (.int 2 A.tf))
  m_declare_fun : getL (Str.ofString "declare_fun") A.es = some none
  m_fresh_const : getL (Str.ofString "fresh_const") A.es = some none
  m_op : getL (Str.ofString "op") A.es = some none
  m_args : getL (Str.ofString "args") A.es = some none
  m_sort : getL (Str.ofString "sort") A.es = some none
  m_size : getL (Str.ofString "size") A.es = some none
  m_make : getL (Str.ofString "make") A.es = some none
  m_find_made : getL (Str.ofString "find_made") A.es = some none
  m_want : getL (Str.ofString "want") A.es = some none
  m_want_all : getL (Str.ofString "want_all") A.es = some none
  m_parts : getL (Str.ofString "parts") A.es = some none
  m_parts_of_all : getL (Str.ofString "parts_of_all") A.es = some none
  m_not_of : getL (Str.ofString "not_of") A.es = some none
  m_and_of : getL (Str.ofString "and_of") A.es = some none
  m_or_of : getL (Str.ofString "or_of") A.es = some none
  m_xor_of : getL (Str.ofString "xor_of") A.es = some none
  m_implies_of : getL (Str.ofString "implies_of") A.es = some none
  m_eq : getL (Str.ofString "eq") A.es = some none
  m_distinct : getL (Str.ofString "distinct") A.es = some none
  m_ite : getL (Str.ofString "ite") A.es = some none
  m_app : getL (Str.ofString "app") A.es = some none
  m_folded : getL (Str.ofString "folded") A.es = some none
  nd : [A.x, A.dx, A.ops, A.args, A.sorts, A.datas, A.nums, A.fnames, A.fargs, A.fres].Nodup
def BankO (N : Hl) (A : BnkA) : Prop := N A.x = some (instObj 387 A.dx) ∧ N A.dx = some (dictOf A.es A.n) ∧ EsOk A
theorem pg0 {w : World} : plainGet (KH w.params) 387 (Str.ofString "") = true := by k_is
theorem pgA {w : World} (name : Str) : plainGet (KH w.params) 387 name = true := pg0
theorem hdA {w : World} : hasDictIn (KH w.params) 387 = true := by k_is
theorem ng0 {w : World} : noGet (KH w.params) none = true := rfl
section
variable {w : World} {C : Cx} {l : Ls} {N : Hl} {env : Env} {r : Nat} {A : BnkA}
theorem b_term_ops (ok : Ok w C env r) (hO : BankO N A) {expr : Bool} {Q : Value → Ls → Hl → Prop} (h : Q (.ref A.ops) l N) : SP w C (getAttr (.ref A.x) (Str.ofString "term_ops") expr) l N Q := SP_attr (attr := none) ok hO.1 hO.2.1 (pgA _) hdA (by k_is) ng0 hO.2.2.a_term_ops rfl h
theorem b_term_args (ok : Ok w C env r) (hO : BankO N A) {expr : Bool} {Q : Value → Ls → Hl → Prop} (h : Q (.ref A.args) l N) : SP w C (getAttr (.ref A.x) (Str.ofString "term_args") expr) l N Q := SP_attr (attr := none) ok hO.1 hO.2.1 (pgA _) hdA (by k_is) ng0 hO.2.2.a_term_args rfl h
theorem b_term_sorts (ok : Ok w C env r) (hO : BankO N A) {expr : Bool} {Q : Value → Ls → Hl → Prop} (h : Q (.ref A.sorts) l N) : SP w C (getAttr (.ref A.x) (Str.ofString "term_sorts") expr) l N Q := SP_attr (attr := none) ok hO.1 hO.2.1 (pgA _) hdA (by k_is) ng0 hO.2.2.a_term_sorts rfl h
theorem b_term_datas (ok : Ok w C env r) (hO : BankO N A) {expr : Bool} {Q : Value → Ls → Hl → Prop} (h : Q (.ref A.datas) l N) : SP w C (getAttr (.ref A.x) (Str.ofString "term_datas") expr) l N Q := SP_attr (attr := none) ok hO.1 hO.2.1 (pgA _) hdA (by k_is) ng0 hO.2.2.a_term_datas rfl h
theorem b_numbers (ok : Ok w C env r) (hO : BankO N A) {expr : Bool} {Q : Value → Ls → Hl → Prop} (h : Q (.ref A.nums) l N) : SP w C (getAttr (.ref A.x) (Str.ofString "numbers") expr) l N Q := SP_attr (attr := none) ok hO.1 hO.2.1 (pgA _) hdA (by k_is) ng0 hO.2.2.a_numbers rfl h
theorem b_fun_names (ok : Ok w C env r) (hO : BankO N A) {expr : Bool} {Q : Value → Ls → Hl → Prop} (h : Q (.ref A.fnames) l N) : SP w C (getAttr (.ref A.x) (Str.ofString "fun_names") expr) l N Q := SP_attr (attr := none) ok hO.1 hO.2.1 (pgA _) hdA (by k_is) ng0 hO.2.2.a_fun_names rfl h
theorem b_fun_args (ok : Ok w C env r) (hO : BankO N A) {expr : Bool} {Q : Value → Ls → Hl → Prop} (h : Q (.ref A.fargs) l N) : SP w C (getAttr (.ref A.x) (Str.ofString "fun_args") expr) l N Q := SP_attr (attr := none) ok hO.1 hO.2.1 (pgA _) hdA (by k_is) ng0 hO.2.2.a_fun_args rfl h
theorem b_fun_results (ok : Ok w C env r) (hO : BankO N A) {expr : Bool} {Q : Value → Ls → Hl → Prop} (h : Q (.ref A.fres) l N) : SP w C (getAttr (.ref A.x) (Str.ofString "fun_results") expr) l N Q := SP_attr (attr := none) ok hO.1 hO.2.1 (pgA _) hdA (by k_is) ng0 hO.2.2.a_fun_results rfl h
theorem b_true_number (ok : Ok w C env r) (hO : BankO N A) {expr : Bool} {Q : Value → Ls → Hl → Prop} (h : Q (.int 1 A.tt) l N) : SP w C (getAttr (.ref A.x) (Str.ofString "true_number") expr) l N Q := SP_attr (attr := none) ok hO.1 hO.2.1 (pgA _) hdA (by k_is) ng0 hO.2.2.a_true_number rfl h
theorem b_false_number (ok : Ok w C env r) (hO : BankO N A) {expr : Bool} {Q : Value → Ls → Hl → Prop} (h : Q (.int 2 A.tf) l N) : SP w C (getAttr (.ref A.x) (Str.ofString "false_number") expr) l N Q := SP_attr (attr := none) ok hO.1 hO.2.1 (pgA _) hdA (by k_is) ng0 hO.2.2.a_false_number rfl h
theorem m_declare_fun (ok : Ok w C env r) (hO : BankO N A) {pl : Sem Bool} {Q : Value × List Value → Ls → Hl → Prop} (h : Q (.ref 125, [.ref A.x]) l N) : SP w C (getMethod (.ref A.x) (Str.ofString "declare_fun") pl) l N Q := SP_meth ok hO.1 hO.2.1 (pgA _) (by k_is) (by k_is) hO.2.2.m_declare_fun h
theorem m_fresh_const (ok : Ok w C env r) (hO : BankO N A) {pl : Sem Bool} {Q : Value × List Value → Ls → Hl → Prop} (h : Q (.ref 139, [.ref A.x]) l N) : SP w C (getMethod (.ref A.x) (Str.ofString "fresh_const") pl) l N Q := SP_meth ok hO.1 hO.2.1 (pgA _) (by k_is) (by k_is) hO.2.2.m_fresh_const h
theorem m_op (ok : Ok w C env r) (hO : BankO N A) {pl : Sem Bool} {Q : Value × List Value → Ls → Hl → Prop} (h : Q (.ref 174, [.ref A.x]) l N) : SP w C (getMethod (.ref A.x) (Str.ofString "op") pl) l N Q := SP_meth ok hO.1 hO.2.1 (pgA _) (by k_is) (by k_is) hO.2.2.m_op h
theorem m_args (ok : Ok w C env r) (hO : BankO N A) {pl : Sem Bool} {Q : Value × List Value → Ls → Hl → Prop} (h : Q (.ref 181, [.ref A.x]) l N) : SP w C (getMethod (.ref A.x) (Str.ofString "args") pl) l N Q := SP_meth ok hO.1 hO.2.1 (pgA _) (by k_is) (by k_is) hO.2.2.m_args h
theorem m_sort (ok : Ok w C env r) (hO : BankO N A) {pl : Sem Bool} {Q : Value × List Value → Ls → Hl → Prop} (h : Q (.ref 188, [.ref A.x]) l N) : SP w C (getMethod (.ref A.x) (Str.ofString "sort") pl) l N Q := SP_meth ok hO.1 hO.2.1 (pgA _) (by k_is) (by k_is) hO.2.2.m_sort h
theorem m_size (ok : Ok w C env r) (hO : BankO N A) {pl : Sem Bool} {Q : Value × List Value → Ls → Hl → Prop} (h : Q (.ref 209, [.ref A.x]) l N) : SP w C (getMethod (.ref A.x) (Str.ofString "size") pl) l N Q := SP_meth ok hO.1 hO.2.1 (pgA _) (by k_is) (by k_is) hO.2.2.m_size h
theorem m_make (ok : Ok w C env r) (hO : BankO N A) {pl : Sem Bool} {Q : Value × List Value → Ls → Hl → Prop} (h : Q (.ref 216, [.ref A.x]) l N) : SP w C (getMethod (.ref A.x) (Str.ofString "make") pl) l N Q := SP_meth ok hO.1 hO.2.1 (pgA _) (by k_is) (by k_is) hO.2.2.m_make h
theorem m_find_made (ok : Ok w C env r) (hO : BankO N A) {pl : Sem Bool} {Q : Value × List Value → Ls → Hl → Prop} (h : Q (.ref 223, [.ref A.x]) l N) : SP w C (getMethod (.ref A.x) (Str.ofString "find_made") pl) l N Q := SP_meth ok hO.1 hO.2.1 (pgA _) (by k_is) (by k_is) hO.2.2.m_find_made h
theorem m_want (ok : Ok w C env r) (hO : BankO N A) {pl : Sem Bool} {Q : Value × List Value → Ls → Hl → Prop} (h : Q (.ref 237, [.ref A.x]) l N) : SP w C (getMethod (.ref A.x) (Str.ofString "want") pl) l N Q := SP_meth ok hO.1 hO.2.1 (pgA _) (by k_is) (by k_is) hO.2.2.m_want h
theorem m_want_all (ok : Ok w C env r) (hO : BankO N A) {pl : Sem Bool} {Q : Value × List Value → Ls → Hl → Prop} (h : Q (.ref 244, [.ref A.x]) l N) : SP w C (getMethod (.ref A.x) (Str.ofString "want_all") pl) l N Q := SP_meth ok hO.1 hO.2.1 (pgA _) (by k_is) (by k_is) hO.2.2.m_want_all h
theorem m_parts (ok : Ok w C env r) (hO : BankO N A) {pl : Sem Bool} {Q : Value × List Value → Ls → Hl → Prop} (h : Q (.ref 272, [.ref A.x]) l N) : SP w C (getMethod (.ref A.x) (Str.ofString "parts") pl) l N Q := SP_meth ok hO.1 hO.2.1 (pgA _) (by k_is) (by k_is) hO.2.2.m_parts h
theorem m_parts_of_all (ok : Ok w C env r) (hO : BankO N A) {pl : Sem Bool} {Q : Value × List Value → Ls → Hl → Prop} (h : Q (.ref 279, [.ref A.x]) l N) : SP w C (getMethod (.ref A.x) (Str.ofString "parts_of_all") pl) l N Q := SP_meth ok hO.1 hO.2.1 (pgA _) (by k_is) (by k_is) hO.2.2.m_parts_of_all h
theorem m_not_of (ok : Ok w C env r) (hO : BankO N A) {pl : Sem Bool} {Q : Value × List Value → Ls → Hl → Prop} (h : Q (.ref 300, [.ref A.x]) l N) : SP w C (getMethod (.ref A.x) (Str.ofString "not_of") pl) l N Q := SP_meth ok hO.1 hO.2.1 (pgA _) (by k_is) (by k_is) hO.2.2.m_not_of h
theorem m_and_of (ok : Ok w C env r) (hO : BankO N A) {pl : Sem Bool} {Q : Value × List Value → Ls → Hl → Prop} (h : Q (.ref 307, [.ref A.x]) l N) : SP w C (getMethod (.ref A.x) (Str.ofString "and_of") pl) l N Q := SP_meth ok hO.1 hO.2.1 (pgA _) (by k_is) (by k_is) hO.2.2.m_and_of h
theorem m_or_of (ok : Ok w C env r) (hO : BankO N A) {pl : Sem Bool} {Q : Value × List Value → Ls → Hl → Prop} (h : Q (.ref 314, [.ref A.x]) l N) : SP w C (getMethod (.ref A.x) (Str.ofString "or_of") pl) l N Q := SP_meth ok hO.1 hO.2.1 (pgA _) (by k_is) (by k_is) hO.2.2.m_or_of h
theorem m_xor_of (ok : Ok w C env r) (hO : BankO N A) {pl : Sem Bool} {Q : Value × List Value → Ls → Hl → Prop} (h : Q (.ref 321, [.ref A.x]) l N) : SP w C (getMethod (.ref A.x) (Str.ofString "xor_of") pl) l N Q := SP_meth ok hO.1 hO.2.1 (pgA _) (by k_is) (by k_is) hO.2.2.m_xor_of h
theorem m_implies_of (ok : Ok w C env r) (hO : BankO N A) {pl : Sem Bool} {Q : Value × List Value → Ls → Hl → Prop} (h : Q (.ref 328, [.ref A.x]) l N) : SP w C (getMethod (.ref A.x) (Str.ofString "implies_of") pl) l N Q := SP_meth ok hO.1 hO.2.1 (pgA _) (by k_is) (by k_is) hO.2.2.m_implies_of h
theorem m_eq (ok : Ok w C env r) (hO : BankO N A) {pl : Sem Bool} {Q : Value × List Value → Ls → Hl → Prop} (h : Q (.ref 342, [.ref A.x]) l N) : SP w C (getMethod (.ref A.x) (Str.ofString "eq") pl) l N Q := SP_meth ok hO.1 hO.2.1 (pgA _) (by k_is) (by k_is) hO.2.2.m_eq h
theorem m_distinct (ok : Ok w C env r) (hO : BankO N A) {pl : Sem Bool} {Q : Value × List Value → Ls → Hl → Prop} (h : Q (.ref 349, [.ref A.x]) l N) : SP w C (getMethod (.ref A.x) (Str.ofString "distinct") pl) l N Q := SP_meth ok hO.1 hO.2.1 (pgA _) (by k_is) (by k_is) hO.2.2.m_distinct h
theorem m_ite (ok : Ok w C env r) (hO : BankO N A) {pl : Sem Bool} {Q : Value × List Value → Ls → Hl → Prop} (h : Q (.ref 356, [.ref A.x]) l N) : SP w C (getMethod (.ref A.x) (Str.ofString "ite") pl) l N Q := SP_meth ok hO.1 hO.2.1 (pgA _) (by k_is) (by k_is) hO.2.2.m_ite h
theorem m_app (ok : Ok w C env r) (hO : BankO N A) {pl : Sem Bool} {Q : Value × List Value → Ls → Hl → Prop} (h : Q (.ref 363, [.ref A.x]) l N) : SP w C (getMethod (.ref A.x) (Str.ofString "app") pl) l N Q := SP_meth ok hO.1 hO.2.1 (pgA _) (by k_is) (by k_is) hO.2.2.m_app h
theorem m_folded (ok : Ok w C env r) (hO : BankO N A) {pl : Sem Bool} {Q : Value × List Value → Ls → Hl → Prop} (h : Q (.ref 370, [.ref A.x]) l N) : SP w C (getMethod (.ref A.x) (Str.ofString "folded") pl) l N Q := SP_meth ok hO.1 hO.2.1 (pgA _) (by k_is) (by k_is) hO.2.2.m_folded h
end
/-- a list of references to tuples of ints -/
def ArgsAre (N : Hl) (vs : List Value) (as : List (List Int)) : Prop := vs.length = as.length ∧ ∀ (i : Nat) ns, as[i]? = some ns → ∃ a, vs[i]? = some (.ref a) ∧ TupI N a ns
theorem ArgsAre.keep {N N' : Hl} {vs : List Value} {as : List (List Int)} (h : ArgsAre N vs as) (tk : TupKeep N N') : ArgsAre N' vs as :=
  ⟨h.1, fun i ns e => let ⟨a, x, y⟩ := h.2 i ns e; ⟨a, x, y.keep tk⟩⟩
theorem ArgsAre.snoc {N : Hl} {vs : List Value} {as : List (List Int)} (h : ArgsAre N vs as) {a : Addr} {ns : List Int} (x : TupI N a ns) : ArgsAre N (vs ++ [.ref a]) (as ++ [ns]) := by
  refine ⟨by simp [h.1], fun i ms e => ?_⟩
  by_cases hi : i < as.length
  · rw [List.getElem?_append_left hi] at e
    refine e1_2 (h.2 i ms e) ?_
    intro b y z
    exact ⟨b, by rw [List.getElem?_append_left (by rw [h.1]; exact hi)]; exact y, z⟩
  · have hi' : i = as.length := by
      have := (List.getElem?_eq_some_iff.mp e).1
      simp at this; omega
    subst hi'
    simp at e; subst e
    exact ⟨a, by rw [← h.1]; simp, x⟩
theorem StrsAre.snoc {vs : List Value} {ys : List Str} (h : StrsAre vs ys) (y : Str) (t : Tok) : StrsAre (vs ++ [.str y t]) (ys ++ [y]) := by
  induction h with
  | nil => exact .cons y t .nil
  | cons z u _ ih => exact .cons z u ih
theorem ints_snoc {vs : List Value} {ns : List Int} (h : IntsAre vs ns) (n : Int) (t : Tok) : IntsAre (vs ++ [.int n t]) (ns ++ [n]) := h.append (.cons n t .nil)
theorem strs_get {vs : List Value} {ys : List Str} (h : StrsAre vs ys) : ∀ (i : Nat) y, ys[i]? = some y → ∃ t, vs[i]? = some (.str y t) := by
  induction h with
  | nil => intro i y e; simp at e
  | cons z u _ ih =>
    intro i y e
    cases i with
    | zero => simp at e; subst e; exact ⟨u, rfl⟩
    | succ i => exact ih i y (by first | exact nm1 e | exact nm1 (Ne.symm e) | simpa using e)
theorem strs_len {vs : List Value} {ys : List Str} (h : StrsAre vs ys) : vs.length = ys.length := by
  induction h with
  | nil => rfl
  | cons _ _ _ ih => simp [ih]

structure BankL (w : World) (N : Hl) (A : BnkA) (rows : Rws) (vo : List Value) (no : Nat) (va : List Value) (na : Nat) (vs : List Value) (ns : Nat) (vd : List Value) (nd : Nat) (xs : List (Sh × Addr × Value)) : Prop where
  ops : N A.ops = some (lst vo no)
  opsI : StrsAre vo (Str.ofString "" :: rows.map (·.op))
  args : N A.args = some (lst va na)
  argsI : ArgsAre N va ([] :: rows.map (·.args))
  sorts : N A.sorts = some (lst vs ns)
  sortsI : IntsAre vs (0 :: rows.map (·.kind))
  datas : N A.datas = some (lst vd nd)
  datasI : IntsAre vd (0 :: rows.map (·.data))
  nums : DicH w N A.nums xs
  numd : Numd xs
  keys : xs.map (·.1) = rows
def BankIn (w : World) (N : Hl) (A : BnkA) (rows : Rws) : Prop := BankO N A ∧ ∃ vo no va na vs ns vd nd xs, BankL w N A rows vo no va na vs ns vd nd xs
/-- the bank's own addresses that making changes -/
def BnkA.mut (A : BnkA) : List Addr := [A.ops, A.args, A.sorts, A.datas, A.nums]
def BnkA.all (A : BnkA) : List Addr := [A.x, A.dx, A.ops, A.args, A.sorts, A.datas, A.nums]
theorem BankO.le {N N' : Hl} {A : BnkA} (h : BankO N A) (k1 : ∀ o, N A.x = some o → N' A.x = some o) (k2 : ∀ o, N A.dx = some o → N' A.dx = some o) : BankO N' A := ⟨k1 _ h.1, k2 _ h.2.1, h.2.2⟩
theorem BankL.keep {w : World} {N N' : Hl} {A : BnkA} {rows : Rws} {vo : List Value} {no : Nat} {va : List Value} {na : Nat} {vs : List Value} {ns : Nat} {vd : List Value} {nd : Nat} {xs : List (Sh × Addr × Value)}
    (h : BankL w N A rows vo no va na vs ns vd nd xs) (tk : TupKeep N N') (k : ∀ a ∈ A.mut, ∀ o, N a = some o → N' a = some o) : BankL w N' A rows vo no va na vs ns vd nd xs where
  ops := k _ (by simp [BnkA.mut]) _ h.ops
  opsI := h.opsI
  args := k _ (by simp [BnkA.mut]) _ h.args
  argsI := h.argsI.keep tk
  sorts := k _ (by simp [BnkA.mut]) _ h.sorts
  sortsI := h.sortsI
  datas := k _ (by simp [BnkA.mut]) _ h.datas
  datasI := h.datasI
  nums := by
    refine e1_2 h.nums.get ?_
    intro o e _
    exact h.nums.keep tk ((k _ (by simp [BnkA.mut]) _ e).trans e.symm)
  numd := h.numd
  keys := h.keys
theorem BankIn.keep {w : World} {N N' : Hl} {A : BnkA} {rows : Rws} (h : BankIn w N A rows) (tk : TupKeep N N') (k : ∀ a ∈ A.all, ∀ o, N a = some o → N' a = some o) : BankIn w N' A rows := by
  refine e0_2 h ?_
  try clear h
  intro hO hz0_
  refine e9_1 hz0_ ?_
  try clear hz0_
  intro vo no va na vs ns vd nd xs hL
  exact ⟨hO.le (k _ (.head _)) (k _ (.tail _ (.head _))), vo, no, va, na, vs, ns, vd, nd, xs, hL.keep tk fun a ha => k a (.tail _ (.tail _ ha))⟩
end
/-! part Sp8 -/
section
section
variable {w : World} {C : Cx} {α β : Type} {l : Ls} {N N' : Hl} {env : Env} {r : Nat}

def nameP : Expr → Option Str
  | .Name x _ => some x
  | _ => none
def namesOf : List Expr → Option (List Str)
  | [] => some []
  | e :: rest => match nameP e with
    | some x => (namesOf rest).map (x :: ·)
    | none => none
theorem nameP_of {e : Expr} {x : Str} (h : nameP e = some x) : ∃ p, e = .Name x p := by
  cases e <;> first | (cases h; exact ⟨_, rfl⟩) | cases h
def bindAll : List Str → List Value → Ls → Ls
  | x :: xs, v :: vs, l => bindAll xs vs ((x, v) :: l)
  | _, _, l => l

theorem Loc.fresh {h₀ h h' : Heap} {L : Addr} (x : Loc h₀ L h l) (hs : Heap.ExtBut h.objs.size h h') : Loc h₀ L h' l := by
  refine e1_3 x ?_
  try clear x
  intro m F hm z
  refine e3_2 (id F.ns) ?_
  intro oL _ _ hL _
  have hlt := Heap.lt_size hL
  refine ⟨m, ⟨F.ns.at' fun o e => hs L o (Nat.ne_of_lt hlt) e, fun b ob e => hs b ob (Nat.ne_of_lt (Heap.lt_size (F.keep _ _ e))) (F.keep b ob e), F.above⟩, hm, z⟩
theorem Led.fresh' {h₀ h h' : Heap} {L : Addr} (x : Led h₀ L h N) (hs : Heap.ExtBut h.objs.size h h') : Led h₀ L h' N := fun a o e =>
  ⟨hs a o (Nat.ne_of_lt (Heap.lt_size (x _ _ e).1)) (x _ _ e).1, (x _ _ e).2⟩

theorem SP_names (ok : Ok w C env r) : ∀ {elts : List Expr} {xs : List Str} {vs : List Value} {l : Ls} {N : Hl} {Q : Unit → Ls → Hl → Prop}, namesOf elts = some xs → (∀ x ∈ xs, env.kindOf x = some .local) → vs.length = xs.length → Q () (bindAll xs vs l) N →
    (assignEach elts env).length = xs.length ∧ (assignEach elts env).findIdx? (·.1) = none ∧ SP w C (assignInOrder ((assignEach elts env).map (·.2)) vs) l N Q
  | [], xs, vs, l, N, Q, h1, h2, h3, h4 => by
    simp only [namesOf, Option.some.injEq] at h1; subst h1
    refine ⟨rfl, rfl, fun s hl hN => ?_⟩
    exact assignInOrder_nil (Po.intro (tk' := s.toks) hl hN (by simpa [bindAll] using h4))
  | e₀ :: rest, xs, vs, l, N, Q, h1, h2, h3, h4 => by
    unfold namesOf at h1
    cases hn : nameP e₀ with
    | none => rw [hn] at h1; cases h1
    | some x =>
    rw [hn] at h1
    refine e1_1 (nameP_of hn) ?_
    intro p hy1_
    subst hy1_
    refine e1_2 (Option.map_eq_some_iff.mp h1) ?_
    intro ys hy hy2_
    subst hy2_
    cases vs with
    | nil => simp at h3
    | cons v vs =>
      have ih := SP_names ok (l := (x, v) :: l) (N := N) (Q := Q) hy (fun y hy' => h2 y (.tail _ hy')) (by first | exact nm1 h3 | exact nm1 (Ne.symm h3) | simpa using h3) h4
      have e : assignEach (.Name x p :: rest) env = (false, assign (.Name x p) env) :: assignEach rest env := rfl
      refine ⟨by rw [e, List.length_cons, ih.1, List.length_cons], by rw [e, List.findIdx?_cons, ih.2.1]; rfl, ?_⟩
      rw [e, List.map_cons]
      intro s hl hN
      refine assignInOrder_cons ?_
      show wpAny _ _ (do standAt p; bindName env x v) _ _ _
      refine wpAny_bind (wpAny_standAt (wpAny_bindName ?_))
      exact (SP_store ok (h2 x (.head _)) (Q := fun _ l' N' => SP w C (assignInOrder ((assignEach rest env).map (·.2)) vs) l' N' Q) ih.2.2).run hl hN fun _ _ _ _ _ a b c => c.go a b

/-- a tuple taken apart into names -/
theorem SP_unpackT (ok : Ok w C env r) {elts : List Expr} {k : Nat} {pos : Pos} {xs : List Str} {a : Addr} {vs : List Value} {Q : Unit → Ls → Hl → Prop} (e : N a = some (tupObj vs)) (h1 : namesOf elts = some xs) (h2 : (xs.all fun x => env.kindOf x == some .local) = true)
    (h3 : vs.length = xs.length) (h4 : Q () (bindAll xs vs l) N) : SP w C (assign (.Tuple elts k pos) env (.ref a)) l N Q := by
  obtain ⟨a1, a2, a3⟩ := SP_names (N := N) ok h1 (fun x hx => by have := List.all_eq_true.mp h2 x hx; simpa using this) h3 h4
  intro s hl hN
  rw [PyProof.Rows.assign_Tuple]
  refine wpAny_bind (wpAny_standAt ?_)
  unfold PySem.unpack
  refine wpAny_bind (wpAny_holding ?_)
  rw [a1, a2, ← h3, ← List.size_toArray]
  refine unpackItems_tuple ok.hh (isTup_at (hN _ _ e).1) fun h' hs => ?_
  rw [List.toList_toArray]
  exact a3.go (s := s) (tk' := s.toks) (hl.fresh hs) (hN.fresh' hs)

/-! loops over sequences, the locals l₀ kept -/
def Has (l₀ l : Ls) : Prop := ∀ y u, l₀.lookup y = some u → l.lookup y = some u
theorem Has.refl (l : Ls) : Has l l := fun _ _ e => e
theorem Has.cons {l₀ l : Ls} {x : Str} {v : Value} (h : Has l₀ l) (hx : l₀.lookup x = none) : Has l₀ ((x, v) :: l) := fun y u e => by
  rw [List.lookup_cons]
  by_cases q : y = x
  · subst q; rw [hx] at e; cases e
  · rw [beq_false_of_ne q]; exact h y u e
theorem Has.nil {l : Ls} : Has [] l := fun _ _ e => nomatch e
theorem Has.more {l₀ l : Ls} {x : Str} {v : Value} (e : l.lookup x = some v) (h : Has l₀ l) : Has ((x, v) :: l₀) l := fun y u q => by
  rw [List.lookup_cons] at q
  by_cases hy : y = x
  · subst hy; simp only [beq_self_eq_true] at q; cases q; exact e
  · rw [beq_false_of_ne hy] at q; exact h y u q
theorem SP.has {α : Type} {t : Sem α} {l₀ : Ls} {Q : α → Ls → Hl → Prop} (h : Has l₀ l) (k : SP w C t l₀ N Q) : SP w C t l N Q := k.weakL h

theorem SP_iterV (ok : Ok w C env r) {x : Str} {body : List Stmt} {a : Addr} {oa : Obj} {vs : List Value} {Q : Flow → Ls → Hl → Prop} (l₀ : Ls) (J : Nat → Hl → Prop) (ha : N a = some oa) (la : LO oa vs) (hl₀ : Has l₀ l) (hx : l₀.lookup x = none) (h0 : J 0 N)
    (mono : ∀ I, N I = none → ∀ i N₁ N₂, Off I N₁ N₂ → J i N₁ → J i N₂) (hdep : ∀ i N', J i N' → ∃ o, N' a = some o ∧ LO o vs)
    (turn : ∀ I o i v N₁, N I = none → i < vs.length → vs[i]? = some v → isIt o = true → N₁ I = some o → J i N₁ → SP w C (execs body env) ((x, v) :: l₀) N₁ (TurnEnd I o Q (fun l' N' => Has l₀ l' ∧ J (i + 1) N')))
    (fin : ∀ l' N', Has l₀ l' → J vs.length N' → Q .next l' N') : SP w C (pyIter (.ref a)) l N (LoopOf w C env x body Q) := fun s hl hN =>
  wpAny_pyIter_list (isList_at (hN _ _ ha).1 la) (Po.intro (tk' := s.toks) (hl.push _) (hN.push hl _)
    ⟨_, vs.length, _, LiO a, _, _, (fun i l' N' => Has l₀ l' ∧ J i N'), rfl, It.list ok _ a vs, upd_self .., ⟨rfl, rfl⟩, ⟨hl₀, mono _ hN.fresh _ _ _ (Off.new hN.fresh) h0⟩, (fun i l' N₁ N₂ o ⟨p, q⟩ => ⟨p, mono _ hN.fresh _ _ _ o q⟩), (fun i l' N' ⟨_, q⟩ => hdep i N' q),
      (fun i v l' N' o hi hv ie ho ⟨p, q⟩ => SP.weakL (turn _ o i v N' hN.fresh hi hv ie ho q) fun y u e => by
        rw [List.lookup_cons] at e ⊢
        split
        · rename_i h; rw [h] at e; exact e
        · rename_i h; rw [h] at e; exact p y u e), fun l' N' ⟨p, q⟩ => fin l' N' p q⟩)
theorem SP_iterVT (ok : Ok w C env r) {x : Str} {body : List Stmt} {a : Addr} {vs : List Value} {Q : Flow → Ls → Hl → Prop} (l₀ : Ls) (J : Nat → Hl → Prop) (ha : N a = some (tupObj vs)) (hl₀ : Has l₀ l) (hx : l₀.lookup x = none) (h0 : J 0 N)
    (mono : ∀ I, N I = none → ∀ i N₁ N₂, Off I N₁ N₂ → J i N₁ → J i N₂) (hdep : ∀ i N', J i N' → N' a = some (tupObj vs))
    (turn : ∀ I o i v N₁, N I = none → i < vs.length → vs[i]? = some v → isIt o = true → N₁ I = some o → J i N₁ → SP w C (execs body env) ((x, v) :: l₀) N₁ (TurnEnd I o Q (fun l' N' => Has l₀ l' ∧ J (i + 1) N')))
    (fin : ∀ l' N', Has l₀ l' → J vs.length N' → Q .next l' N') : SP w C (pyIter (.ref a)) l N (LoopOf w C env x body Q) := fun s hl hN =>
  wpAny_pyIter_tuple (isTup_at (hN _ _ ha).1) (Po.intro (tk' := s.toks) (hl.push _) (hN.push hl _)
    ⟨_, vs.length, _, TiO a, _, _, (fun i l' N' => Has l₀ l' ∧ J i N'), rfl, It.tuple ok _ a vs, upd_self .., ⟨rfl, rfl⟩, ⟨hl₀, mono _ hN.fresh _ _ _ (Off.new hN.fresh) h0⟩, (fun i l' N₁ N₂ o ⟨p, q⟩ => ⟨p, mono _ hN.fresh _ _ _ o q⟩), (fun i l' N' ⟨_, q⟩ => hdep i N' q),
      (fun i v l' N' o hi hv ie ho ⟨p, q⟩ => SP.weakL (turn _ o i v N' hN.fresh hi hv ie ho q) fun y u e => by
        rw [List.lookup_cons] at e ⊢
        split
        · rename_i h; rw [h] at e; exact e
        · rename_i h; rw [h] at e; exact p y u e), fun l' N' ⟨p, q⟩ => fin l' N' p q⟩)
/-- a list or a tuple of ints -/
def SeqI (N : Hl) (a : Addr) (ns : List Int) : Prop := (∃ vs n, N a = some (lst vs n) ∧ IntsAre vs ns) ∨ TupI N a ns
theorem SeqI.keep {N N' : Hl} {a : Addr} {ns : List Int} (h : SeqI N a ns) (k : ∀ o, N a = some o → N' a = some o) : SeqI N' a ns := by
  rcases h with ⟨vs, n, e, i⟩ | ⟨vs, e, i⟩
  · exact .inl ⟨vs, n, k _ e, i⟩
  · exact .inr ⟨vs, k _ e, i⟩
theorem SP_iterS (ok : Ok w C env r) {x : Str} {body : List Stmt} {a : Addr} {ns : List Int} {Q : Flow → Ls → Hl → Prop} (l₀ : Ls) (J : Nat → Hl → Prop) (ha : SeqI N a ns) (hl₀ : Has l₀ l) (hx : l₀.lookup x = none) (h0 : J 0 N)
    (mono : ∀ I, N I = none → ∀ i N₁ N₂, Off I N₁ N₂ → J i N₁ → J i N₂) (hdep : ∀ i N', J i N' → ∀ o, N a = some o → N' a = some o)
    (turn : ∀ I o i n t N₁, N I = none → ns[i]? = some n → isIt o = true → N₁ I = some o → J i N₁ → SP w C (execs body env) ((x, .int n t) :: l₀) N₁ (TurnEnd I o Q (fun l' N' => Has l₀ l' ∧ J (i + 1) N')))
    (fin : ∀ l' N', Has l₀ l' → J ns.length N' → Q .next l' N') : SP w C (pyIter (.ref a)) l N (LoopOf w C env x body Q) := by
  rcases ha with ⟨vs, m, e, hi⟩ | ⟨vs, e, hi⟩
  · refine SP_iterV ok l₀ J e (LO.lst _ _) hl₀ hx h0 mono (fun i N' j => ⟨_, hdep i N' j _ e, LO.lst _ _⟩) (fun I o i v N₁ hI hi' hv ie ho j => ?_) (by rw [hi.length]; exact fin)
    refine e2_2 (hi.at i v hv) ?_
    intro n t hy2_ hn
    subst hy2_
    exact turn I o i n t N₁ hI hn ie ho j
  · refine SP_iterVT ok l₀ J e hl₀ hx h0 mono (fun i N' j => hdep i N' j _ e) (fun I o i v N₁ hI hi' hv ie ho j => ?_) (by rw [hi.length]; exact fin)
    refine e2_2 (hi.at i v hv) ?_
    intro n t hy2_ hn
    subst hy2_
    exact turn I o i n t N₁ hI hn ie ho j
end
end
/-! part Zp -/
section
section
variable {w : World} {A : Around} {E : Value → Shared → Prop} {s : Shared}

/-- a tuple's iterator asked for its next item: an item -/
theorem tupIt_item {it t : Addr} {i : Nat} {items : Array Value} {x : Value} {Q : Value → Shared → Prop} (hit : s.heap.IsTupleIter it t i) (ht : s.heap.IsTuple t items) (hx : items[i]? = some x)
    (hQ : ∀ h', h'.IsTupleIter it t (i + 1) → Heap.SameBut it s.heap h' → Q x { s with heap := h' }) : wpAny (model PG w) A (Builtin.SmallTypes.nextOf (.ref it)) Q E s := by
  have hT := hit.typeIs
  refine e1_3 hit ?_
  try clear hit
  intro o ho hc hd
  refine e1_3 ht ?_
  try clear ht
  intro ot hot _ hz0_
  refine e1_1 hz0_ ?_
  try clear hz0_
  intro nt hdt
  refine wpAny_bind (wpAny_callSpecial?_slot (name := Str.ofString "__next__") hT F.slot_tuple_iterator_next (wpAny_call_entry F.slot_tuple_iterator_next hT F.entry_tuple_iterator_next ?_ (F.args_tuple_iterator_next_1 _)))
  refine wpAny_bind (m := field (.ref it) 0) (wpAny_field ho hd (x := .ref t) rfl ?_)
  show wpAny _ _ (if (Value.ref t == Value.none) = true then _ else _) _ _ s
  rw [if_neg (by exact Bool.false_ne_true)]
  refine wpAny_bind (m := field (.ref it) 1) (wpAny_field ho hd (x := .int i 0) rfl ?_)
  refine wpAny_bind (m := seqItems? (.ref t)) (wpAny_seqItems hot hdt ?_)
  simp only [Int.toNat_natCast, hx]
  refine wpAny_bind (wpAny_setField ho hd (by simp) (wpAny_pure ⟨x, rfl, wpAny_pure (hQ _ ⟨_, Heap.get?_update_self _ ho (Obj.isFreed_of_fields (Obj.data_mapFields hd _)), (Obj.cls_mapFields ..).trans hc, ?_⟩ (Heap.SameBut.update ..))⟩))
  rw [Obj.data_mapFields hd]; simp [rawInt]
/-- .. and none is left -/
theorem tupIt_end {it t : Addr} {i : Nat} {items : Array Value} {Q : Value → Shared → Prop} (hh : A.handled = none) (hit : s.heap.IsTupleIter it t i) (ht : s.heap.IsTuple t items) (hx : items[i]? = none)
    (hE : ∀ h' e, Heap.ExtBut it s.heap h' → (∃ o, h'.get? e = some o ∧ o.cls = .type "StopIteration") → E (.ref e) { s with heap := h' }) : wpAny (model PG w) A (Builtin.SmallTypes.nextOf (.ref it)) Q E s := by
  have hT := hit.typeIs
  refine e1_3 hit ?_
  try clear hit
  intro o ho hc hd
  refine e1_3 ht ?_
  try clear ht
  intro ot hot _ hz0_
  refine e1_1 hz0_ ?_
  try clear hz0_
  intro nt hdt
  refine wpAny_bind (wpAny_callSpecial?_slot (name := Str.ofString "__next__") hT F.slot_tuple_iterator_next (wpAny_call_entry F.slot_tuple_iterator_next hT F.entry_tuple_iterator_next ?_ (F.args_tuple_iterator_next_1 _)))
  refine wpAny_bind (m := field (.ref it) 0) (wpAny_field ho hd (x := .ref t) rfl ?_)
  show wpAny _ _ (if (Value.ref t == Value.none) = true then _ else _) _ _ s
  rw [if_neg (by exact Bool.false_ne_true)]
  refine wpAny_bind (m := field (.ref it) 1) (wpAny_field ho hd (x := .int i 0) rfl ?_)
  refine wpAny_bind (m := seqItems? (.ref t)) (wpAny_seqItems hot hdt ?_)
  simp only [Int.toNat_natCast, hx]
  refine wpAny_bind (wpAny_rule (wpAny_bind (wpAny_setField ho hd (by simp) ?_)))
  show wpAny _ _ (newExc (.type "StopIteration") [] >>= _) _ _ _
  refine wpAny_bind ?_
  simp only [newExc, newTuple]
  refine wpAny_bind (wpAny_newObj_type ?_ (by size_fits))
  refine wpAny_bind (m := firstArgMember _ _) (wpAny_of_eq (a := Value.none) (by first | rfl | (simp only [firstArgMember]; rfl)) ?_)
  refine wpAny_newObj_type ?_ (by size_fits)
  simp only [raiseNew]
  refine wpAny_bind (wpAny_handled ?_)
  first | rw [show A.in1.handled = none from hh] | rw [hh]
  exact wpAny_bind (wpAny_pure (wpAny_throw (hE _ _ (((Heap.SameBut.update ..).extBut.push _).push _) ⟨_, Heap.get?_push_size _ rfl, rfl⟩)))

structure ZipSt (h : Heap) (z TI TO i1 i2 l1 l2 : Addr) (k : Nat) (xs ys : Array Value) (f : Value) : Prop where
  z : IsZip h z TI TO f
  ti : IsPair h TI (.ref i1) (.ref i2)
  to : ∃ a b, IsPair h TO a b
  i1 : h.IsTupleIter i1 l1 k
  i2 : h.IsTupleIter i2 l2 k
  l1 : h.IsTuple l1 xs
  l2 : h.IsTuple l2 ys

end
namespace zipT_item_c
def Prp (w : World) (z : Addr) (TI : Addr) (TO : Addr) (i1 : Addr) (i2 : Addr) (l1 : Addr) (l2 : Addr) (k : Nat) (x : Value) (y : Value) : Prop := ∀ (A : Around) (E : Value → Shared → Prop) (s : Shared) (xs : Array Value) (ys : Array Value) (Q : Option Value → Shared → Prop) (D : ZipApart z TI TO i1 i2 l1 l2) (S : ZipSt s.heap z TI TO i1 i2 l1 l2 k xs ys .none) (hx : xs[k]? = some x) (hy : ys[k]? = some y) (hQ : ∀ h', ZipSt h' z TI TO i1 i2 l1 l2 (k + 1) xs ys (rawInt s.heap.objs.size) → IsPair h' s.heap.objs.size x y → h'.objs.size = s.heap.objs.size + 1 →
      (∀ c o, c ≠ z → c ≠ TO → c ≠ i1 → c ≠ i2 → s.heap.get? c = some o → h'.get? c = some o) → Q (some (.ref s.heap.objs.size)) { s with heap := h' }), wpAny (model PG w) A (pyNext (.ref z)) Q E s
noncomputable def Vec : World × Addr × Addr × Addr × Addr × Addr × Addr × Addr × Nat × Value × Value := pick (aWorld 0, 0, 0, 0, 0, 0, 0, 0, 0, .none, .none) fun q => Prp q.1 q.2.1 q.2.2.1 q.2.2.2.1 q.2.2.2.2.1 q.2.2.2.2.2.1 q.2.2.2.2.2.2.1 q.2.2.2.2.2.2.2.1 q.2.2.2.2.2.2.2.2.1 q.2.2.2.2.2.2.2.2.2.1 q.2.2.2.2.2.2.2.2.2.2
@[irreducible] noncomputable def w : World := Vec.1
@[irreducible] noncomputable def z : Addr := Vec.2.1
@[irreducible] noncomputable def TI : Addr := Vec.2.2.1
@[irreducible] noncomputable def TO : Addr := Vec.2.2.2.1
@[irreducible] noncomputable def i1 : Addr := Vec.2.2.2.2.1
@[irreducible] noncomputable def i2 : Addr := Vec.2.2.2.2.2.1
@[irreducible] noncomputable def l1 : Addr := Vec.2.2.2.2.2.2.1
@[irreducible] noncomputable def l2 : Addr := Vec.2.2.2.2.2.2.2.1
@[irreducible] noncomputable def k : Nat := Vec.2.2.2.2.2.2.2.2.1
@[irreducible] noncomputable def x : Value := Vec.2.2.2.2.2.2.2.2.2.1
@[irreducible] noncomputable def y : Value := Vec.2.2.2.2.2.2.2.2.2.2
theorem core : Prp w z TI TO i1 i2 l1 l2 k x y := by
  unfold Prp
  intro A E s xs ys Q D S hx hy hQ
  obtain ⟨hz, hTI, ⟨a, b, hTO⟩, h1, h2, hl1, hl2⟩ := S
  have hT : s.TypeIs (.ref z) "zip" := ⟨_, hz, rfl⟩
  unfold pyNext
  refine wpAny_bind (wpAny_attempt (wpAny_callSpecial?_slot (name := Str.ofString "__next__") hT F.slot_zip_next (wpAny_call_entry F.slot_zip_next hT F.entry_zip_next ?_ (F.args_zip_next_1 _))))
  refine wpAny_bind (m := field (.ref z) 2) (wpAny_field hz rfl (x := .bool false) rfl ?_)
  refine wpAny_bind (m := field (.ref z) 3) (wpAny_field hz rfl (x := .ref TI) rfl ?_)
  refine wpAny_bind (wpAny_seqItems hTI rfl ?_)
  refine wpAny_bind (m := Builtin.SmallTypes.ownedTupleIsFree (.ref z)) ?_
  unfold Builtin.SmallTypes.ownedTupleIsFree
  refine wpAny_bind (wpAny_field hz rfl (x := .none) rfl (wpAny_pure ?_))
  simp only [if_true]
  refine wpAny_bind (wpAny_rule (wpAny_bind (wpAny_field hz rfl (x := .ref TO) rfl ?_)))
  refine wpAny_bind (wpAny_setField_rec hz (by simp) fun g₁ hz₁ hs₁ => ?_)
  refine wpAny_bind ?_
  simp only [List.zipIdx_cons, List.zipIdx_nil, List.forIn_cons, List.forIn_nil]
  refine wpAny_bind (wpAny_bind (wpAny_onRaise ?_))
  refine wpAny_bind (m := Builtin.SmallTypes.nextOf (.ref i1)) (tupIt_item (h1.extBut hs₁.extBut D.i1z) (hl1.extBut hs₁.extBut D.l1z) hx fun g₂ h1₂ hs₂ => wpAny_pure ?_)
  have hTO₂ : IsPair g₂ TO a b := hs₂.extBut _ _ D.TOi1 (hs₁.extBut _ _ D.TOz hTO)
  refine wpAny_bind (wpAny_seqItems hTO₂ rfl (wpAny_bind (wpAny_updateSeq_pair hTO₂ fun g₃ hTO₃ hs₃ => ?_)))
  refine wpAny_bind (wpAny_letGo (wpAny_pure ?_))
  refine wpAny_bind (wpAny_bind (wpAny_onRaise ?_))
  have e3 : ∀ c o, c ≠ z → c ≠ TO → c ≠ i1 → s.heap.get? c = some o → g₃.get? c = some o := fun c o q1 q2 q3 e => hs₃.extBut _ _ q2 (hs₂.extBut _ _ q3 (hs₁.extBut _ _ q1 e))
  refine wpAny_bind (m := Builtin.SmallTypes.nextOf (.ref i2)) (tupIt_item (h2.at fun o => e3 _ o D.i2z D.TOi2.symm D.i12.symm) (hl2.at fun o => e3 _ o D.l2z D.l2TO D.l2i1) hy fun g₄ h2₄ hs₄ => wpAny_pure ?_)
  have hTO₄ : IsPair g₄ TO x b := hs₄.extBut _ _ D.TOi2 hTO₃
  refine wpAny_bind (wpAny_seqItems hTO₄ rfl (wpAny_bind (wpAny_updateSeq_pair hTO₄ fun g₅ hTO₅ hs₅ => ?_)))
  replace hTO₅ : IsPair g₅ TO x y := hTO₅
  refine wpAny_bind (wpAny_letGo (wpAny_pure (wpAny_pure ?_)))
  refine wpAny_bind (wpAny_seqItems hTO₅ rfl (wpAny_bind (wpAny_newTuple ?_)))
  have hsz : g₅.objs.size = s.heap.objs.size := by rw [hs₅.1, hs₄.1, hs₃.1, hs₂.1, hs₁.1]
  have e5 : ∀ c o, c ≠ z → c ≠ TO → c ≠ i1 → c ≠ i2 → s.heap.get? c = some o → g₅.get? c = some o := fun c o q1 q2 q3 q4 e => hs₅.extBut _ _ q2 (hs₄.extBut _ _ q4 (e3 c o q1 q2 q3 e))
  have hz₅ : IsZip g₅ z TI TO .ellipsis := hs₅.extBut _ _ D.TOz.symm (hs₄.extBut _ _ D.i2z.symm (hs₃.extBut _ _ D.TOz.symm (hs₂.extBut _ _ D.i1z.symm hz₁)))
  have h1₅ : g₅.IsTupleIter i1 l1 (k + 1) := h1₂.at fun o e => hs₅.extBut _ _ D.TOi1.symm (hs₄.extBut _ _ D.i12 (hs₃.extBut _ _ D.TOi1.symm e))
  have h2₅ : g₅.IsTupleIter i2 l2 (k + 1) := h2₄.at fun o e => hs₅.extBut _ _ D.TOi2.symm e
  have hzlt : z < g₅.objs.size := Heap.lt_size hz₅
  refine wpAny_bind (m := Builtin.SmallTypes.ownedTupleHandOut (.ref z) (.ref g₅.objs.size)) ?_
  unfold Builtin.SmallTypes.ownedTupleHandOut
  have hz₆ : IsZip (g₅.push { cls := .type "tuple", data := .seq #[x, y] }) z TI TO .ellipsis := Heap.get?_push_of_some _ hz₅
  refine wpAny_bind (wpAny_setField_rec hz₆ (by simp) fun g₇ hz₇ hs₇ => ?_)
  refine wpAny_setField_rec hz₇ (by simp) fun g₈ hz₈ hs₈ => ?_
  replace hz₈ : IsZip g₈ z TI TO (rawInt g₅.objs.size) := hz₈
  have up : ∀ c o, c ≠ z → g₅.get? c = some o → g₈.get? c = some o := fun c o q1 e => hs₈.extBut _ _ q1 (hs₇.extBut _ _ q1 (Heap.get?_push_of_some _ e))
  have hT₈ : IsPair g₈ g₅.objs.size x y := hs₈.extBut _ _ (Nat.ne_of_gt hzlt) (hs₇.extBut _ _ (Nat.ne_of_gt hzlt) (Heap.get?_push_size _ rfl))
  have hz8 : g₈.objs.size = g₅.objs.size + 1 := by rw [hs₈.1, hs₇.1, Heap.size_push]
  rw [hsz] at hz₈ hT₈ hz8
  refine wpAny_pure ⟨_, rfl, wpAny_pure ?_⟩
  show Q (some (.ref g₅.objs.size)) _
  rw [hsz]
  exact hQ g₈ ⟨hz₈, up _ _ D.TIz (e5 _ _ D.TIz D.TITO D.TIi1 D.TIi2 hTI), ⟨_, _, up _ _ D.TOz hTO₅⟩, h1₅.at fun o e => up _ o D.i1z e, h2₅.at fun o e => up _ o D.i2z e,
    hl1.at fun o e => up _ o D.l1z (e5 _ o D.l1z D.l1TO D.l1i1 D.l1i2 e), hl2.at fun o e => up _ o D.l2z (e5 _ o D.l2z D.l2TO D.l2i1 D.l2i2 e)⟩ hT₈ hz8 fun c o q1 q2 q3 q4 e => up c o q1 (e5 c o q1 q2 q3 q4 e)
end zipT_item_c
theorem zipT_item {w : World} {A : Around} {E : Value → Shared → Prop} {s : Shared} {z TI TO i1 i2 l1 l2 : Addr} {k : Nat} {xs ys : Array Value} {x y : Value} {Q : Option Value → Shared → Prop} (D : ZipApart z TI TO i1 i2 l1 l2) (S : ZipSt s.heap z TI TO i1 i2 l1 l2 k xs ys .none)
    (hx : xs[k]? = some x) (hy : ys[k]? = some y)
    (hQ : ∀ h', ZipSt h' z TI TO i1 i2 l1 l2 (k + 1) xs ys (rawInt s.heap.objs.size) → IsPair h' s.heap.objs.size x y → h'.objs.size = s.heap.objs.size + 1 →
      (∀ c o, c ≠ z → c ≠ TO → c ≠ i1 → c ≠ i2 → s.heap.get? c = some o → h'.get? c = some o) → Q (some (.ref s.heap.objs.size)) { s with heap := h' }) :
    wpAny (model PG w) A (pyNext (.ref z)) Q E s :=
  pickAll (P := fun q : World × Addr × Addr × Addr × Addr × Addr × Addr × Addr × Nat × Value × Value => zipT_item_c.Prp q.1 q.2.1 q.2.2.1 q.2.2.2.1 q.2.2.2.2.1 q.2.2.2.2.2.1 q.2.2.2.2.2.2.1 q.2.2.2.2.2.2.2.1 q.2.2.2.2.2.2.2.2.1 q.2.2.2.2.2.2.2.2.2.1 q.2.2.2.2.2.2.2.2.2.2) (aWorld 0, 0, 0, 0, 0, 0, 0, 0, 0, .none, .none) (by with_unfolding_all exact zipT_item_c.core) (w, z, TI, TO, i1, i2, l1, l2, k, x, y) A E s xs ys Q D S hx hy hQ
section
variable {w : World} {A : Around} {E : Value → Shared → Prop} {s : Shared}
end
namespace zipT_end_c
def Prp (w : World) (z : Addr) (TI : Addr) (TO : Addr) (i1 : Addr) (i2 : Addr) (l1 : Addr) (l2 : Addr) (k : Nat) : Prop := ∀ (A : Around) (E : Value → Shared → Prop) (s : Shared) (xs : Array Value) (ys : Array Value) (Q : Option Value → Shared → Prop) (hh : A.handled = none) (D : ZipApart z TI TO i1 i2 l1 l2) (S : ZipSt s.heap z TI TO i1 i2 l1 l2 k xs ys .none) (hx : xs[k]? = none) (hQ : ∀ h', (∀ c o, c ≠ z → c ≠ TO → c ≠ i1 → c ≠ i2 → s.heap.get? c = some o → h'.get? c = some o) → Q none { s with heap := h' }), wpAny (model PG w) A (pyNext (.ref z)) Q E s
noncomputable def Vec : World × Addr × Addr × Addr × Addr × Addr × Addr × Addr × Nat := pick (aWorld 0, 0, 0, 0, 0, 0, 0, 0, 0) fun q => Prp q.1 q.2.1 q.2.2.1 q.2.2.2.1 q.2.2.2.2.1 q.2.2.2.2.2.1 q.2.2.2.2.2.2.1 q.2.2.2.2.2.2.2.1 q.2.2.2.2.2.2.2.2
@[irreducible] noncomputable def w : World := Vec.1
@[irreducible] noncomputable def z : Addr := Vec.2.1
@[irreducible] noncomputable def TI : Addr := Vec.2.2.1
@[irreducible] noncomputable def TO : Addr := Vec.2.2.2.1
@[irreducible] noncomputable def i1 : Addr := Vec.2.2.2.2.1
@[irreducible] noncomputable def i2 : Addr := Vec.2.2.2.2.2.1
@[irreducible] noncomputable def l1 : Addr := Vec.2.2.2.2.2.2.1
@[irreducible] noncomputable def l2 : Addr := Vec.2.2.2.2.2.2.2.1
@[irreducible] noncomputable def k : Nat := Vec.2.2.2.2.2.2.2.2
theorem core : Prp w z TI TO i1 i2 l1 l2 k := by
  unfold Prp
  intro A E s xs ys Q hh D S hx hQ
  obtain ⟨hz, hTI, ⟨a, b, hTO⟩, h1, h2, hl1, hl2⟩ := S
  have hT : s.TypeIs (.ref z) "zip" := ⟨_, hz, rfl⟩
  unfold pyNext
  refine wpAny_bind (wpAny_attempt (wpAny_callSpecial?_slot (name := Str.ofString "__next__") hT F.slot_zip_next (wpAny_call_entry F.slot_zip_next hT F.entry_zip_next ?_ (F.args_zip_next_1 _))))
  refine wpAny_bind (m := field (.ref z) 2) (wpAny_field hz rfl (x := .bool false) rfl ?_)
  refine wpAny_bind (m := field (.ref z) 3) (wpAny_field hz rfl (x := .ref TI) rfl ?_)
  refine wpAny_bind (wpAny_seqItems hTI rfl ?_)
  refine wpAny_bind (m := Builtin.SmallTypes.ownedTupleIsFree (.ref z)) ?_
  unfold Builtin.SmallTypes.ownedTupleIsFree
  refine wpAny_bind (wpAny_field hz rfl (x := .none) rfl (wpAny_pure ?_))
  simp only [if_true]
  refine wpAny_bind (wpAny_rule (wpAny_bind (wpAny_field hz rfl (x := .ref TO) rfl ?_)))
  refine wpAny_bind (wpAny_setField_rec hz (by simp) fun g₁ hz₁ hs₁ => ?_)
  replace hz₁ : IsZip g₁ z TI TO .ellipsis := hz₁
  refine wpAny_bind ?_
  simp only [List.zipIdx_cons, List.zipIdx_nil, List.forIn_cons, List.forIn_nil]
  refine wpAny_bind (wpAny_bind (wpAny_onRaise ?_))
  refine wpAny_bind (m := Builtin.SmallTypes.nextOf (.ref i1)) (tupIt_end (by exact hh) (h1.extBut hs₁.extBut D.i1z) (hl1.extBut hs₁.extBut D.l1z) hx fun g₂ e hs₂ he => ?_)
  refine e1_2 he ?_
  try clear he
  intro oe hoe hce
  have hz₂ : IsZip g₂ z TI TO .ellipsis := hs₂ _ _ D.i1z.symm hz₁
  have hez : e ≠ z := fun q => by subst q; rw [hz₂] at hoe; cases hoe; simp at hce
  refine wpAny_setField_rec hz₂ (by simp) fun g₃ _ hs₃ => ?_
  refine wpAny_bind (wpAny_isInstance (T := "StopIteration") (b := true) ⟨oe, hs₃.extBut _ _ hez hoe, hce⟩ isSubtype_stop ?_)
  exact wpAny_pure (hQ _ fun c o c1 _ c3 _ x => hs₃.extBut _ _ c1 (hs₂ _ _ c3 (hs₁.extBut _ _ c1 x)))
end zipT_end_c
theorem zipT_end {w : World} {A : Around} {E : Value → Shared → Prop} {s : Shared} {z TI TO i1 i2 l1 l2 : Addr} {k : Nat} {xs ys : Array Value} {Q : Option Value → Shared → Prop} (hh : A.handled = none) (D : ZipApart z TI TO i1 i2 l1 l2) (S : ZipSt s.heap z TI TO i1 i2 l1 l2 k xs ys .none)
    (hx : xs[k]? = none) (hQ : ∀ h', (∀ c o, c ≠ z → c ≠ TO → c ≠ i1 → c ≠ i2 → s.heap.get? c = some o → h'.get? c = some o) → Q none { s with heap := h' }) :
    wpAny (model PG w) A (pyNext (.ref z)) Q E s :=
  pickAll (P := fun q : World × Addr × Addr × Addr × Addr × Addr × Addr × Addr × Nat => zipT_end_c.Prp q.1 q.2.1 q.2.2.1 q.2.2.2.1 q.2.2.2.2.1 q.2.2.2.2.2.1 q.2.2.2.2.2.2.1 q.2.2.2.2.2.2.2.1 q.2.2.2.2.2.2.2.2) (aWorld 0, 0, 0, 0, 0, 0, 0, 0, 0) (by with_unfolding_all exact zipT_end_c.core) (w, z, TI, TO, i1, i2, l1, l2, k) A E s xs ys Q hh D S hx hQ
section
variable {w : World} {A : Around} {E : Value → Shared → Prop} {s : Shared}
abbrev tItO (l : Addr) : Obj := { cls := .type "tuple_iterator", data := .fields #[.ref l, .int 0 0] }
abbrev zH1 (h : Heap) (l1 : Addr) : Heap := h.push (tItO l1)
abbrev zH2 (h : Heap) (l1 l2 : Addr) : Heap := (zH1 h l1).push (tItO l2)
abbrev zH3 (h : Heap) (l1 l2 : Addr) : Heap := (zH2 h l1 l2).push { cls := .type "tuple", data := .seq #[.ref h.objs.size, .ref (zH1 h l1).objs.size] }
abbrev zH4 (h : Heap) (l1 l2 : Addr) : Heap := (zH3 h l1 l2).push { cls := .type "tuple", data := .seq #[.none, .none] }
abbrev zH5 (h : Heap) (l1 l2 : Addr) : Heap := (zH4 h l1 l2).push { cls := .type "zip", data := .fields #[.none, .bool false, .bool false, .ref (zH2 h l1 l2).objs.size, .ref (zH3 h l1 l2).objs.size] }
theorem zipT_new (l1 l2 : Addr) (xs ys : Array Value) :
    Meets (Builtin.«zip.__new__» ⟨[.type "zip", .ref l1, .ref l2], []⟩) (fun _ R s => s.heap.IsTuple l1 xs ∧ s.heap.IsTuple l2 ys ∧
      R (.ok (.ret (.ref (zH4 s.heap l1 l2).objs.size))) { s with heap := zH5 s.heap l1 l2 }) :=
  .of_wp fun prog w A R s h => by
    obtain ⟨hp, g, d, tk, os⟩ := s; obtain ⟨hl1, hl2, h⟩ := h
    have hsub := sub_zip
    have hL1 : Heap.IsTuple (Shared.heap ⟨hp, g, d, tk, os⟩) l1 xs := hl1
    have hL2 : Heap.IsTuple (Shared.heap ⟨hp.push (tItO l1), g, d, tk, os⟩) l2 ys := Heap.IsTuple.push hl2 _
    wp_walk using wpAny_pyIter_tuple hL1, wpAny_pyIter_tuple hL2
    exact ⟨_, rfl, h⟩
end

section
variable {w : World} {C : Cx} {l : Ls} {N : Hl} {env : Env} {r : Nat}
theorem Loc.off {h₀ h h' : Heap} {L : Addr} {S : List Addr} (x : Loc h₀ L h l) (hS : ∀ c ∈ S, c ≠ L ∧ h₀.get? c = none) (k : ∀ c o, c ∉ S → h.get? c = some o → h'.get? c = some o) : Loc h₀ L h' l := by
  refine e1_3 x ?_
  try clear x
  intro m F hm z
  exact ⟨m, ⟨F.ns.at' fun o e => k L o (fun q => (hS _ q).1 rfl) e, fun b ob e => k b ob (fun q => by rw [(hS _ q).2] at e; cases e) (F.keep b ob e), F.above⟩, hm, z⟩

def zipO (TI TO : Addr) (f : Value) : Obj := { cls := .type "zip", dict := none, data := .fields #[f, .bool false, .bool false, .ref TI, .ref TO], slots := #[] }
theorem neA {a b : Addr} (h : @Ne Nat a b) : a ≠ b := h
theorem ltA {a b : Addr} (h : a < b) : @LT.lt Nat _ a b := h
structure ZipIn (N : Hl) (z TI TO i1 i2 a b : Addr) : Prop where
  pz : N z = some (zipO TI TO .none)
  pti : N TI = some { cls := .type "tuple", data := .seq #[.ref i1, .ref i2] }
  pto : N TO = some { cls := .type "tuple", data := .seq #[.none, .none] }
  pi1 : N i1 = some (tItO a)
  pi2 : N i2 = some (tItO b)
structure ZipOff (N : Hl) (z TI TO i1 i2 : Addr) : Prop where
  pz : N z = none
  pti : N TI = none
  pto : N TO = none
  pi1 : N i1 = none
  pi2 : N i2 = none
  n1 : z ≠ TI
  n2 : z ≠ TO
  n3 : z ≠ i1
  n4 : z ≠ i2
  n5 : TI ≠ TO
  n6 : TI ≠ i1
  n7 : TI ≠ i2
  n8 : TO ≠ i1
  n9 : TO ≠ i2
  n10 : i1 ≠ i2

theorem SP_callZip (ok : Ok w C env r) {a b : Addr} {us vs : List Value} {Q : Value → Ls → Hl → Prop} (ha : N a = some (tupObj us)) (hb : N b = some (tupObj vs))
    (h : ∀ z TI TO i1 i2 N', ZipOff N z TI TO i1 i2 → ZipIn N' z TI TO i1 i2 a b → Keep [] N N' → Q (.ref z) l N') : SP w C (call (.type "zip") [.ref a, .ref b]) l N Q := fun s hl hN => by
  refine callType_new F.called_zip (by decide) (F.typeCall_zip_2 _ _) (F.newCall_zip_2 _ _) (fun obj => F.args_object_init_3 obj _ _) F.entry_zip_new (zipT_new a b us.toArray vs.toArray) ⟨⟨_, (hN _ _ ha).1, rfl, 0, rfl⟩, ⟨_, (hN _ _ hb).1, rfl, 0, rfl⟩, ?_⟩
  have z1 : (zH1 s.heap a).objs.size = s.heap.objs.size + 1 := Heap.size_push ..
  have z2 : (zH2 s.heap a b).objs.size = s.heap.objs.size + 2 := by rw [Heap.size_push, z1]
  have z3 : (zH3 s.heap a b).objs.size = s.heap.objs.size + 3 := by rw [Heap.size_push, z2]
  have z4 : (zH4 s.heap a b).objs.size = s.heap.objs.size + 4 := by rw [Heap.size_push, z3]
  have f0 : N s.heap.objs.size = none := hN.fresh
  have gt : ∀ k, N (s.heap.objs.size + k) = none := fun k => by
    cases e : N (s.heap.objs.size + k) with
    | none => rfl
    | some o => have := ltA (Heap.lt_size (hN _ _ e).1); omega
  have l1 := hN.push hl (tItO a)
  have o1 := hl.push (tItO a)
  have l2 := l1.push o1 (tItO b)
  have o2 := o1.push (tItO b)
  have l3 := l2.push o2 { cls := .type "tuple", data := .seq #[.ref s.heap.objs.size, .ref (zH1 s.heap a).objs.size] }
  have o3 := o2.push { cls := .type "tuple", data := .seq #[.ref s.heap.objs.size, .ref (zH1 s.heap a).objs.size] }
  have l4 := l3.push o3 { cls := .type "tuple", data := .seq #[.none, .none] }
  have o4 := o3.push { cls := .type "tuple", data := .seq #[.none, .none] }
  have l5 := l4.push o4 { cls := .type "zip", data := .fields #[.none, .bool false, .bool false, .ref (zH2 s.heap a b).objs.size, .ref (zH3 s.heap a b).objs.size] }
  have o5 := o4.push { cls := .type "zip", data := .fields #[.none, .bool false, .bool false, .ref (zH2 s.heap a b).objs.size, .ref (zH3 s.heap a b).objs.size] }
  refine ⟨⟨{ cls := .type "zip", data := .fields #[.none, .bool false, .bool false, .ref (zH2 s.heap a b).objs.size, .ref (zH3 s.heap a b).objs.size] }, Heap.get?_push_size _ rfl, rfl⟩, Po.intro (tk' := s.toks) o5 l5 (h _ (zH2 s.heap a b).objs.size (zH3 s.heap a b).objs.size s.heap.objs.size (zH1 s.heap a).objs.size _ ?_ ?_ ?_)⟩
  · show ZipOff N (zH4 s.heap a b).objs.size _ _ _ _
    rw [z1, z2, z3, z4]
    exact ⟨gt 4, gt 2, gt 3, f0, gt 1, neA (by first | exact Nat.le_refl _ | exact leK rfl | omega), neA (by first | exact Nat.le_refl _ | exact leK rfl | omega), neA (by first | exact Nat.le_refl _ | exact leK rfl | omega), neA (by first | exact Nat.le_refl _ | exact leK rfl | omega), neA (by first | exact Nat.le_refl _ | exact leK rfl | omega), neA (by first | exact Nat.le_refl _ | exact leK rfl | omega), neA (by first | exact Nat.le_refl _ | exact leK rfl | omega), neA (by first | exact Nat.le_refl _ | exact leK rfl | omega), neA (by first | exact Nat.le_refl _ | exact leK rfl | omega), neA (by first | exact Nat.le_refl _ | exact leK rfl | omega)⟩
  · refine ⟨upd_self .., ?_, ?_, ?_, ?_⟩
    · rw [upd_ne (by show (zH2 s.heap a b).objs.size ≠ (zH4 s.heap a b).objs.size; refine neA ?_; omega), upd_ne (by show (zH2 s.heap a b).objs.size ≠ (zH3 s.heap a b).objs.size; refine neA ?_; omega)]; exact upd_self ..
    · rw [upd_ne (by show (zH3 s.heap a b).objs.size ≠ (zH4 s.heap a b).objs.size; refine neA ?_; omega)]; exact upd_self ..
    · rw [upd_ne (by show s.heap.objs.size ≠ (zH4 s.heap a b).objs.size; refine neA ?_; omega), upd_ne (by show s.heap.objs.size ≠ (zH3 s.heap a b).objs.size; refine neA ?_; omega), upd_ne (by show s.heap.objs.size ≠ (zH2 s.heap a b).objs.size; refine neA ?_; omega), upd_ne (by show s.heap.objs.size ≠ (zH1 s.heap a).objs.size; refine neA ?_; omega)]; exact upd_self ..
    · rw [upd_ne (by show (zH1 s.heap a).objs.size ≠ (zH4 s.heap a b).objs.size; refine neA ?_; omega), upd_ne (by show (zH1 s.heap a).objs.size ≠ (zH3 s.heap a b).objs.size; refine neA ?_; omega), upd_ne (by show (zH1 s.heap a).objs.size ≠ (zH2 s.heap a b).objs.size; refine neA ?_; omega)]; exact upd_self ..
  · intro c o e _
    have hlt := ltA (Heap.lt_size (hN _ _ e).1)
    rw [upd_ne (by show c ≠ (zH4 s.heap a b).objs.size; refine neA ?_; omega), upd_ne (by show c ≠ (zH3 s.heap a b).objs.size; refine neA ?_; omega), upd_ne (by show c ≠ (zH2 s.heap a b).objs.size; refine neA ?_; omega), upd_ne (by show c ≠ (zH1 s.heap a).objs.size; refine neA ?_; omega), upd_ne (by refine neA ?_; omega)]
    exact e

end
namespace SP_ForZip1_c
def Prp (w : World) (C : Cx) (N : Hl) (r : Nat) (elts : List Expr) (kk : Nat) (body : List Stmt) (a : Addr) (b : Addr) (x : Value) (y : Value) (n1 : Str) (n2 : Str) (l₀ : Ls) : Prop := ∀ (l : Ls) (env : Env) (ok : Ok w C env r) (tp : Pos) (pos : Pos) (iter : Expr) (Q : Flow → Ls → Hl → Prop) (hn : namesOf elts = some [n1, n2]) (hk : ([n1, n2].all fun x => env.kindOf x == some .local) = true) (hs : ∀ x, foldedSetIterable iter env x = pure x) (ha : N a = some (tupObj [x])) (hb : N b = some (tupObj [y])) (hi : SP w C (eval iter env) l N (fun v l' N' => ∃ z TI TO i1 i2, v = .ref z ∧ l' = l ∧ ZipOff N z TI TO i1 i2 ∧ ZipIn N' z TI TO i1 i2 a b ∧ Keep [] N N')) (hb' : ∀ N2, Keep [] N N2 → SP w C (execs body env) ((n2, y) :: (n1, x) :: l) N2 (fun f l' N' => f = .next ∧ Has l₀ l' ∧ N' = N2)) (fin : ∀ l' , Has l₀ l' → Q .next l' N), SP w C (exec (.For (.Tuple elts kk tp) iter body [] pos) env) l N Q
noncomputable def Vec : World × Cx × Hl × Nat × List Expr × Nat × List Stmt × Addr × Addr × Value × Value × Str × Str × Ls := pick (aWorld 0, ⟨callerA, {}, 0⟩, fun _ => none, 0, [], 0, [], 0, 0, .none, .none, Str.empty, Str.empty, []) fun q => Prp q.1 q.2.1 q.2.2.1 q.2.2.2.1 q.2.2.2.2.1 q.2.2.2.2.2.1 q.2.2.2.2.2.2.1 q.2.2.2.2.2.2.2.1 q.2.2.2.2.2.2.2.2.1 q.2.2.2.2.2.2.2.2.2.1 q.2.2.2.2.2.2.2.2.2.2.1 q.2.2.2.2.2.2.2.2.2.2.2.1 q.2.2.2.2.2.2.2.2.2.2.2.2.1 q.2.2.2.2.2.2.2.2.2.2.2.2.2
@[irreducible] noncomputable def w : World := Vec.1
@[irreducible] noncomputable def C : Cx := Vec.2.1
@[irreducible] noncomputable def N : Hl := Vec.2.2.1
@[irreducible] noncomputable def r : Nat := Vec.2.2.2.1
@[irreducible] noncomputable def elts : List Expr := Vec.2.2.2.2.1
@[irreducible] noncomputable def kk : Nat := Vec.2.2.2.2.2.1
@[irreducible] noncomputable def body : List Stmt := Vec.2.2.2.2.2.2.1
@[irreducible] noncomputable def a : Addr := Vec.2.2.2.2.2.2.2.1
@[irreducible] noncomputable def b : Addr := Vec.2.2.2.2.2.2.2.2.1
@[irreducible] noncomputable def x : Value := Vec.2.2.2.2.2.2.2.2.2.1
@[irreducible] noncomputable def y : Value := Vec.2.2.2.2.2.2.2.2.2.2.1
@[irreducible] noncomputable def n1 : Str := Vec.2.2.2.2.2.2.2.2.2.2.2.1
@[irreducible] noncomputable def n2 : Str := Vec.2.2.2.2.2.2.2.2.2.2.2.2.1
@[irreducible] noncomputable def l₀ : Ls := Vec.2.2.2.2.2.2.2.2.2.2.2.2.2
theorem core : Prp w C N r elts kk body a b x y n1 n2 l₀ := by
  unfold Prp
  intro l env ok tp pos iter Q hn hk hs ha hb hi hb' fin
  intro s hl hN
  refine wpAny_For (hi.run hl hN fun v h₁ tk₁ l₁ N₁ x₁ y₁ ⟨z, TI, TO, i1, i2, ev, el, zo, zi, kp⟩ => ?_) hs
  subst ev el
  refine wpAny_pyIter_zip (f0 := .none) (y₁ _ _ zi.pz).1 ?_
  have hz : ∀ c, (c = z ∨ c = TO ∨ c = i1 ∨ c = i2) → c ≠ C.L ∧ C.h₀.get? c = none := by
    rintro c (rfl | rfl | rfl | rfl)
    · exact ⟨(y₁ _ _ zi.pz).2.1, (y₁ _ _ zi.pz).2.2.1⟩
    · exact ⟨(y₁ _ _ zi.pto).2.1, (y₁ _ _ zi.pto).2.2.1⟩
    · exact ⟨(y₁ _ _ zi.pi1).2.1, (y₁ _ _ zi.pi1).2.2.1⟩
    · exact ⟨(y₁ _ _ zi.pi2).2.1, (y₁ _ _ zi.pi2).2.2.1⟩
  have offN : ∀ c o, N c = some o → c ≠ z ∧ c ≠ TI ∧ c ≠ TO ∧ c ≠ i1 ∧ c ≠ i2 := fun c o e =>
    ⟨(fun q => by rw [q, zo.pz] at e; cases e), (fun q => by rw [q, zo.pti] at e; cases e), (fun q => by rw [q, zo.pto] at e; cases e), (fun q => by rw [q, zo.pi1] at e; cases e), (fun q => by rw [q, zo.pi2] at e; cases e)⟩
  refine e0_5 (offN _ _ ha) ?_
  intro a1 a2 a3 a4 a5
  refine e0_5 (offN _ _ hb) ?_
  intro b1 b2 b3 b4 b5
  have D : ZipApart z TI TO i1 i2 a b := ⟨zo.n1.symm, zo.n2.symm, zo.n3.symm, zo.n4.symm, zo.n5, zo.n6, zo.n7, zo.n8, zo.n9, zo.n10, a1, a3, a4, a5, b1, b3, b4, b5⟩
  have S0 : ZipSt h₁ z TI TO i1 i2 a b 0 #[x] #[y] .none := ⟨(y₁ _ _ zi.pz).1, (y₁ _ _ zi.pti).1, ⟨_, _, (y₁ _ _ zi.pto).1⟩, ⟨_, (y₁ _ _ zi.pi1).1, rfl, rfl⟩, ⟨_, (y₁ _ _ zi.pi2).1, rfl, rfl⟩, ⟨_, (y₁ _ _ (kp _ _ ha (by first | exact nm0 | simp))).1, rfl, 0, rfl⟩, ⟨_, (y₁ _ _ (kp _ _ hb (by first | exact nm0 | simp))).1, rfl, 0, rfl⟩⟩
  have noErr : ∀ {α : Type} {t : Sem α} {R : α → Shared → Prop} {E : Value → Shared → Prop} {s : Shared}, wpAny (model PG w) C.A t R (fun _ _ => False) s → wpAny (model PG w) C.A t R E s := fun h => wpAny_mono h (fun _ _ x => x) fun _ _ e => e.elim
  refine codeAny_forLoop_any (fun n s' => ∃ h' tk' l', s' = { s with heap := h', toks := tk' } ∧ Loc C.h₀ C.L h' l' ∧ ((n = 1 ∧ h' = h₁ ∧ l' = l₁) ∨ (n = 0 ∧ ZipSt h' z TI TO i1 i2 a b 1 #[x] #[y] .none ∧ Has l₀ l' ∧ Led C.h₀ C.L h' N))) ?_ 1 ⟨h₁, tk₁, l₁, rfl, x₁, .inl ⟨rfl, rfl, rfl⟩⟩
  intro n s' hz_
  refine e3_3 hz_ ?_
  try clear hz_
  intro h' tk' l' hy3_ hl' hh
  subst hy3_
  rcases hh with ⟨rfl, rfl, rfl⟩ | ⟨rfl, S1, hhas, hNl⟩
  · refine zipT_item D S0 rfl rfl fun h₂ S2 hT hsz keep₂ => ?_
    have T1 : h'.objs.size ≠ z ∧ h'.objs.size ≠ TI ∧ h'.objs.size ≠ TO ∧ h'.objs.size ≠ i1 ∧ h'.objs.size ≠ i2 :=
      ⟨Nat.ne_of_gt (Heap.lt_size (y₁ _ _ zi.pz).1), Nat.ne_of_gt (Heap.lt_size (y₁ _ _ zi.pti).1), Nat.ne_of_gt (Heap.lt_size (y₁ _ _ zi.pto).1), Nat.ne_of_gt (Heap.lt_size (y₁ _ _ zi.pi1).1), Nat.ne_of_gt (Heap.lt_size (y₁ _ _ zi.pi2).1)⟩
    refine wpAny_letOwnedTupleGo_zip S2.z fun h₃ hz₃ hs₃ => ?_
    obtain ⟨t1, t2, ⟨p, q, t3⟩, ⟨oo1, t4, t4c, t4d⟩, ⟨oo2, t5, t5c, t5d⟩, t6, t7⟩ := S2
    have up : ∀ c o, c ≠ z → h₂.get? c = some o → h₃.get? c = some o := fun c o hc e => hs₃.extBut _ _ hc e
    let N₃ : Hl := fun c => if c = z then some (zipO TI TO .none) else if c = TI then some { cls := .type "tuple", data := .seq #[.ref i1, .ref i2] } else if c = TO then some { cls := .type "tuple", data := .seq #[p, q] } else if c = i1 then some oo1 else if c = i2 then some oo2 else if c = h'.objs.size then some (tupObj [x, y]) else N c
    have n3z : N₃ z = some (zipO TI TO .none) := if_pos rfl
    have n3ti : N₃ TI = some { cls := .type "tuple", data := .seq #[.ref i1, .ref i2] } := by show (if TI = z then _ else _) = _; rw [if_neg zo.n1.symm, if_pos rfl]
    have n3to : N₃ TO = some { cls := .type "tuple", data := .seq #[p, q] } := by show (if TO = z then _ else _) = _; rw [if_neg zo.n2.symm, if_neg zo.n5.symm, if_pos rfl]
    have n3i1 : N₃ i1 = some oo1 := by show (if i1 = z then _ else _) = _; rw [if_neg zo.n3.symm, if_neg zo.n6.symm, if_neg zo.n8.symm, if_pos rfl]
    have n3i2 : N₃ i2 = some oo2 := by show (if i2 = z then _ else _) = _; rw [if_neg zo.n4.symm, if_neg zo.n7.symm, if_neg zo.n9.symm, if_neg zo.n10.symm, if_pos rfl]
    have n3T : N₃ h'.objs.size = some (tupObj [x, y]) := by show (if h'.objs.size = z then _ else _) = _; rw [if_neg T1.1, if_neg T1.2.1, if_neg T1.2.2.1, if_neg T1.2.2.2.1, if_neg T1.2.2.2.2, if_pos rfl]
    have n3N : ∀ c o, N c = some o → N₃ c = some o := fun c o e => by
      refine e0_5 (offN c o e) ?_
      intro c1 c2 c3 c4 c5
      show (if c = z then _ else _) = _
      rw [if_neg c1, if_neg c2, if_neg c3, if_neg c4, if_neg c5, if_neg (Nat.ne_of_lt (Heap.lt_size (y₁ _ _ (kp _ _ e (by first | exact nm0 | simp))).1)), e]
    have hl3 : Loc C.h₀ C.L h₃ l' := hl'.off (S := [z, TO, i1, i2]) (fun c hc => hz c (by first | exact nm1 hc | exact nm1 (Ne.symm hc) | simpa using hc)) fun c o hc e => by
      simp only [List.mem_cons, List.not_mem_nil, or_false, not_or] at hc
      exact up c o hc.1 (keep₂ c o hc.1 hc.2.1 hc.2.2.1 hc.2.2.2 e)
    have hN3 : Led C.h₀ C.L h₃ N₃ := fun c o e => by
      by_cases c1 : c = z
      · subst c1; rw [n3z] at e; cases e; exact ⟨hz₃, (y₁ _ _ zi.pz).2⟩
      · by_cases c2 : c = TI
        · subst c2; rw [n3ti] at e; cases e; exact ⟨up _ _ D.TIz t2, (y₁ _ _ zi.pti).2⟩
        · by_cases c3 : c = TO
          · subst c3; rw [n3to] at e; cases e; exact ⟨up _ _ D.TOz t3, (y₁ _ _ zi.pto).2⟩
          · by_cases c4 : c = i1
            · subst c4; rw [n3i1] at e; cases e; exact ⟨up _ _ D.i1z t4, (y₁ _ _ zi.pi1).2⟩
            · by_cases c5 : c = i2
              · subst c5; rw [n3i2] at e; cases e; exact ⟨up _ _ D.i2z t5, (y₁ _ _ zi.pi2).2⟩
              · by_cases c6 : c = h'.objs.size
                · subst c6; rw [n3T] at e; cases e
                  have hfresh : C.h₀.get? h'.objs.size = none := by
                    cases qq : C.h₀.get? h'.objs.size with
                    | none => rfl
                    | some o' => exact absurd (Heap.lt_size (hl'.keep qq)) (Nat.lt_irrefl _)
                  refine ⟨up _ _ T1.1 hT, ?_, hfresh, Nat.lt_trans (y₁ _ _ zi.pz).2.2.2 (Heap.lt_size (y₁ _ _ zi.pz).1)⟩
                  refine e1_2 hl' ?_
                  try clear hl'
                  intro m Fm _
                  refine e3_2 Fm.ns ?_
                  intro oL _ _ hL _
                  exact Nat.ne_of_gt (Heap.lt_size hL)
                · have e' : N c = some o := by
                    have : N₃ c = N c := by show (if c = z then _ else _) = _; rw [if_neg c1, if_neg c2, if_neg c3, if_neg c4, if_neg c5, if_neg c6]
                    rw [← this]; exact e
                  have y := y₁ _ _ (kp _ _ e' (by first | exact nm0 | simp))
                  exact ⟨up _ _ c1 (keep₂ c o c1 c3 c4 c5 y.1), y.2⟩
    have bd := hb' N₃ (fun c o e _ => n3N c o e)
    refine noErr (SP.run (s := { s with heap := h₃, toks := tk' }) (SP_unpackT (Q := fun _ l₄ N₄ => SP w C (execs body env) l₄ N₄ (fun f l' N' => f = .next ∧ Has l₀ l' ∧ N' = N₃)) ok n3T hn hk rfl (by simpa only [bindAll] using bd)) hl3 hN3 fun _ h₄ tk₄ l₄ N₄ x₄ y₄ z₄ => ?_)
    refine noErr (z₄.run x₄ y₄ fun f h₅ tk₅ l₅ N₅ x₅ y₅ ⟨ef, hh5, eN⟩ => ?_)
    subst ef eN
    refine ⟨0, by omega, h₅, tk₅, l₅, rfl, x₅, .inr ⟨rfl, ⟨(y₅ _ _ n3z).1, (y₅ _ _ n3ti).1, ⟨_, _, (y₅ _ _ n3to).1⟩, ⟨_, (y₅ _ _ n3i1).1, t4c, t4d⟩, ⟨_, (y₅ _ _ n3i2).1, t5c, t5d⟩, ⟨_, (y₅ _ _ (n3N _ _ ha)).1, rfl, 0, rfl⟩, ⟨_, (y₅ _ _ (n3N _ _ hb)).1, rfl, 0, rfl⟩⟩, hh5, fun c o e => y₅ _ _ (n3N c o e)⟩⟩
  · refine zipT_end ok.hh D S1 rfl fun h₂ keep₂ => ?_
    have hl2 : Loc C.h₀ C.L h₂ l' := hl'.off (S := [z, TO, i1, i2]) (fun c hc => hz c (by first | exact nm1 hc | exact nm1 (Ne.symm hc) | simpa using hc)) fun c o hc e => by
      simp only [List.mem_cons, List.not_mem_nil, or_false, not_or] at hc
      exact keep₂ c o hc.1 hc.2.1 hc.2.2.1 hc.2.2.2 e
    refine wpAny_execs_nil (Po.intro hl2 (fun c o e => ?_) (fin l' hhas))
    refine e0_5 (offN c o e) ?_
    intro c1 c2 c3 c4 c5
    exact ⟨keep₂ c o c1 c3 c4 c5 (hNl _ _ e).1, (hNl _ _ e).2⟩
end SP_ForZip1_c
theorem SP_ForZip1 {w : World} {C : Cx} {l : Ls} {N : Hl} {env : Env} {r : Nat} (ok : Ok w C env r) {elts : List Expr} {kk : Nat} {tp pos : Pos} {iter : Expr} {body : List Stmt} {a b : Addr} {x y : Value} {n1 n2 : Str} {Q : Flow → Ls → Hl → Prop} (l₀ : Ls)
    (hn : namesOf elts = some [n1, n2]) (hk : ([n1, n2].all fun x => env.kindOf x == some .local) = true) (hs : ∀ x, foldedSetIterable iter env x = pure x)
    (ha : N a = some (tupObj [x])) (hb : N b = some (tupObj [y]))
    (hi : SP w C (eval iter env) l N (fun v l' N' => ∃ z TI TO i1 i2, v = .ref z ∧ l' = l ∧ ZipOff N z TI TO i1 i2 ∧ ZipIn N' z TI TO i1 i2 a b ∧ Keep [] N N'))
    (hb' : ∀ N2, Keep [] N N2 → SP w C (execs body env) ((n2, y) :: (n1, x) :: l) N2 (fun f l' N' => f = .next ∧ Has l₀ l' ∧ N' = N2))
    (fin : ∀ l' , Has l₀ l' → Q .next l' N) : SP w C (exec (.For (.Tuple elts kk tp) iter body [] pos) env) l N Q :=
  pickAll (P := fun q : World × Cx × Hl × Nat × List Expr × Nat × List Stmt × Addr × Addr × Value × Value × Str × Str × Ls => SP_ForZip1_c.Prp q.1 q.2.1 q.2.2.1 q.2.2.2.1 q.2.2.2.2.1 q.2.2.2.2.2.1 q.2.2.2.2.2.2.1 q.2.2.2.2.2.2.2.1 q.2.2.2.2.2.2.2.2.1 q.2.2.2.2.2.2.2.2.2.1 q.2.2.2.2.2.2.2.2.2.2.1 q.2.2.2.2.2.2.2.2.2.2.2.1 q.2.2.2.2.2.2.2.2.2.2.2.2.1 q.2.2.2.2.2.2.2.2.2.2.2.2.2) (aWorld 0, ⟨callerA, {}, 0⟩, fun _ => none, 0, [], 0, [], 0, 0, .none, .none, Str.empty, Str.empty, []) (by with_unfolding_all exact SP_ForZip1_c.core) (w, C, N, r, elts, kk, body, a, b, x, y, n1, n2, l₀) l env ok tp pos iter Q hn hk hs ha hb hi hb' fin
section
variable {w : World} {C : Cx} {l : Ls} {N : Hl} {env : Env} {r : Nat}
end
end
/-! part Sp9 -/
section
section
variable {w : World} {C : Cx} {l : Ls} {N : Hl} {env : Env} {r : Nat}
/-- the ledger tells that v reads as d -/
def RdN (N : Hl) (v : Value) (d : PyData) : Prop := ∀ h₀ h L, Led h₀ L h N → ∃ as, Reads h v d as
theorem RdN.int (n : Int) (t : Tok) : RdN N (.int n t) (.int n) := fun _ _ _ _ => ⟨_, .int n t⟩
theorem RdN.str (x : Str) (t : Tok) : RdN N (.str x t) (.str x) := fun _ _ _ _ => ⟨_, .str x t⟩
def RdAll (N : Hl) (vs : List Value) (ds : List PyData) : Prop := ∀ h₀ h L, Led h₀ L h N → ∃ as, ReadsAll h vs ds as
theorem RdAll.nil : RdAll N [] [] := fun _ _ _ _ => ⟨_, .nil⟩
theorem RdAll.cons {v : Value} {d : PyData} {vs : List Value} {ds : List PyData} (h : RdN N v d) (hs : RdAll N vs ds) : RdAll N (v :: vs) (d :: ds) := fun h₀ hp L hN => by
  refine e1_1 (h h₀ hp L hN) ?_
  intro as x
  refine e1_1 (hs h₀ hp L hN) ?_
  intro bs y
  exact ⟨_, .cons x y⟩
theorem RdAll.ints {vs : List Value} {ns : List Int} (h : IntsAre vs ns) : RdAll N vs (ns.map .int) := fun _ hp _ _ => ⟨_, h.reads hp⟩
theorem RdN.tup {a : Addr} {vs : List Value} {ds : List PyData} (e : N a = some (tupObj vs)) (h : RdAll N vs ds) : RdN N (.ref a) (.tuple ds) := fun h₀ hp L hN => by
  refine e1_1 (h h₀ hp L hN) ?_
  intro as x
  exact ⟨as, .tuple (vs := vs.toArray) (hN _ _ e).1 rfl rfl (by first | exact nm1 x | exact nm1 (Ne.symm x) | simpa using x)⟩
theorem RdN.list {a : Addr} {o : Obj} {vs : List Value} {ds : List PyData} (e : N a = some o) (lo : LO o vs) (h : RdAll N vs ds) : RdN N (.ref a) (.list ds) := fun h₀ hp L hN => by
  refine e1_1 (h h₀ hp L hN) ?_
  intro as x
  refine e0_2 lo ?_
  try clear lo
  intro hc hz0_
  refine e1_1 hz0_ ?_
  try clear hz0_
  intro n hd
  exact ⟨_, .list (vs := vs.toArray) (hN _ _ e).1 hc hd (by first | exact nm1 x | exact nm1 (Ne.symm x) | simpa using x)⟩
theorem RdN.tupI {a : Addr} {ns : List Int} (h : TupI N a ns) : RdN N (.ref a) (.tuple (ns.map .int)) := by
  refine e1_2 h ?_
  try clear h
  intro vs e i
  exact .tup e (.ints i)

theorem SP_eqR (ok : Ok w C env r) {x y : Value} {dx dy : PyData} {Q : Value → Ls → Hl → Prop} (hx : RdN N x dx) (hy : RdN N y dy) (cx : dx.canLay0 = true) (cy : dy.canLay0 = true) (hd : dx.depth ≤ 8) (h : Q (.bool (PyData.eqv dx dy)) l N) :
    SP w C (compareOp .Eq x y) l N Q := fun s hl hN => by
  refine e1_1 (hx _ _ _ hN) ?_
  intro as rx
  refine e1_1 (hy _ _ _ hN) ?_
  intro bs ry
  refine SeqAt.rcAt_reads rx ry cx cy ?_ PG w _ _ (Po.intro (tk' := s.toks) hl hN h)
  have := ok.hu; rw [cLine_is]; omega
theorem SP_neR (ok : Ok w C env r) {x y : Value} {dx dy : PyData} {Q : Value → Ls → Hl → Prop} (hx : RdN N x dx) (hy : RdN N y dy) (cx : dx.canLay0 = true) (cy : dy.canLay0 = true) (hd : dx.depth ≤ 8) (h : Q (.bool (!PyData.eqv dx dy)) l N) :
    SP w C (compareOp .NotEq x y) l N Q := fun s hl hN => by
  refine e1_1 (hx _ _ _ hN) ?_
  intro as rx
  refine e1_1 (hy _ _ _ hN) ?_
  intro bs ry
  refine SeqAt.rcNeAt_reads rx ry cx cy ?_ PG w _ _ (Po.intro (tk' := s.toks) hl hN h)
  have := ok.hu; rw [cLine_is]; omega
theorem canLay_it (ns : List Int) : (PyData.tuple (ns.map .int)).canLay0 = true := by rw [PyData.canLay0]; exact canLay_ints ns
theorem canLay_il (ns : List Int) : (PyData.list (ns.map .int)).canLay0 = true := by rw [PyData.canLay0]; exact canLay_ints ns
theorem depth_it (ns : List Int) : (PyData.tuple (ns.map .int)).depth ≤ 8 := by have := depth_ints ns; rw [PyData.depth]; omega
theorem depth_il (ns : List Int) : (PyData.list (ns.map .int)).depth ≤ 8 := by have := depth_ints ns; rw [PyData.depth]; omega
theorem eqv_it (a b : List Int) : PyData.eqv (.tuple (a.map .int)) (.tuple (b.map .int)) = decide (a = b) := by rw [PyData.eqv]; exact eqvAll_ints a b
theorem eqv_il (a b : List Int) : PyData.eqv (.list (a.map .int)) (.list (b.map .int)) = decide (a = b) := by rw [PyData.eqv]; exact eqvAll_ints a b
theorem SP_eqT (ok : Ok w C env r) {a b : Addr} {ns ms : List Int} {Q : Value → Ls → Hl → Prop} (ha : TupI N a ns) (hb : TupI N b ms) (h : Q (.bool (decide (ns = ms))) l N) : SP w C (compareOp .Eq (.ref a) (.ref b)) l N Q :=
  SP_eqR ok (.tupI ha) (.tupI hb) (canLay_it _) (canLay_it _) (depth_it _) (by rw [eqv_it]; exact h)
theorem SP_neT (ok : Ok w C env r) {a b : Addr} {ns ms : List Int} {Q : Value → Ls → Hl → Prop} (ha : TupI N a ns) (hb : TupI N b ms) (h : Q (.bool (!decide (ns = ms))) l N) : SP w C (compareOp .NotEq (.ref a) (.ref b)) l N Q :=
  SP_neR ok (.tupI ha) (.tupI hb) (canLay_it _) (canLay_it _) (depth_it _) (by rw [eqv_it]; exact h)
theorem SP_neLI (ok : Ok w C env r) {a b : Addr} {oa ob : Obj} {us vs : List Value} {ns ms : List Int} {Q : Value → Ls → Hl → Prop} (ha : N a = some oa) (la : LO oa us) (hi : IntsAre us ns) (hb : N b = some ob) (lb : LO ob vs) (hj : IntsAre vs ms) (h : Q (.bool (!decide (ns = ms))) l N) : SP w C (compareOp .NotEq (.ref a) (.ref b)) l N Q :=
  SP_neR ok (.list ha la (.ints hi)) (.list hb lb (.ints hj)) (canLay_il _) (canLay_il _) (depth_il _) (by rw [eqv_il]; exact h)
end
end
/-! part Pu1 -/
section
abbrev sNot : Str := Str.ofString "not"
abbrev sAnd : Str := Str.ofString "and"
abbrev sOr : Str := Str.ofString "or"
abbrev sEq : Str := Str.ofString "="
abbrev sXor : Str := Str.ofString "xor"
abbrev sImp : Str := Str.ofString "=>"
abbrev sDis : Str := Str.ofString "distinct"
abbrev sIte : Str := Str.ofString "ite"
abbrev sApp : Str := Str.ofString "app"

theorem okNot : PyData.strOk sNot = true := by decide +kernel
theorem okAnd : PyData.strOk sAnd = true := by decide +kernel
theorem okOr : PyData.strOk sOr = true := by decide +kernel
theorem okEq : PyData.strOk sEq = true := by decide +kernel
theorem okXor : PyData.strOk sXor = true := by decide +kernel
theorem okImp : PyData.strOk sImp = true := by decide +kernel
theorem okDis : PyData.strOk sDis = true := by decide +kernel
theorem okIte : PyData.strOk sIte = true := by decide +kernel
theorem okApp : PyData.strOk sApp = true := by decide +kernel
def ent1 (rows : Rws) (k : Sh) : Int × Rws := (num (ent rows k) k, ent rows k)
def rowOf (rows : Rws) (t : Int) : Option Sh := rows[(t - 1).toNat]?
def denied (rows : Rws) (t : Int) : Int × Rws :=
  if t < 3 then (3 - t, rows) else match rowOf rows t with
  | some k => if k.op = sNot then (k.args.headD 0, rows) else ent1 rows ⟨sNot, [t], 0, 0⟩
  | none => (0, rows)
def alike (rows : Rws) (a b : Int) : Int × Rws := if a = b then (1, rows) else ent1 rows ⟨sEq, [min a b, max a b], 0, 0⟩
def few (name : Str) : List Int → Int
  | [x] => x
  | _ => if name = sAnd then 1 else 2
def due (rows : Rws) (name : Str) (ends : List Int) (kind label : Int) : Int × Rws :=
  if name = sNot then denied rows (ends.headD 0)
  else if (name = sAnd ∨ name = sOr) ∧ ends.length < 2 then (few name ends, rows)
  else if name = sEq then alike rows (ends.headD 0) (ends.getD 1 0)
  else ent1 rows ⟨name, ends, kind, label⟩

section
variable {w : World} {C : Cx} {α β : Type} {l : Ls} {N N' : Hl} {env : Env} {r : Nat}
theorem BookIn.row {B : BkA} {rows : Rws} (h : BookIn w N B rows) : ∃ n ks, N B.r = some (lst ks n) ∧ ks.length = rows.length ∧ ∀ (i : Nat) k, rows[i]? = some k → ∃ a, ks[i]? = some (.ref a) ∧ KeyT N a k ∧ OpOk k := by
  refine e1_2 h ?_
  try clear h
  intro xs hy1_ hy2_
  obtain ⟨_, _, ⟨n, hr⟩, hd, _⟩ := hy1_
  subst hy2_
  refine ⟨n, _, hr, by simp, fun i k e => ?_⟩
  rw [List.getElem?_map] at e
  refine e1_2 (Option.map_eq_some_iff.mp e) ?_
  intro x hx hy2_
  subst hy2_
  refine e3_6 hd ?_
  try clear hd
  intro _ _ _ _ _ _ _ hk _
  exact ⟨x.2.1, by rw [List.getElem?_map, hx]; rfl, hk x (List.mem_of_getElem? hx)⟩
theorem BookIn.dicB {B : BkA} {rows : Rws} (h : BookIn w N B rows) : DicF (SK w) N B.b (bookF B) := by obtain ⟨xs, ⟨_, h, _⟩, _⟩ := h; exact h
theorem BookIn.new {B : BkA} {rows : Rws} (h : BookIn w N B rows) {q : Addr} {o : Obj} (hq : N q = none) : BookIn w (upd N q o) B rows := h.keep fun a o e _ => upd_old e hq

/-! «in» a tuple of texts, a list of ints -/
def strIs (x : Str) : Value → Bool
  | .str y _ => y == x
  | _ => false
def intIs (x : Int) : Value → Bool
  | .int y _ => y == x
  | _ => false
theorem strs_mem {y : Value} : ∀ {vs : List Value} {ys : List Str}, StrsAre vs ys → y ∈ vs → ∃ z u, y = .str z u
  | _, _, .cons z u h, hm => by
    cases hm with
    | head => exact ⟨z, u, rfl⟩
    | tail _ hm => exact strs_mem h hm
theorem strs_any (x : Str) : ∀ {vs : List Value} {ys : List Str}, StrsAre vs ys → vs.any (strIs x) = ys.contains x
  | _, _, .nil => rfl
  | _, _, .cons z u h => by
    rw [List.any_cons, List.contains_cons, strs_any x h]
    show (z == x || _) = _
    by_cases hzx : z = x
    · subst hzx; simp
    · rw [beq_false_of_ne hzx, beq_false_of_ne (Ne.symm hzx)]
theorem ints_any (x : Int) : ∀ {vs : List Value} {ys : List Int}, IntsAre vs ys → vs.any (intIs x) = ys.contains x
  | _, _, .nil => rfl
  | _, _, .cons z u h => by
    rw [List.any_cons, List.contains_cons, ints_any x h]
    show (z == x || _) = _
    by_cases hzx : z = x
    · subst hzx; simp
    · rw [beq_false_of_ne hzx, beq_false_of_ne (Ne.symm hzx)]
theorem SP_inStrs {a : Addr} {vs : List Value} {ys : List Str} {x : Str} {t : Tok} {Q : Value → Ls → Hl → Prop} (e : N a = some (tupObj vs)) (hs : StrsAre vs ys) (h : Q (.bool (ys.contains x)) l N) : SP w C (compareOp .In (.str x t) (.ref a)) l N Q := fun s hl hN => by
  refine SeqAt.in_tupleAt (strIs x) (isTup_at (hN _ _ e).1) (fun y hy => ?_) ?_
  · refine e2_1 (strs_mem hs (by first | exact nm1 hy | exact nm1 (Ne.symm hy) | simpa using hy)) ?_
    intro z u hy2_
    subst hy2_
    exact SeqAt.EqAt.str_str z u x t
  · rw [List.any_toArray, strs_any x hs]
    exact Po.intro (tk' := s.toks) hl hN h
theorem SP_notInStrs {a : Addr} {vs : List Value} {ys : List Str} {x : Str} {t : Tok} {Q : Value → Ls → Hl → Prop} (e : N a = some (tupObj vs)) (hs : StrsAre vs ys) (h : Q (.bool (!ys.contains x)) l N) : SP w C (compareOp .NotIn (.str x t) (.ref a)) l N Q := fun s hl hN => by
  refine SeqAt.notIn_tupleAt (strIs x) (isTup_at (hN _ _ e).1) (fun y hy => ?_) ?_
  · refine e2_1 (strs_mem hs (by first | exact nm1 hy | exact nm1 (Ne.symm hy) | simpa using hy)) ?_
    intro z u hy2_
    subst hy2_
    exact SeqAt.EqAt.str_str z u x t
  · rw [List.any_toArray, strs_any x hs]
    exact Po.intro (tk' := s.toks) hl hN h
theorem SP_notInInts {a : Addr} {o : Obj} {vs : List Value} {ns : List Int} {x : Int} {t : Tok} {Q : Value → Ls → Hl → Prop} (e : N a = some o) (lo : LO o vs) (hs : IntsAre vs ns) (h : Q (.bool (!ns.contains x)) l N) : SP w C (compareOp .NotIn (.int x t) (.ref a)) l N Q := fun s hl hN => by
  refine SeqAt.notIn_listAt (intIs x) (isList_at (hN _ _ e).1 lo) (fun y hy => ?_) ?_
  · refine e2_1 (hs.all y (by first | exact nm1 hy | exact nm1 (Ne.symm hy) | simpa using hy)) ?_
    intro z u hy2_
    subst hy2_
    exact SeqAt.EqAt.int_int z u x t
  · rw [List.any_toArray, ints_any x hs]
    exact Po.intro (tk' := s.toks) hl hN h
end
end
/-! part Rv -/
section
theorem owner_rv : Manifest.owners.lookup (String.ofList ['d', 'e', 's', 'r', 'e', 'v', 'e', 'r'].reverse) = some Manifest.sig_reversed := by kernel_rfl
theorem slot_rv_next : Slot "reversed" "__next__" "reversed.__next__" :=
  .of (owner := "reversed") (n := "__next__") (by rw [typeLookup_type, builtinLookup_eq_fast]; kernel_rfl) (by decide +kernel) (by decide +kernel) (by decide +kernel)
    (by first | exact .inl (by decide +kernel) | exact .inr (by decide +kernel)) (by rw [isSubtype_type]; kernel_rfl)
theorem entry_rv_next : entryFor table "reversed.__next__" = some Builtin.«reversed.__next__» := entryFor_of_tree (by kernel_rfl)
theorem args_rv_next_1 (a : Value) : argsOk "reversed.__next__" ⟨[a], []⟩ := by
  unfold argsOk; rw [signature?_of (id := "reversed.__next__") (n := ['_', '_', 't', 'x', 'e', 'n', '_', '_']) (o := ['d', 'e', 's', 'r', 'e', 'v', 'e', 'r']) (by kernel_rfl) owner_rv]; kernel_rfl
theorem slot_rv_iter : Slot "reversed" "__iter__" "reversed.__iter__" :=
  .of (owner := "reversed") (n := "__iter__") (by rw [typeLookup_type, builtinLookup_eq_fast]; kernel_rfl) (by decide +kernel) (by decide +kernel) (by decide +kernel)
    (by first | exact .inl (by decide +kernel) | exact .inr (by decide +kernel)) (by rw [isSubtype_type]; kernel_rfl)
theorem args_rv_iter_1 (a : Value) : argsOk "reversed.__iter__" ⟨[a], []⟩ := by
  unfold argsOk; rw [signature?_of (id := "reversed.__iter__") (n := ['_', '_', 'r', 'e', 't', 'i', '_', '_']) (o := ['d', 'e', 's', 'r', 'e', 'v', 'e', 'r']) (by kernel_rfl) owner_rv]; kernel_rfl
theorem entry_rv_iter : entryFor table "reversed.__iter__" = some Builtin.«dict_keyiterator.__iter__» :=
  entryFor_alias (id' := "dict_keyiterator.__iter__") (by kernel_rfl) (by first | rfl | decide +kernel | (unfold String.splitOn; simp +decide [String.splitOnAux])) (by decide +kernel) (by kernel_rfl)
theorem slot_rv_init : Slot "reversed" "__init__" "object.__init__" :=
  .of (owner := "object") (n := "__init__") (by rw [typeLookup_type, builtinLookup_eq_fast]; kernel_rfl) (by decide +kernel) (by decide +kernel) (by decide +kernel)
    (by first | exact .inl (by decide +kernel) | exact .inr (by decide +kernel)) (by rw [isSubtype_type]; kernel_rfl)
theorem called_rv : TypeCalled "reversed" "reversed.__new__" "object.__init__" :=
  ⟨by decide +kernel, by decide +kernel, ⟨_, _, F.mro_reversed⟩, F.made_reversed, by decide +kernel, by rw [isSubtype_type]; kernel_rfl, slot_rv_init⟩
theorem norev_tuple : typeLookup (.type "tuple") "__reversed__" = pure none := by rw [typeLookup_type, builtinLookup_eq_fast]; kernel_rfl
theorem args_object_init_2' (a b : Value) : argsOk "object.__init__" ⟨[a, b], []⟩ := by
  unfold argsOk; rw [signature?_of (id := "object.__init__") (n := ['_', '_', 't', 'i', 'n', 'i', '_', '_']) (o := ['t', 'c', 'e', 'j', 'b', 'o']) (by kernel_rfl) F.owner_object]; kernel_rfl
end
/-! part Rv2 -/
section
def rvO (t : Addr) (i : Int) : Obj := { cls := .type "reversed", data := .fields #[.ref t, rawInt i] }
section
variable {w : World} {A : Around} {E : Value → Shared → Prop} {s : Shared}
theorem notInst_tup_dict : isSubtype (.type "tuple") (.type "dict") = pure false := by rw [isSubtype_type]; kernel_rfl
theorem revT_new (t : Addr) (xs : Array Value) (hz : (xs.size : Int) < 2 ^ 63) :
    MeetsIn PG w (Builtin.«reversed.__new__» ⟨[.type "reversed", .ref t], []⟩) (fun _ R s => IsTup s.heap t xs ∧
      (∀ tk, R (.ok (.ret (.ref s.heap.objs.size))) { s with heap := s.heap.push (rvO t ((xs.size : Int) - 1)), toks := tk })) :=
  .of_wp fun A R s ⟨ht, h⟩ => by
    unfold Builtin.«reversed.__new__»
    refine wpAny_bind (wpAny_of_eq (newClass_reversed _) ?_)
    try dsimp only
    refine wpAny_bind (wpAny_of_eq (a := ()) (by first | rfl | kernel_rfl) ?_)
    refine wpAny_bind (wpAny_of_eq (a := ()) (by first | rfl | kernel_rfl) ?_)
    try dsimp only
    refine wpAny_bind (wpAny_specialOf ht.typeIs norev_tuple ?_)
    try dsimp only
    refine wpAny_bind ?_
    refine wpAny_bind (wpAny_isInstance ht.typeIs notInst_tup_dict ?_)
    simp only [Bool.false_eq_true, if_false]
    refine wpAny_bind (wpAny_specialOf ht.typeIs F.slot_tuple_getitem.lookup ?_)
    try dsimp only
    rw [if_pos (by decide +kernel)]
    refine wpAny_pure ?_
    simp only [Bool.not_true, Bool.false_eq_true, if_false]
    refine wpAny_bind (m := call (.builtin "len") [.ref t]) (PyProof.Rows.len_tuple ht hz ?_)
    refine wpAny_bind (m := asInt? _) (wpAny_of_eq (a := some (xs.size : Int)) rfl ?_)
    try dsimp only
    refine wpAny_bind (m := Builtin.SmallTypes.newRecord _ _) ?_
    simp only [Builtin.SmallTypes.newRecord]
    refine wpAny_newObj_type ?_ (by size_fits)
    exact wpAny_pure ⟨_, rfl, h _⟩

theorem revT_item {it t : Addr} {i : Nat} {xs : Array Value} {x : Value} {Q : Option Value → Shared → Prop} (hne : t ≠ it) (hit : s.heap.get? it = some (rvO t (i : Int))) (ht : IsTup s.heap t xs) (hx : xs[i]? = some x) (hz : (xs.size : Int) < 2 ^ 63)
    (hQ : ∀ h' tk, h'.get? it = some (rvO t ((i : Int) - 1)) → Heap.SameBut it s.heap h' → Q (some x) { s with heap := h', toks := tk }) : wpAny (model PG w) A (pyNext (.ref it)) Q E s := by
  have hT : s.TypeIs (.ref it) "reversed" := ⟨_, hit, rfl⟩
  have hi : i < xs.size := (Array.getElem?_eq_some_iff.mp hx).1
  unfold pyNext
  refine wpAny_bind (wpAny_attempt (wpAny_callSpecial?_slot (name := Str.ofString "__next__") hT slot_rv_next
    (wpAny_call_entry slot_rv_next hT entry_rv_next ?_ (args_rv_next_1 _))))
  unfold Builtin.«reversed.__next__»
  refine wpAny_bind (wpAny_of_eq (a := (Value.ref it, [])) rfl ?_)
  try dsimp only
  refine wpAny_bind (wpAny_field hit rfl (x := .ref t) rfl ?_)
  refine wpAny_bind (wpAny_field hit rfl (x := rawInt (i : Int)) rfl ?_)
  show wpAny _ _ (if (i : Int) < 0 then _ else _) _ _ s
  rw [if_neg (by first | exact Nat.le_refl _ | exact leK rfl | omega)]
  refine wpAny_bind (m := specialOf _ _) (wpAny_specialOf ht.typeIs F.slot_tuple_getitem.lookup ?_)
  simp only [Option.isNone_some, Bool.false_eq_true, if_false]
  refine wpAny_bind (m := mkInt _) ?_
  refine wpAny_mkInt ?_
  refine wpAny_bind (m := (getItem _ _).attempt) (wpAny_attempt (getItem_tuple ht (by first | exact Nat.le_refl _ | exact leK rfl | omega) (by first | exact Nat.le_refl _ | exact leK rfl | omega) (seqIndex_of (by first | exact Nat.le_refl _ | exact leK rfl | omega) (by first | exact Nat.le_refl _ | exact leK rfl | omega)) (by first | exact nm1 hx | exact nm1 (Ne.symm hx) | simpa using hx) ?_))
  try dsimp only
  refine wpAny_bind (wpAny_field hit rfl (x := rawInt (i : Int)) rfl ?_)
  show wpAny _ _ (setField _ _ _ >>= _) _ _ _
  refine wpAny_bind (wpAny_setField hit rfl (by simp) ?_)
  refine wpAny_pure ⟨x, rfl, wpAny_pure (hQ _ _ ?_ (Heap.SameBut.update ..))⟩
  rw [Heap.get?_update_self _ hit rfl]
  simp [rvO, Obj.mapFields, rawInt]

end
namespace revT_end_c
def P (w : World) (it : Addr) (t : Addr) : Prop := ∀ (A : Around) (E : Value → Shared → Prop) (s : Shared) (Q : Option Value → Shared → Prop) (hh : A.handled = none) (hit : s.heap.get? it = some (rvO t (-1))) (hQ : ∀ h', Heap.ExtBut it s.heap h' → Q none { s with heap := h' }), wpAny (model PG w) A (pyNext (.ref it)) Q E s
noncomputable def V : World × Addr × Addr := pick (aWorld 0, 0, 0) fun q => P q.1 q.2.1 q.2.2
@[irreducible] noncomputable def w : World := V.1
@[irreducible] noncomputable def it : Addr := V.2.1
@[irreducible] noncomputable def t : Addr := V.2.2
theorem core : P w it t := by
  unfold P
  intro A E s Q hh hit hQ
  have hT : s.TypeIs (.ref it) "reversed" := ⟨_, hit, rfl⟩
  unfold pyNext
  refine wpAny_bind (wpAny_attempt (wpAny_callSpecial?_slot (name := Str.ofString "__next__") hT slot_rv_next
    (wpAny_call_entry slot_rv_next hT entry_rv_next ?_ (args_rv_next_1 _))))
  unfold Builtin.«reversed.__next__»
  refine wpAny_bind (wpAny_of_eq (a := (Value.ref it, [])) rfl ?_)
  try dsimp only
  refine wpAny_bind (wpAny_field hit rfl (x := .ref t) rfl ?_)
  refine wpAny_bind (wpAny_field hit rfl (x := rawInt (-1 : Int)) rfl ?_)
  show wpAny _ _ (if (-1 : Int) < 0 then _ else _) _ _ s
  rw [if_pos (by decide)]
  refine wpAny_bind (wpAny_rule ?_)
  refine wpAny_bind ?_
  refine wpAny_bind (m := setField _ _ _) (wpAny_setField hit rfl (by simp) ?_)
  refine wpAny_setField (Heap.get?_update_self _ hit rfl) (by simp [rvO, Obj.mapFields]; rfl) (by simp) ?_
  refine wpAny_bind ?_
  show wpAny _ _ (newExc (.type "StopIteration") [] >>= _) _ _ _
  refine wpAny_bind ?_
  simp only [newExc, newTuple]
  refine wpAny_bind (wpAny_newObj_type ?_ (by size_fits))
  refine wpAny_bind (m := firstArgMember _ _) (wpAny_of_eq (a := Value.none) (by first | rfl | (simp only [firstArgMember]; rfl)) ?_)
  refine wpAny_newObj_type ?_ (by size_fits)
  simp only [raiseNew]
  refine wpAny_bind (wpAny_handled ?_)
  first | rw [show A.in1.handled = none from hh] | rw [hh]
  refine wpAny_bind (wpAny_pure (wpAny_throw ?_))
  refine wpAny_bind (wpAny_isInstance (T := "StopIteration") (b := true) ⟨_, Heap.get?_push_size _ rfl, rfl⟩ isSubtype_stop ?_)
  exact wpAny_pure (hQ _ ((((Heap.SameBut.update ..).extBut.trans (Heap.SameBut.update ..).extBut).push _).push _))
end revT_end_c
theorem revT_end {w : World} {A : Around} {E : Value → Shared → Prop} {s : Shared} {it t : Addr} {Q : Option Value → Shared → Prop} (hh : A.handled = none) (hit : s.heap.get? it = some (rvO t (-1)))
    (hQ : ∀ h', Heap.ExtBut it s.heap h' → Q none { s with heap := h' }) : wpAny (model PG w) A (pyNext (.ref it)) Q E s :=
  pickAll (P := fun q : World × Addr × Addr => revT_end_c.P q.1 q.2.1 q.2.2) (aWorld 0, 0, 0) (by with_unfolding_all exact revT_end_c.core) (w, it, t) A E s Q hh hit hQ
section
variable {w : World} {A : Around} {E : Value → Shared → Prop} {s : Shared}
theorem revT_iter {it t : Addr} {i : Int} {Q : Value → Shared → Prop} (hit : s.heap.get? it = some (rvO t i)) (h : Q (.ref it) s) : wpAny (model PG w) A (pyIter (.ref it)) Q E s := by
  have hT : s.TypeIs (.ref it) "reversed" := ⟨_, hit, rfl⟩
  refine wpAny_pyIter_slot hT slot_rv_iter (wpAny_call_entry slot_rv_iter hT entry_rv_iter ?_ (args_rv_iter_1 _))
  show wpAny _ _ (ret (.ref it)) _ _ s
  exact wpAny_pure ⟨_, rfl, "reversed", _, hT, slot_rv_next.lookup, h⟩
theorem revT_call {t : Addr} {xs : Array Value} {Q : Value → Shared → Prop} (ht : IsTup s.heap t xs) (hz : (xs.size : Int) < 2 ^ 63)
    (h : ∀ tk, Q (.ref s.heap.objs.size) { s with heap := s.heap.push (rvO t ((xs.size : Int) - 1)), toks := tk }) : wpAny (model PG w) A (call (.type "reversed") [.ref t]) Q E s :=
  callType_newIn called_rv (by decide) (F.typeCall_reversed_1 _) (F.newCall_reversed_1 _) (fun obj => args_object_init_2' obj _) F.entry_reversed_new (revT_new t xs hz) ⟨ht, fun tk => ⟨⟨_, Heap.get?_push_size _ rfl, rfl⟩, h tk⟩⟩
end
end
/-! part Sp10 -/
section
section
variable {w : World} {C : Cx} {α β : Type} {l : Ls} {N N' : Hl} {env : Env} {r : Nat}

/-! two displays stored at once -/
theorem SP_AssignSwap2 (ok : Ok w C env r) {elts : List Expr} {k : Nat} {tpos pos : Pos} {value : Expr} {x y : Str} {Q : Flow → Ls → Hl → Prop} (hx : env.kindOf x = some .local) (hy : env.kindOf y = some .local)
    (h : SP w C (eval value env) l N (fun v l' N' => ∃ q u z, v = .ref q ∧ N' q = some (tupObj [u, z]) ∧ Q .next ((x, u) :: (y, z) :: l') N'))
    (hs : swapsWithSole [.Tuple elts k tpos] value pos.line env = pure false := by rfl)
    (hw : swappedStores [.Tuple elts k tpos] value env = pure (some [x, y]) := by rfl) : SP w C (exec (.Assign [.Tuple elts k tpos] value pos) env) l N Q := fun s hl hN => by
  refine Assign_Tuple_swapped (h.run hl hN fun v h₁ tk₁ l₁ N₁ x₁ y₁ z₁ => ?_) hs hw
  refine e3_3 z₁ ?_
  intro q u z hy3_ e hq
  subst hy3_
  refine unpackItems_tuple (items := #[u, z]) ok.hh (isTup_at (y₁ _ _ e).1) fun h' hs' => ?_
  show wpAny _ _ (assignInOrder [bindName env y, bindName env x] [z, u]) _ _ _
  refine assignInOrder_cons (bindName_ ((SP_store (l := l₁) (N := N₁) ok hy (Q := fun _ l' N' => SP w C (assignInOrder [bindName env x] [u]) l' N' (fun _ => Q .next)) ?_).run (s := { s with heap := h', toks := tk₁ }) (x₁.fresh hs') (y₁.fresh' hs') fun _ _ _ _ _ a b c => c.go a b))
  intro s₂ hl₂ hN₂
  refine assignInOrder_cons (bindName_ ((SP_store ok hx (Q := fun _ l' N' => SP w C (assignInOrder [] []) l' N' (fun _ => Q .next)) ?_).run hl₂ hN₂ fun _ _ _ _ _ a b c => c.go a b))
  intro s₃ hl₃ hN₃
  exact assignInOrder_nil (Po.intro (tk' := s₃.toks) hl₃ hN₃ hq)

/-! dicts keyed by ints, their keys in order -/
def DicI (w : World) (N : Hl) (d : Addr) (ks : List Int) : Prop := ∃ o kvs, N d = some o ∧ o.IsDictOf (IK w) kvs ∧ kvs.map (·.1) = ks
theorem DicI.of {d : Addr} {ks : List Int} {h₀ h : Heap} {L : Addr} (x : DicI w N d ks) (hN : Led h₀ L h N) : ∃ kvs, h.DictOf (IK w) d kvs ∧ kvs.map (·.1) = ks :=
  let ⟨o, kvs, e, a, b⟩ := x; ⟨kvs, Heap.dictOf_iff.mpr ⟨o, (hN _ _ e).1, a⟩, b⟩
theorem DicI.keep {d : Addr} {ks : List Int} (x : DicI w N d ks) (h : ∀ o, N d = some o → N' d = some o) : DicI w N' d ks := let ⟨o, kvs, e, a⟩ := x; ⟨o, kvs, h o e, a⟩
theorem DicI.get {d : Addr} {ks : List Int} (x : DicI w N d ks) : ∃ o, N d = some o ∧ o.cls = .type "dict" := by
  obtain ⟨o, kvs, e, ⟨es, ep, a, _⟩, _⟩ := x; exact ⟨o, e, a.1⟩
theorem valueAt_keys {kvs : List (Int × Value)} {k : Int} : (valueAt kvs k).isSome = (kvs.map (·.1)).contains k := by
  rw [valueAt_isSome_eq_any]
  induction kvs with
  | nil => rfl
  | cons p r ih =>
    rw [List.any_cons, ih, List.map_cons, List.contains_cons]
    congr 1
    by_cases e : p.1 = k
    · rw [e, decide_eq_true rfl, beq_self_eq_true]
    · rw [decide_eq_false e, beq_false_of_ne (fun h => e h.symm)]
theorem SP_newDict {pos : Pos} {Q : Value → Ls → Hl → Prop} (h : ∀ q o, N q = none → o.IsDictOf (IK w) [] → o.IsDictOf (SK w) [] → o.cls = .type "dict" → o = { cls := .type "dict", data := .dict #[] } → Q (.ref q) l (upd N q o)) : SP w C (eval (.Dict [] [] pos) env) l N Q := fun s hl hN => by
  have hI : ∀ {K : Type} [DecidableEq K] (knd : KeyKind PG w K), Obj.IsDictOf knd { cls := .type "dict", data := .dict #[] } [] := fun {K} _ knd => by
    refine e1_2 (Heap.dictOf_iff.mp (Heap.DictOf.new (knd := knd) s.heap)) ?_
    intro o ho hd
    rw [Heap.get?_push_size _ rfl] at ho
    exact (Option.some.inj ho) ▸ hd
  exact wpAny_Dict_empty (Po.intro (tk' := s.toks) (hl.push _) (hN.push hl _) (h _ _ hN.fresh (hI _) (hI _) rfl rfl))
theorem SP_kIn {d : Addr} {x : Int} {t : Tok} {ks : List Int} {Q : Value → Ls → Hl → Prop} (h : DicI w N d ks) (hq : Q (.bool (ks.contains x)) l N) : SP w C (compareOp .In (.int x t) (.ref d)) l N Q := fun _ hl hN => by
  refine e1_2 h.get ?_
  intro _ e _
  refine e1_2 (h.of hN) ?_
  intro kvs hk hy2_
  subst hy2_
  exact wpAny_in_of (intKind_is PG w x t) (lo_of hN e) hk.mapOf (Po.intro hl hN (by rw [valueAt_keys]; exact hq))
theorem SP_kNotIn {d : Addr} {x : Int} {t : Tok} {ks : List Int} {Q : Value → Ls → Hl → Prop} (h : DicI w N d ks) (hq : Q (.bool (!(ks.contains x))) l N) : SP w C (compareOp .NotIn (.int x t) (.ref d)) l N Q := fun _ hl hN => by
  refine e1_2 h.get ?_
  intro _ e _
  refine e1_2 (h.of hN) ?_
  intro kvs hk hy2_
  subst hy2_
  exact wpAny_notIn_of (intKind_is PG w x t) (lo_of hN e) hk.mapOf (Po.intro hl hN (by rw [valueAt_keys]; exact hq))
theorem SP_kSet {d : Addr} {x : Int} {t : Tok} {v : Value} {ks : List Int} {Q : Unit → Ls → Hl → Prop} (h : DicI w N d ks) (hx : x ∉ ks) (hz : ks.length ≤ sizeLine) (hq : ∀ o', o'.cls = .type "dict" → DicI w (upd N d o') d (ks ++ [x]) → Q () l (upd N d o')) : SP w C (setItem (.ref d) (.int x t) v) l N Q := fun s hl hN => by
  refine e1_2 h.get ?_
  intro o e _
  refine e1_2 (h.of hN) ?_
  intro kvs hk hy2_
  subst hy2_
  refine wpAny_setItem_pairs (intKind_is PG w x t) hk (fun h' hm hs => ?_) (by first | exact nm1 hz | exact nm1 (Ne.symm hz) | simpa using hz)
  have hv : valueAt kvs x = none := by
    cases q : valueAt kvs x with
    | none => rfl
    | some u =>
      have := valueAt_keys (kvs := kvs) (k := x)
      rw [q] at this
      exact absurd (by first | exact nm1 this.symm | exact nm1 (Ne.symm this.symm) | simpa using this.symm) hx
  rw [stored_absent hv] at hm
  refine e1_2 (Heap.dictOf_iff.mp hm) ?_
  intro o' ho' hd'
  exact Po.intro (hl.same hs (hN _ _ e).2.1 (hN _ _ e).2.2.1) (hN.upd e hs ho') (hq o' (by obtain ⟨_, _, a, _⟩ := hd'; exact a.1) ⟨o', _, upd_self .., hd', by simp⟩)

/-! while -/
def WhEnd (Q : Flow → Ls → Hl → Prop) (J : Nat → Ls → Hl → Prop) (n : Nat) (f : Flow) (l : Ls) (N : Hl) : Prop := match f with
  | .ret v => Q (.ret v) l N
  | .brk => False
  | _ => ∃ m, m < n ∧ J m l N
theorem WhEnd.next {Q : Flow → Ls → Hl → Prop} {J : Nat → Ls → Hl → Prop} {n : Nat} (m : Nat) (h : m < n) (j : J m l N) : WhEnd Q J n .next l N := ⟨m, h, j⟩
theorem WhEnd.cont {Q : Flow → Ls → Hl → Prop} {J : Nat → Ls → Hl → Prop} {n : Nat} (m : Nat) (h : m < n) (j : J m l N) : WhEnd Q J n .cont l N := ⟨m, h, j⟩
theorem SP_While {test : Expr} {body : List Stmt} {pos : Pos} {Q : Flow → Ls → Hl → Prop} (J : Nat → Ls → Hl → Prop) (n : Nat) (h0 : J n l N)
    (turn : ∀ n l N, J n l N → SP w C (isTrue test env (eval test env)) l N (fun b l' N' => Br b (SP w C (execs body env) l' N' (WhEnd Q J n)) (Q .next l' N'))) : SP w C (exec (.While test body [] pos) env) l N Q := by
  intro s hl hN
  have noErr : ∀ {α : Type} {t : Sem α} {R : α → Shared → Prop} {E : Value → Shared → Prop} {s : Shared}, wpAny (model PG w) C.A t R (fun _ _ => False) s → wpAny (model PG w) C.A t R E s := fun h => wpAny_mono h (fun _ _ x => x) fun _ _ e => e.elim
  refine wpAny_While (codeAny_whileLoop (fun k s' => ∃ h' tk' l' N', s' = { s with heap := h', toks := tk' } ∧ Loc C.h₀ C.L h' l' ∧ Led C.h₀ C.L h' N' ∧ J k l' N') ?_ n ⟨s.heap, s.toks, l, N, rfl, hl, hN, h0⟩)
  intro k s' hz_
  refine e4_4 hz_ ?_
  try clear hz_
  intro h' tk' l' N' hy4_ hl' hN' hJ
  subst hy4_
  refine noErr ((turn k l' N' hJ).run (s := { s with heap := h', toks := tk' }) hl' hN' fun b h₂ tk₂ l₂ N₂ x₂ y₂ z₂ => ?_)
  cases b with
  | false =>
    simp only [Bool.false_eq_true, if_false]
    exact wpAny_execs_nil (Po.intro x₂ y₂ (z₂.2 rfl))
  | true =>
    simp only [if_true]
    refine noErr ((z₂.1 rfl).run (s := { s with heap := h₂, toks := tk₂ }) x₂ y₂ fun f h₃ tk₃ l₃ N₃ x₃ y₃ z₃ => ?_)
    cases f with
    | next => obtain ⟨m, hm, j⟩ := z₃; exact ⟨m, hm, h₃, tk₃, l₃, N₃, rfl, x₃, y₃, j⟩
    | cont => obtain ⟨m, hm, j⟩ := z₃; exact ⟨m, hm, h₃, tk₃, l₃, N₃, rfl, x₃, y₃, j⟩
    | brk => exact z₃.elim
    | ret v => exact Po.intro x₃ y₃ z₃

/-! tuples gone through from behind -/
theorem SP_revT {t : Addr} {vs : List Value} {Q : Value → Ls → Hl → Prop} (e : N t = some (tupObj vs)) (hz : (vs.length : Int) < 2 ^ 63) (h : ∀ q, N q = none → Q (.ref q) l (upd N q (rvO t ((vs.length : Int) - 1)))) : SP w C (call (.type "reversed") [.ref t]) l N Q := fun s hl hN =>
  revT_call (isTup_at (hN _ _ e).1) (by first | exact nm1 hz | exact nm1 (Ne.symm hz) | simpa using hz) fun tk => Po.intro (hl.push _) (by simpa using hN.push hl _) (h _ hN.fresh)
def RvS (a : Addr) (n i : Nat) (o : Obj) : Prop := o = rvO a ((n : Int) - 1 - i)
theorem It.rev (ok : Ok w C env r) (I a : Addr) (hne : a ≠ I) (vs : List Value) (hz : (vs.length : Int) < 2 ^ 63) : It w C I vs.length (fun i v => vs.reverse[i]? = some v) (RvS a vs.length) (fun N => N a = some (tupObj vs)) where
  it := fun i o h => by
    have hc : o.cls = .type "reversed" := by rw [h]; rfl
    unfold isIt; rw [hc]; decide
  next := fun i l N o Q hi ho hst ha k s hl hN => by
    subst hst
    have hv : vs[vs.length - 1 - i]? = some (vs[vs.length - 1 - i]'(by first | exact Nat.le_refl _ | exact leK rfl | omega)) := List.getElem?_eq_getElem (by first | exact Nat.le_refl _ | exact leK rfl | omega)
    have e1 : (vs.length : Int) - 1 - i = ((vs.length - 1 - i : Nat) : Int) := by omega
    have ho2 : N I = some (rvO a ((vs.length - 1 - i : Nat) : Int)) := by rw [ho, e1]
    refine revT_item (x := vs[vs.length - 1 - i]'(by first | exact Nat.le_refl _ | exact leK rfl | omega)) (i := vs.length - 1 - i) hne (hN _ _ ho2).1 (isTup_at (hN _ _ ha).1) (by first | exact nm1 hv | exact nm1 (Ne.symm hv) | simpa using hv) (by first | exact nm1 hz | exact nm1 (Ne.symm hz) | simpa using hz) fun h' tk ho' hs => ?_
    refine Po.intro (hl.same hs (hN _ _ ho).2.1 (hN _ _ ho).2.2.1) (hN.upd ho hs ho') (k _ _ ?_ ?_)
    · rw [List.getElem?_reverse (by first | exact Nat.le_refl _ | exact leK rfl | omega)]; exact hv
    · show rvO a _ = rvO a _
      congr 1; omega
  done := fun l N o Q ho hst ha k s hl hN => by
    subst hst
    have e1 : (vs.length : Int) - 1 - (vs.length : Nat) = -1 := by omega
    rw [e1] at ho
    refine revT_end ok.hh (hN _ _ ho).1 fun h' hs => ?_
    exact Po.intro (tk' := s.toks) (hl.ext hs (hN _ _ ho).2.1 (hN _ _ ho).2.2.1) (hN.hide hs) k
theorem SP_iterRev (ok : Ok w C env r) {x : Str} {body : List Stmt} {a I : Addr} {vs : List Value} {ns : List Int} {Q : Flow → Ls → Hl → Prop} (l₀ : Ls) (J : Nat → Hl → Prop) (ha : N a = some (tupObj vs)) (hi : IntsAre vs ns) (hz : (vs.length : Int) < 2 ^ 63) (hI : N I = none) (hl₀ : Has l₀ l) (hx : l₀.lookup x = none) (h0 : J 0 N)
    (mono : ∀ i N₁ N₂, Off I N₁ N₂ → J i N₁ → J i N₂) (hdep : ∀ i N', J i N' → N' a = some (tupObj vs))
    (turn : ∀ o i n t N₁, ns.reverse[i]? = some n → isIt o = true → N₁ I = some o → J i N₁ → SP w C (execs body env) ((x, .int n t) :: l₀) N₁ (TurnEnd I o Q (fun l' N' => Has l₀ l' ∧ J (i + 1) N')))
    (fin : ∀ l' N', Has l₀ l' → J ns.length N' → Q .next l' N') : SP w C (pyIter (.ref I)) l (upd N I (rvO a ((vs.length : Int) - 1))) (LoopOf w C env x body Q) := fun s hl hN => by
  have hne : a ≠ I := by (first | exact neH ha hI (by intro e_; cases e_) | exact Ne.symm (neH ha hI (by intro e_; cases e_)) | (rintro rfl; rw [hI] at ha; cases ha))
  refine revT_iter (hN _ _ (upd_self ..)).1 (Po.intro (tk' := s.toks) hl hN ?_)
  refine ⟨I, vs.length, _, RvS a vs.length, _, _, (fun i l' N' => Has l₀ l' ∧ J i N'), rfl, It.rev ok I a hne vs hz, upd_self .., by show _ = _; simp, ⟨hl₀, mono _ _ _ (Off.new hI) h0⟩, (fun i l' N₁ N₂ o ⟨p, q⟩ => ⟨p, mono _ _ _ o q⟩), (fun i l' N' ⟨_, q⟩ => hdep i N' q),
      (fun i v l' N' o hi' hv ie ho ⟨p, q⟩ => ?_), fun l' N' ⟨p, q⟩ => fin l' N' p (by rw [← hi.length]; exact q)⟩
  refine e2_2 ((PyProof.Rows.IntsAre.reverse hi).at i v hv) ?_
  intro n t hy2_ hn
  subst hy2_
  refine SP.weakL (turn o i n t N' hn ie ho q) fun y u e => ?_
  rw [List.lookup_cons] at e ⊢
  split
  · rename_i h; rw [h] at e; exact e
  · rename_i h; rw [h] at e; exact p y u e
end
end
/-! part Sp11 -/
section
section
variable {w : World} {C : Cx} {α β : Type} {l : Ls} {N N' : Hl} {env : Env} {r : Nat}

/-! range -/
def rgO (n : Int) (t u v : Tok) : Obj := { cls := .type "range", dict := none, data := .fields #[.int 0 t, .int n u, .int 1 v], slots := #[] }
def rgI (n i : Nat) : Obj := { cls := .type "range_iterator", dict := none, data := .fields #[rawInt (i : Int), rawInt ((n : Int) - i), rawInt 1], slots := #[] }
theorem SP_range {n : Int} {t : Tok} {Q : Value → Ls → Hl → Prop} (h : ∀ q u v, N q = none → Q (.ref q) l (upd N q (rgO n u t v))) : SP w C (call (.type "range") [.int n t]) l N Q := fun s hl hN =>
  call_range_1 (Po.intro (hl.push _) (hN.push hl _) (h _ _ _ hN.fresh))
theorem It.range (ok : Ok w C env r) (I : Addr) (n : Nat) : It w C I n (fun i v => ∃ t, v = .int (i : Int) t) (fun i o => o = rgI n i) (fun _ => True) where
  it := fun i o h => by
    have hc : o.cls = .type "range_iterator" := by rw [h]; rfl
    unfold isIt; rw [hc]; decide
  next := fun i l N o Q hi ho hst _ k s hl hN => by
    subst hst
    refine wpAny_pyNext_range_item (x := (i : Int)) (left := (n : Int) - i) (step := 1) (hN _ _ ho).1 (by first | exact Nat.le_refl _ | exact leK rfl | omega) fun h' ho' hs => ?_
    refine Po.intro (hl.same hs (hN _ _ ho).2.1 (hN _ _ ho).2.2.1) (hN.upd ho hs ho') (k _ _ ⟨_, rfl⟩ ?_)
    show _ = rgI n (i + 1)
    unfold rgI
    rw [show (n : Int) - ((i + 1 : Nat) : Int) = (n : Int) - i - 1 by omega, show ((i + 1 : Nat) : Int) = (i : Int) + 1 by omega]
  done := fun l N o Q ho hst _ k s hl hN => by
    subst hst
    refine wpAny_pyNext_range_end (x := (n : Int)) (left := (n : Int) - n) (step := 1) ok.hh (hN _ _ ho).1 (by first | exact Nat.le_refl _ | exact leK rfl | omega) fun h' hs => ?_
    exact Po.intro (tk' := s.toks) (hl.ext hs (hN _ _ ho).2.1 (hN _ _ ho).2.2.1) (hN.hide hs) k
theorem rg_small (n : Nat) (h : n ≤ 4096) : Builtin.Range.small 0 (n : Int) 1 = true ∧ Builtin.Range.rangeSize 0 (n : Int) 1 = n := by
  have e : Builtin.Range.rangeSize 0 (n : Int) 1 = n := by
    unfold Builtin.Range.rangeSize
    split <;> simp <;> omega
  refine ⟨?_, e⟩
  unfold Builtin.Range.small
  rw [e]
  have f : ∀ z : Int, -(2 ^ 63) ≤ z → z < 2 ^ 63 → Builtin.Range.rangeFitsLong z = true := fun z h1 h2 => by
    unfold Builtin.Range.rangeFitsLong; simp; omega
  rw [f 0 (by decide) (by decide), f n (by first | exact Nat.le_refl _ | exact leK rfl | omega) (by first | exact Nat.le_refl _ | exact leK rfl | omega), f 1 (by decide) (by decide), f (n + (1 - 1)) (by first | exact Nat.le_refl _ | exact leK rfl | omega) (by first | exact Nat.le_refl _ | exact leK rfl | omega)]
  simp
/-- the loop over a range -/
theorem SP_pyIterR {q : Addr} {n : Nat} {t u v : Tok} {Q : Value → Ls → Hl → Prop} (hq : N q = some (rgO n t u v)) (hn : n ≤ 4096) (h : ∀ I, N I = none → Q (.ref I) l (upd N I (rgI n 0))) : SP w C (pyIter (.ref q)) l N Q := fun s hl hN => by
  refine e0_2 (rg_small n hn) ?_
  intro h1 h2
  refine wpAny_pyIter_range (hN _ _ hq).1 h1 ?_
  rw [h2]
  have := hN.push hl { cls := .type "range_iterator", data := .fields #[rawInt 0, rawInt (n : Int), rawInt 1] }
  refine Po.intro (tk' := s.toks) (hl.push _) this ?_
  have e := h _ hN.fresh
  have e2 : rgI n 0 = { cls := .type "range_iterator", data := .fields #[rawInt 0, rawInt (n : Int), rawInt 1] } := by unfold rgI; simp
  rw [e2] at e
  exact e
theorem SP_iterR (ok : Ok w C env r) {x : Str} {body : List Stmt} {q : Addr} {n : Nat} {t u v : Tok} {Q : Flow → Ls → Hl → Prop} (l₀ : Ls) (J : Nat → Hl → Prop) (hq : N q = some (rgO n t u v)) (hn : n ≤ 4096) (hl₀ : Has l₀ l) (hx : l₀.lookup x = none) (h0 : J 0 N)
    (mono : ∀ I, N I = none → ∀ i N₁ N₂, Off I N₁ N₂ → J i N₁ → J i N₂)
    (turn : ∀ I o i t N₁, N I = none → i < n → isIt o = true → N₁ I = some o → J i N₁ → SP w C (execs body env) ((x, .int (i : Int) t) :: l₀) N₁ (TurnEnd I o Q (fun l' N' => Has l₀ l' ∧ J (i + 1) N')))
    (fin : ∀ l' N', Has l₀ l' → J n N' → Q .next l' N') : SP w C (pyIter (.ref q)) l N (LoopOf w C env x body Q) := by
  refine SP_pyIterR hq hn fun I hI => ?_
  refine ⟨I, n, _, _, _, _, (fun i l' N' => Has l₀ l' ∧ J i N'), rfl, It.range ok I n, upd_self .., rfl, ⟨hl₀, mono _ hI _ _ _ (Off.new hI) h0⟩, (fun i l' N₁ N₂ o ⟨p, q⟩ => ⟨p, mono _ hI _ _ _ o q⟩), (fun i l' N' _ => trivial),
      (fun i v l' N' o hi hv ie ho ⟨p, q⟩ => ?_), fun l' N' ⟨p, q⟩ => fin l' N' p q⟩
  refine e1_1 hv ?_
  try clear hv
  intro t hy1_
  subst hy1_
  refine SP.weakL (turn I o i t N' hI hi ie ho q) fun y u e => ?_
  rw [List.lookup_cons] at e ⊢
  split
  · rename_i h; rw [h] at e; exact e
  · rename_i h; rw [h] at e; exact p y u e

/-! list comprehensions -/
abbrev NsObj := PyProof.Rows.LCg.NsObj
structure Nm (w : World) (C : Cx) (env : Env) : Prop where
  kd : env.scope.kind = .function
  gl : env.globals = mainGlobals
  bl : env.builtins = builtinsNs
  X : (KH w.params).In C.h₀
  T : ∃ p loose mean mg mb, Top p loose mean mg mb C.h₀
theorem Ok.nm (ok : Ok w C env r) {scope : Scope} (hk : scope.kind = .function) (cl : List (Str × Addr)) (Cc : Addr) : Nm w C (compEnvC scope cl Cc env) := ⟨hk, ok.gl, ok.bl, ok.X, ok.T⟩
theorem SP_globalC (ok : Nm w C env) {x : Str} {pos : Pos} {v : Value} {Q : Value → Ls → Hl → Prop} (hx : env.kindOf x = some .globalImplicit) (e : nsIn (KH w.params) mainGlobals x = some (some v)) (h : Q v l N)
    (hd : (x == ("__debug__" : Str)) = false := by decide) : SP w C (eval (.Name x pos) env) l N Q := by
  rintro s hl hN
  refine e5_1 ok.T ?_
  intro p loose mean mg mb T
  have g := T.g.keeps fun b o e => hl.keep (b := b) (o := o) e
  rw [← ok.gl] at g
  exact Name_function_global ok.kd hx (loadGlobal_global (env := env) g (mg_of ok.X T.g e) (Po.intro (tk' := s.toks) hl hN h)) hd
theorem SP_builtinC (ok : Nm w C env) {x : Str} {pos : Pos} {v : Value} {Q : Value → Ls → Hl → Prop} (hx : env.kindOf x = some .globalImplicit) (e : nsIn (KH w.params) mainGlobals x = some none) (hv : bootBuiltins x = some v) (hn : x ≠ "__name__") (h : Q v l N)
    (hd : (x == ("__debug__" : Str)) = false := by decide) : SP w C (eval (.Name x pos) env) l N Q := by
  rintro s hl hN
  refine e5_1 ok.T ?_
  intro p loose mean mg mb T
  have g := T.g.keeps fun b o e => hl.keep (b := b) (o := o) e
  have b := T.b.keeps fun b o e => hl.keep (b := b) (o := o) e
  rw [← ok.gl] at g
  rw [← ok.bl] at b
  exact Name_function_global ok.kd hx (loadGlobal_builtin (env := env) g (mg_none_of ok.X T.g e) b ((T.builtins x hn).trans hv) (Po.intro (tk' := s.toks) hl hN h)) hd
theorem SP_cellC (ok : Nm w C env) {x : Str} {pos : Pos} {v : Value} {c : Addr} {o : Obj} {Q : Value → Ls → Hl → Prop} (hx : env.kindOf x = some .cell) (hc : env.cells.lookup x = some c) (hN0 : N c = some o) (hd : o.data = .cell (some v)) (h : Q v l N)
    (hb : (x == ("__debug__" : Str)) = false := by decide) : SP w C (eval (.Name x pos) env) l N Q := by
  rintro s hl hN
  exact wpAny_Name (wpAny_loadName_cell ok.kd hx hc ⟨o, (hN _ _ hN0).1, hd⟩ (Po.intro (tk' := s.toks) hl hN h)) hb
theorem SP_localC (ok : Nm w C env) {x : Str} {pos : Pos} {v : Value} {o : Obj} {m : Str → Option Value} {Q : Value → Ls → Hl → Prop} (hx : env.kindOf x = some .local) (hN0 : N env.locals = some o) (ho : NsObj o m) (hv : m x = some v) (h : Q v l N)
    (hb : (x == ("__debug__" : Str)) = false := by decide) : SP w C (eval (.Name x pos) env) l N Q := by
  rintro s hl hN
  exact wpAny_Name (wpAny_loadName_local ok.kd hx (PyProof.Rows.LCg.NsObj.ns ho (hN _ _ hN0).1) hv (Po.intro (tk' := s.toks) hl hN h)) hb
theorem SP_callKC (ok : Nm w C env) {pos : Pos} {f : Value} {first : List Value} {e : Expr} {rest : List Expr} {Q : Value → Ls → Hl → Prop} (hk : keepIn (KH w.params) f = true)
    (h : SP w C (spliced (backTo pos (starEach (e :: rest) env))) l N (fun vs l' N' => SP w C (call f (first ++ vs)) l' N' Q))
    (he : starEach (e :: rest) env = (false, eval e env) :: starEach rest env := by rfl) (hplain : (backTo pos (starEach rest env)).any (·.1) = false := by rfl) :
    SP w C (callWith pos f first (backTo pos (starEach (e :: rest) env)) []) l N Q := fun _ hl hN =>
  callWith_K ok.X hk (h.run hl hN fun _ _ _ _ _ x y z => ⟨ok.X.keeps fun b o e => x.keep (b := b) (o := o) e, z.go x y⟩) he hplain

def testsOf (ifs : List Expr) (env : Env) : Sem Bool := forIn ifs true fun c r => if r = true then do let ok ← isTrue c env (eval c env); pure (ForInStep.yield ok) else pure (ForInStep.yield r)
theorem SP_tests0 {Q : Bool → Ls → Hl → Prop} (h : Q true l N) : SP w C (testsOf [] env) l N Q := fun s hl hN => wpAny_tests_nil (Po.intro (tk' := s.toks) hl hN h)
theorem SP_tests1 {c : Expr} {Q : Bool → Ls → Hl → Prop} (h : SP w C (isTrue c env (eval c env)) l N Q) : SP w C (testsOf [c] env) l N Q := fun s hl hN => wpAny_tests_one (h s hl hN)

def ItSelf (w : World) (C : Cx) (I : Addr) (St : Nat → Obj → Prop) : Prop := ∀ l N o (Q : Value → Ls → Hl → Prop), N I = some o → St 0 o → Q (.ref I) l N → SP w C (pyIter (.ref I)) l N Q
/-- what the turns of a comprehension keep -/
def CTurn (w : World) (C : Cx) (l : Ls) (I D Cc : Addr) (oI oC : Obj) (ys : List Value) (P : Hl → Prop) (l' : Ls) (N' : Hl) : Prop := l' = l ∧ N' I = some oI ∧ N' D = some (lst ys ys.length) ∧ N' Cc = some oC ∧ P N'
def CompOf (w : World) (C : Cx) (env : Env) (elt : Expr) (x : Str) (ifs : List Expr) (scope : Scope) (cl : List (Str × Addr)) (l₀ : Ls) (Q : Addr → Hl → Prop) (it : Value) (l : Ls) (N : Hl) : Prop :=
  l = l₀ ∧ ∃ (I : Addr) (n : Nat) (item : Nat → Value → Prop) (St : Nat → Obj → Prop) (dep : Hl → Prop) (o : Obj), it = .ref I ∧ It w C I n item St dep ∧ ItSelf w C I St ∧ N I = some o ∧ St 0 o ∧ n ≤ 4096 ∧
    ∀ D Cc, N D = none → N Cc = none → D ≠ Cc → ∃ J : Nat → List Value → Hl → Prop, J 0 [] N ∧ (∀ i ys N₁ N₂, Keep [I, D, Cc] N₁ N₂ → J i ys N₁ → J i ys N₂) ∧ (∀ i ys N, J i ys N → dep N) ∧
      (∀ i v ys N₁ oI oC m, i < n → item i v → N₁ I = some oI → N₁ D = some (lst ys ys.length) → N₁ Cc = some oC → NsObj oC m → m x = some v → J i ys N₁ →
        SP w C (testsOf ifs (compEnvC scope cl Cc env)) l N₁ (fun ok l' N₂ => l' = l ∧ Br ok (SP w C (eval elt (compEnvC scope cl Cc env)) l N₂ (fun y l' N' => CTurn w C l I D Cc oI oC ys (J (i + 1) (ys ++ [y])) l' N')) (CTurn w C l I D Cc oI oC ys (J (i + 1) ys) l N₂))) ∧
      ∀ ys N', J n ys N' → N' D = some (lst ys ys.length) → Q D N'

end
namespace SP_AssignComp_c
def Prp (w : World) (C : Cx) (N : Hl) (r : Nat) (x : Str) (y : Str) (ifs : List Expr) (cl : List (Str × Addr)) : Prop := ∀ (l : Ls) (env : Env) (ok : Ok w C env r) (elt : Expr) (iter : Expr) (px : Pos) (py : Pos) (scope : Scope) (pos : Pos) (spos : Pos) (Q : Flow → Ls → Hl → Prop) (h : SP w C (eval iter env) l N (fun v l' N' => SP w C (pyIter v) l' N' (CompOf w C env elt x ifs scope cl l (fun D N' => Q .next ((y, .ref D) :: l) N')))) (hsw : swapsWith (.ListComp elt [⟨.Name x px, iter, ifs, 0⟩] scope pos) (some (.Name y py)) spos.line env = pure true) (hclos : closureFor scope env = pure cl) (hcell : ∀ z ∈ scope.names, z.2 ≠ .cell) (hkind : scope.kind = .function) (hnames : ∀ z ∈ scope.names, z.2 = .local → scope.names.lookup z.1 = some .local) (hx : scope.names.lookup x = some .local) (hy : env.kindOf y = some .local) (hs : ∀ x, foldedSetIterable iter env x = pure x), SP w C (exec (.Assign [.Name y py] (.ListComp elt [⟨.Name x px, iter, ifs, 0⟩] scope pos) spos) env) l N Q
noncomputable def Vec : World × Cx × Hl × Nat × Str × Str × List Expr × List (Str × Addr) := pick (aWorld 0, ⟨callerA, {}, 0⟩, fun _ => none, 0, Str.empty, Str.empty, [], []) fun q => Prp q.1 q.2.1 q.2.2.1 q.2.2.2.1 q.2.2.2.2.1 q.2.2.2.2.2.1 q.2.2.2.2.2.2.1 q.2.2.2.2.2.2.2
@[irreducible] noncomputable def w : World := Vec.1
@[irreducible] noncomputable def C : Cx := Vec.2.1
@[irreducible] noncomputable def N : Hl := Vec.2.2.1
@[irreducible] noncomputable def r : Nat := Vec.2.2.2.1
@[irreducible] noncomputable def x : Str := Vec.2.2.2.2.1
@[irreducible] noncomputable def y : Str := Vec.2.2.2.2.2.1
@[irreducible] noncomputable def ifs : List Expr := Vec.2.2.2.2.2.2.1
@[irreducible] noncomputable def cl : List (Str × Addr) := Vec.2.2.2.2.2.2.2
theorem core : Prp w C N r x y ifs cl := by
  unfold Prp
  intro l env ok elt iter px py scope pos spos Q h hsw hclos hcell hkind hnames hx hy hs
  intro s hl hN
  have noErr : ∀ {α : Type} {t : Sem α} {R : α → Shared → Prop} {E : Value → Shared → Prop} {s : Shared}, wpAny (model PG w) C.A t R (fun _ _ => False) s → wpAny (model PG w) C.A t R E s := fun h => wpAny_mono h (fun _ _ x => x) fun _ _ e => e.elim
  rw [exec_Assign_Name_used _ _ _ _ hsw]
  refine wpAny_bind (wpAny_standAt (wpAny_bind ?_))
  show wpAny _ C.A (do let _ ← comprehension (.ListComp elt [⟨.Name x px, iter, ifs, 0⟩] scope pos) scope env _ (newList []) false (eval iter env) (some (assign (.Name y py) env))) _ _ s
  refine wpAny_bind (wpAny_mono (wpAny_comprehension_free (use := some (assign (.Name y py) env)) (Q := fun _ s' => Po C s Q .next s') rfl hs hclos hkind hnames
    (h.run hl hN fun xv h₁ tk₁ l₁ N₁ x₁ y₁ z₁ => z₁.run x₁ y₁ fun it h₂ tk₂ l₂ N₂ x₂ y₂ z₂ => ?_)) (fun _ s' hq => wpAny_pure (wpAny_pure hq)) fun _ _ e => e)
  refine e0_2 z₂ ?_
  intro hy0_ hz0_
  subst hy0_
  refine e6_7 hz0_ ?_
  try clear hz0_
  intro I n item St dep o hy6_ W self hI hst hn hJ
  subst hy6_
  refine wpAny_newObj_type (wpAny_newFunctionEnv hcell (by intro y hy; simp at hy) (fun h₃ hns₃ hsb₃ => ?_) hkind) (by size_fits)
  dsimp only at hns₃ hsb₃ ⊢
  have xD := x₂.push (lst [] 0)
  have yD := y₂.push x₂ (lst [] 0)
  have fD := y₂.fresh
  have xC := xD.push ({ cls := .type "dict", data := .dict #[] } : Obj)
  have yC := yD.push xD ({ cls := .type "dict", data := .dict #[] } : Obj)
  have fC := yD.fresh
  generalize hH : h₂.push (lst [] 0) = H at xD yD xC yC fC hns₃ hsb₃ ⊢
  have eC := yC _ _ (upd_self ..)
  refine e1_2 (PyProof.Rows.LCg.ns_obj hns₃) ?_
  intro oC heC hoC
  have x₃ : Loc C.h₀ C.L h₃ l₂ := xC.same hsb₃ eC.2.1 eC.2.2.1
  have y₃ := yC.upd (upd_self ..) hsb₃ heC
  have hCD : H.objs.size ≠ h₂.objs.size := by rw [← hH, Heap.size_push]; exact Nat.succ_ne_self _
  have fC2 : N₂ H.objs.size = none := by rw [upd_ne hCD] at fC; exact fC
  have oD : ∀ a, a ≠ H.objs.size → upd (upd (upd N₂ h₂.objs.size (lst [] 0)) H.objs.size { cls := .type "dict", data := .dict #[] }) H.objs.size oC a = upd N₂ h₂.objs.size (lst [] 0) a := fun a ha => by rw [upd_ne ha, upd_ne ha]
  refine e1_5 (hJ h₂.objs.size H.objs.size fD fC2 hCD.symm) ?_
  intro J j0 mono hdep turn fin
  have nID : I ≠ h₂.objs.size := by (first | exact neH hI fD (by intro e_; cases e_) | exact Ne.symm (neH hI fD (by intro e_; cases e_)) | (rintro rfl; rw [fD] at hI; cases hI))
  have nIC : I ≠ H.objs.size := by (first | exact neH hI fC2 (by intro e_; cases e_) | exact Ne.symm (neH hI fC2 (by intro e_; cases e_)) | (rintro rfl; rw [fC2] at hI; cases hI))
  have hI3 : upd (upd (upd N₂ h₂.objs.size (lst [] 0)) H.objs.size { cls := .type "dict", data := .dict #[] }) H.objs.size oC I = some o := by rw [oD _ nIC, upd_ne nID]; exact hI
  have hD3 : upd (upd (upd N₂ h₂.objs.size (lst [] 0)) H.objs.size { cls := .type "dict", data := .dict #[] }) H.objs.size oC h₂.objs.size = some (lst [] ([] : List Value).length) := by rw [oD _ hCD.symm, upd_self]; rfl
  have hC3 : upd (upd (upd N₂ h₂.objs.size (lst [] 0)) H.objs.size { cls := .type "dict", data := .dict #[] }) H.objs.size oC H.objs.size = some oC := upd_self ..
  have hJ3 : J 0 [] (upd (upd (upd N₂ h₂.objs.size (lst [] 0)) H.objs.size { cls := .type "dict", data := .dict #[] }) H.objs.size oC) := mono _ _ _ _ (fun a o' e hne => by
    simp only [List.mem_cons, List.not_mem_nil, or_false, not_or] at hne
    rw [oD _ hne.2.2, upd_ne hne.2.1]; exact e) j0
  generalize upd (upd (upd N₂ h₂.objs.size (lst [] 0)) H.objs.size { cls := .type "dict", data := .dict #[] }) H.objs.size oC = N₃ at y₃ hI3 hD3 hC3 hJ3
  generalize h₂.objs.size = D at *
  generalize H.objs.size = Cc at *
  have loop : ∀ h₄ tk₄, Loc C.h₀ C.L h₄ l₂ → Led C.h₀ C.L h₄ N₃ → codeAny (model PG w) C.A (.compLoop (.ListComp elt [⟨.Name x px, iter, ifs, 0⟩] scope pos) 0 (.ref I) (.ref D) (compEnvC scope cl Cc env))
      (compPost (model PG w) C.A (fun _ _ => False) (some (assign (.Name y py) env)) (fun _ s' => Po C s Q .next s') (.ref D) Cc) { s with heap := h₄, toks := tk₄ } := by
    intro h₄ tk₄ x₄ y₄
    refine codeAny_compLoop_tests (fun k s' => ∃ h' tk i ys oI oC m N', s' = { s with heap := h', toks := tk } ∧ i ≤ n ∧ k = n + 1 - i ∧ ys.length ≤ i ∧ Loc C.h₀ C.L h' l₂ ∧ Led C.h₀ C.L h' N' ∧ N' I = some oI ∧ St i oI ∧
      N' D = some (lst ys ys.length) ∧ N' Cc = some oC ∧ NsObj oC m ∧ J i ys N') ?_ (n + 1) ⟨h₄, tk₄, 0, [], o, oC, _, N₃, rfl, Nat.zero_le _, rfl, Nat.le_refl _, x₄, y₄, hI3, hst, hD3, hC3, hoC, hJ3⟩
    intro k s' hz_
    refine e8_12 hz_ ?_
    try clear hz_
    intro h' tk i ys oI oC m N' hy8_ hi hy10_ hyl x' y' eI hSt eD eC hoC hJ'
    subst hy8_
    subst hy10_
    by_cases hlt : i < n
    · refine noErr (SP.run (s := { s with heap := h', toks := tk }) (l := l₂) (N := N') (Q := fun r l₅ N₅ => ∃ v o'', r = some v ∧ item i v ∧ St (i + 1) o'' ∧ l₅ = l₂ ∧ N₅ = upd N' I o'') (W.next i l₂ N' oI _ hlt eI hSt (hdep _ _ _ hJ') fun v o'' a b => ⟨v, o'', rfl, a, b, rfl, rfl⟩) x' y' ?_)
      intro r h₅ tk₅ l₅ N₅ x₅ y₅ hz_
      refine e2_5 hz_ ?_
      try clear hz_
      intro v o'' hy2_ hv hst'' hy5_ hy6_
      subst hy2_
      subst hy5_
      subst hy6_
      have eC5 : upd N' I o'' Cc = some oC := by rw [upd_ne nIC.symm]; exact eC
      have eD5 : upd N' I o'' D = some (lst ys ys.length) := by rw [upd_ne nID.symm]; exact eD
      have hJ5 : J i ys (upd N' I o'') := mono _ _ _ _ (Keep.chg (by simp)) hJ'
      refine wpAny_assign_Name (wpAny_storeName_local (lookup_relabel_local hx) (PyProof.Rows.LCg.NsObj.ns hoC (y₅ _ _ eC5).1) (fun h₆ hn₆ hs₆ => ?_) (by simp [compEnvC, relabel, hkind]))
      refine e1_2 (PyProof.Rows.LCg.ns_obj hn₆) ?_
      intro oC6 heC6 hoC6
      have x₆ : Loc C.h₀ C.L h₆ l₅ := x₅.same hs₆ (y₅ _ _ eC5).2.1 (y₅ _ _ eC5).2.2.1
      have y₆ := y₅.upd eC5 hs₆ heC6
      have z := turn i v ys (upd (upd N' I o'') Cc oC6) o'' oC6 _ hlt hv (by rw [upd_ne nIC]; exact upd_self ..) (by rw [upd_ne hCD.symm]; exact eD5) (upd_self ..) hoC6 (if_pos rfl) (mono _ _ _ _ (Keep.chg (by simp)) hJ5)
      have inv : ∀ {h₈ : Heap} {tk₈ : Nat} {l₈ : Ls} {N₈ : Hl} {zs : List Value}, ys.length ≤ zs.length → zs.length ≤ i + 1 → Loc C.h₀ C.L h₈ l₈ → Led C.h₀ C.L h₈ N₈ → l₈ = l₅ → N₈ I = some o'' → N₈ D = some (lst zs zs.length) → N₈ Cc = some oC6 → J (i + 1) zs N₈ →
          ∃ m, m < n + 1 - i ∧ ∃ h' tk i ys oI oC m_1 N', ({ s with heap := h₈, toks := tk₈ } : Shared) = { s with heap := h', toks := tk } ∧ i ≤ n ∧ m = n + 1 - i ∧ ys.length ≤ i ∧ Loc C.h₀ C.L h' l₅ ∧ Led C.h₀ C.L h' N' ∧ N' I = some oI ∧ St i oI ∧
            N' D = some (lst ys ys.length) ∧ N' Cc = some oC ∧ NsObj oC m_1 ∧ J i ys N' := fun {h₈ tk₈ l₈ N₈ zs} hz1 hz2 a b c d e f g => by
        subst c
        exact ⟨n + 1 - (i + 1), by omega, h₈, tk₈, i + 1, zs, o'', oC6, _, N₈, rfl, hlt, rfl, hz2, a, b, d, hst'', e, f, hoC6, g⟩
      refine noErr (z.run (s := { s with heap := h₆, toks := tk₅ + 1 }) x₆ y₆ fun okb h₇ tk₇ l₇ N₇ x₇ y₇ z₇ => ?_)
      refine e0_2 z₇ ?_
      intro hy0_ z₇
      subst hy0_
      cases okb with
      | false =>
        simp only [Bool.false_eq_true, if_false]
        refine e0_5 (z₇.2 rfl) ?_
        intro _ a1 a2 a3 a4
        exact inv (Nat.le_refl _) (Nat.le_succ_of_le hyl) x₇ y₇ rfl a1 a2 a3 a4
      | true =>
        simp only [if_true]
        refine noErr ((z₇.1 rfl).run (s := { s with heap := h₇, toks := tk₇ }) x₇ y₇ fun yv h₈ tk₈ l₈ N₈ x₈ y₈ z₈ => ?_)
        refine e0_5 z₈ ?_
        intro hy0_ a1 a2 a3 a4
        subst hy0_
        refine append_at (hsz := by show ys.toArray.size ≤ sizeLine; rw [List.size_toArray]; exact sz (by first | exact Nat.le_refl _ | exact leK rfl | omega)) (y₈ _ _ a2).1 fun h₉ hs₉ hD₉ => ?_
        have hD₉' : h₉.get? D = some (lst (ys ++ [yv]) (ys ++ [yv]).length) := hD₉.trans (congrArg some (PyProof.Rows.LCg.lst_snoc ys yv))
        refine inv (by simp) (by simp; omega) (x₈.same hs₉ (y₈ _ _ a2).2.1 (y₈ _ _ a2).2.2.1) (y₈.upd a2 hs₉ hD₉') rfl (by rw [upd_ne nID]; exact a1) (upd_self ..) (by rw [upd_ne hCD]; exact a3) (mono _ _ _ _ (Keep.chg (by simp)) a4)
    · obtain rfl : i = n := Nat.le_antisymm hi (Nat.not_lt.mp hlt)
      refine noErr (SP.run (s := { s with heap := h', toks := tk }) (l := l₂) (N := N') (Q := fun r l₅ N₅ => r = none ∧ l₅ = l₂ ∧ N₅ = hide N' I) (W.done l₂ N' oI _ eI hSt (hdep _ _ _ hJ') ⟨rfl, rfl, rfl⟩) x' y' ?_)
      intro r h₅ tk₅ l₅ N₅ x₅ y₅ hz_
      refine e0_3 hz_ ?_
      try clear hz_
      intro hy0_ hy1_ hy2_
      subst hy0_
      subst hy1_
      subst hy2_
      have eC5 : hide N' I Cc = some oC := by rw [hide_ne nIC.symm]; exact eC
      have eD5 : hide N' I D = some (lst ys ys.length) := by rw [hide_ne nID.symm]; exact eD
      have hJ5 : J i ys (hide N' I) := mono _ _ _ _ (fun a o' e hne => by
        simp only [List.mem_cons, List.not_mem_nil, or_false, not_or] at hne
        rw [hide_ne hne.1]; exact e) hJ'
      show wpAny _ C.A (assign (.Name y py) env (.ref D)) _ _ _
      refine wpAny_assign_Name ((SP_store ok hy (Q := fun _ l' M => l' = (y, .ref D) :: l₅ ∧ M = hide N' I) ⟨rfl, rfl⟩).run x₅ y₅ fun _ h₆ tk₆ l₆ N₆ x₆ y₆ z₆ => ?_)
      refine e0_2 z₆ ?_
      intro hy0_ hy1_
      subst hy0_
      subst hy1_
      refine ⟨_, PyProof.Rows.LCg.NsObj.ns hoC (y₆ _ _ eC5).1, fun h₇ hs₇ => ?_⟩
      refine Po.intro (x₆.same hs₇ (y₆ _ _ eC5).2.1 (y₆ _ _ eC5).2.2.1) (y₆.hide hs₇.extBut) (fin ys _ (mono _ _ _ _ (fun a o' e hne => ?_) hJ5) ?_)
      · simp only [List.mem_cons, List.not_mem_nil, or_false, not_or] at hne
        rw [hide_ne hne.2.2]; exact e
      · rw [hide_ne hCD.symm]; exact eD5
  exact codeAny_compStart_list (loop _ _ x₃ y₃) (noErr ((self l₂ N₃ o (fun v l' N' => v = .ref I ∧ l' = l₂ ∧ N' = N₃) hI3 hst ⟨rfl, rfl, rfl⟩).run x₃ y₃ fun v h₄ tk₄ l₄ N₄ x₄ y₄ ⟨e1, e2, e3⟩ => by subst e1 e2 e3; exact loop _ _ x₄ y₄))
end SP_AssignComp_c
theorem SP_AssignComp {w : World} {C : Cx} {l : Ls} {N : Hl} {env : Env} {r : Nat} (ok : Ok w C env r) {elt iter : Expr} {x y : Str} {px py : Pos} {ifs : List Expr} {scope : Scope} {cl : List (Str × Addr)} {pos spos : Pos} {Q : Flow → Ls → Hl → Prop}
    (h : SP w C (eval iter env) l N (fun v l' N' => SP w C (pyIter v) l' N' (CompOf w C env elt x ifs scope cl l (fun D N' => Q .next ((y, .ref D) :: l) N'))))
    (hsw : swapsWith (.ListComp elt [⟨.Name x px, iter, ifs, 0⟩] scope pos) (some (.Name y py)) spos.line env = pure true)
    (hclos : closureFor scope env = pure cl) (hcell : ∀ z ∈ scope.names, z.2 ≠ .cell) (hkind : scope.kind = .function)
    (hnames : ∀ z ∈ scope.names, z.2 = .local → scope.names.lookup z.1 = some .local) (hx : scope.names.lookup x = some .local)
    (hy : env.kindOf y = some .local) (hs : ∀ x, foldedSetIterable iter env x = pure x := by intro _; rfl) :
    SP w C (exec (.Assign [.Name y py] (.ListComp elt [⟨.Name x px, iter, ifs, 0⟩] scope pos) spos) env) l N Q :=
  pickAll (P := fun q : World × Cx × Hl × Nat × Str × Str × List Expr × List (Str × Addr) => SP_AssignComp_c.Prp q.1 q.2.1 q.2.2.1 q.2.2.2.1 q.2.2.2.2.1 q.2.2.2.2.2.1 q.2.2.2.2.2.2.1 q.2.2.2.2.2.2.2) (aWorld 0, ⟨callerA, {}, 0⟩, fun _ => none, 0, Str.empty, Str.empty, [], []) (by with_unfolding_all exact SP_AssignComp_c.core) (w, C, N, r, x, y, ifs, cl) l env ok elt iter px py scope pos spos Q h hsw hclos hcell hkind hnames hx hy hs
section
variable {w : World} {C : Cx} {α β : Type} {l : Ls} {N N' : Hl} {env : Env} {r : Nat}
end
end
/-! part Sp12 -/
section
section
variable {w : World} {C : Cx} {α β : Type} {l : Ls} {N N' : Hl} {env : Env} {r : Nat}

theorem SP_compR (ok : Ok w C env r) {elt : Expr} {x : Str} {ifs : List Expr} {scope : Scope} {cl : List (Str × Addr)} {q : Addr} {n : Nat} {t u v : Tok} {Q : Addr → Hl → Prop} (J : Nat → List Value → Hl → Prop) (hq : N q = some (rgO n t u v)) (hn : n ≤ 4096) (h0 : J 0 [] N)
    (mono : ∀ I D Cc, N I = none → N D = none → N Cc = none → ∀ i ys N₁ N₂, Keep [I, D, Cc] N₁ N₂ → J i ys N₁ → J i ys N₂)
    (turn : ∀ I D Cc i t ys N₁ oI oC m, N I = none → N D = none → N Cc = none → D ≠ I → Cc ≠ I → D ≠ Cc → i < n → N₁ I = some oI → N₁ D = some (lst ys ys.length) → N₁ Cc = some oC → NsObj oC m → m x = some (.int (i : Int) t) → J i ys N₁ →
      SP w C (testsOf ifs (compEnvC scope cl Cc env)) l N₁ (fun ok l' N₂ => l' = l ∧ Br ok (SP w C (eval elt (compEnvC scope cl Cc env)) l N₂ (fun y l' N' => CTurn w C l I D Cc oI oC ys (J (i + 1) (ys ++ [y])) l' N')) (CTurn w C l I D Cc oI oC ys (J (i + 1) ys) l N₂)))
    (fin : ∀ D ys N', N D = none → J n ys N' → N' D = some (lst ys ys.length) → Q D N') : SP w C (pyIter (.ref q)) l N (CompOf w C env elt x ifs scope cl l Q) := by
  refine SP_pyIterR hq hn fun I hI => ⟨rfl, I, n, _, _, _, _, rfl, It.range ok I n, ?_, upd_self .., rfl, hn, fun D Cc hD hC hDC => ?_⟩
  · intro l N o Q hN0 ho hq s hl hN
    subst ho
    exact wpAny_pyIter_rangeiter (x := (0 : Nat)) (left := (n : Int) - (0 : Nat)) (step := 1) (hN _ _ hN0).1 (Po.intro (tk' := s.toks) hl hN hq)
  have nD : D ≠ I := by (first | exact neH hD (upd_self ..) (by intro e_; cases e_) | exact Ne.symm (neH hD (upd_self ..) (by intro e_; cases e_)) | (rintro rfl; rw [upd_self] at hD; cases hD))
  have nC : Cc ≠ I := by (first | exact neH hC (upd_self ..) (by intro e_; cases e_) | exact Ne.symm (neH hC (upd_self ..) (by intro e_; cases e_)) | (rintro rfl; rw [upd_self] at hC; cases hC))
  rw [upd_ne nD] at hD
  rw [upd_ne nC] at hC
  refine ⟨J, mono I D Cc hI hD hC _ _ _ _ (Keep.new hI) h0, mono I D Cc hI hD hC, fun _ _ _ _ => trivial, fun i v ys N₁ oI oC m hi hv e1 e2 e3 e4 e5 j => ?_, fun ys N' j e => fin D ys N' hD j e⟩
  refine e1_1 hv ?_
  try clear hv
  intro t hy1_
  subst hy1_
  exact turn I D Cc i t ys N₁ oI oC m hI hD hC nD nC hDC hi e1 e2 e3 e4 e5 j
theorem SP_compL (ok : Ok w C env r) {elt : Expr} {x : Str} {ifs : List Expr} {scope : Scope} {cl : List (Str × Addr)} {a : Addr} {oa : Obj} {vs : List Value} {Q : Addr → Hl → Prop} (J : Nat → List Value → Hl → Prop) (ha : N a = some oa) (la : LO oa vs) (hn : vs.length ≤ 4096) (h0 : J 0 [] N)
    (mono : ∀ I D Cc, N I = none → N D = none → N Cc = none → ∀ i ys N₁ N₂, Keep [I, D, Cc] N₁ N₂ → J i ys N₁ → J i ys N₂) (hdep : ∀ i ys N', J i ys N' → ∃ o, N' a = some o ∧ LO o vs)
    (turn : ∀ I D Cc i v ys N₁ oI oC m, N I = none → N D = none → N Cc = none → D ≠ I → Cc ≠ I → D ≠ Cc → vs[i]? = some v → N₁ I = some oI → N₁ D = some (lst ys ys.length) → N₁ Cc = some oC → NsObj oC m → m x = some v → J i ys N₁ →
      SP w C (testsOf ifs (compEnvC scope cl Cc env)) l N₁ (fun ok l' N₂ => l' = l ∧ Br ok (SP w C (eval elt (compEnvC scope cl Cc env)) l N₂ (fun y l' N' => CTurn w C l I D Cc oI oC ys (J (i + 1) (ys ++ [y])) l' N')) (CTurn w C l I D Cc oI oC ys (J (i + 1) ys) l N₂)))
    (fin : ∀ D ys N', N D = none → J vs.length ys N' → N' D = some (lst ys ys.length) → Q D N') : SP w C (pyIter (.ref a)) l N (CompOf w C env elt x ifs scope cl l Q) := fun s hl hN => by
  refine wpAny_pyIter_list (isList_at (hN _ _ ha).1 la) (Po.intro (tk' := s.toks) (hl.push _) (hN.push hl _) ⟨rfl, _, vs.length, _, LiO a, _, _, rfl, It.list ok _ a vs, ?_, upd_self .., ⟨rfl, rfl⟩, hn, fun D Cc hD hC hDC => ?_⟩)
  · intro l N o Q hN0 ho hq s hl hN
    exact wpAny_pyIter_listiter (i := 0) ⟨o, (hN _ _ hN0).1, ho⟩ (Po.intro (tk' := s.toks) hl hN hq)
  have hI := hN.fresh
  generalize s.heap.objs.size = I at *
  have nD : D ≠ I := by (first | exact neH hD (upd_self ..) (by intro e_; cases e_) | exact Ne.symm (neH hD (upd_self ..) (by intro e_; cases e_)) | (rintro rfl; rw [upd_self] at hD; cases hD))
  have nC : Cc ≠ I := by (first | exact neH hC (upd_self ..) (by intro e_; cases e_) | exact Ne.symm (neH hC (upd_self ..) (by intro e_; cases e_)) | (rintro rfl; rw [upd_self] at hC; cases hC))
  rw [upd_ne nD] at hD
  rw [upd_ne nC] at hC
  refine ⟨J, mono I D Cc hI hD hC _ _ _ _ (Keep.new hI) h0, mono I D Cc hI hD hC, hdep, fun i v ys N₁ oI oC m hi hv e1 e2 e3 e4 e5 j => ?_, fun ys N' j e => fin D ys N' hD j e⟩
  exact turn I D Cc i v ys N₁ oI oC m hI hD hC nD nC hDC hv e1 e2 e3 e4 e5 j

/-! functions with cells -/
def bindLs (g : Str → Option NameKind) : List (Str × Value) → Ls → Ls
  | [], l => l
  | (n, v) :: r, l => bindLs g r (if g n = some .local then (n, v) :: l else l)
theorem bindLs_eq (g : Str → Option NameKind) : ∀ (b : List (Str × Value)) (m : Str → Option Value) (l : Ls), (∀ x, m x = l.lookup x) → ∀ x, bindL g b m x = (bindLs g b l).lookup x
  | [], m, l, h, x => h x
  | (n, v) :: r, m, l, h, x => by
    unfold bindL bindLs
    by_cases q : g n = some .local
    · rw [if_pos q, if_pos q]
      refine bindLs_eq g r _ _ (fun y => ?_) x
      rw [List.lookup_cons]
      by_cases e : y = n
      · subst e; simp
      · rw [if_neg e, beq_false_of_ne e]; exact h y
    · rw [if_neg q, if_neg q]; exact bindLs_eq g r m l h x
theorem enterC {w : World} {f : Addr} {args : List Value} {N : Hl} {r : Nat} {Q : Value → Hl → Prop} {name qual : Str} {params : Arguments} {body : List Stmt} {scope : Scope} {dV kV doc pm cdv ct oc : Value} {an od : Option Addr} {osl : Array (Option Value)} (binds : List (Str × Value)) (l₀ : Ls)
    (ho : (KH w.params).lookup f = some ⟨oc, od, .func (fnOf name qual params body scope dV kV doc pm an cdv ct), osl⟩) (hcd : codeIn (KH w.params) cdv qual = true)
    (hbind : ∀ s, BindsTo s (fnOf name qual params body scope dV kV doc pm an cdv ct) ⟨args, []⟩ binds)
    (hkind : ∀ n, ∀ x ∈ binds, scope.names.lookup x.1 = some .local ∨ (scope.names.lookup x.1 = some .cell ∧ ((cellsFrom n scope.names []).lookup x.1).isSome = true))
    (hnd : ((cellsFrom 0 scope.names []).map (·.1)).Nodup)
    (hco : scope.isCoroutine = false) (hgen : scope.isGenerator = false) (hk : scope.kind = .function)
    (hl₀ : bindLs (fun y => scope.names.lookup y) binds [] = l₀)
    (h : ∀ (C : Cx) (N₁ : Hl) (cells : List (Addr × Obj)), Ok w C (envOfC qual scope C.L f cdv) r → Keep [] N N₁ → (∀ p ∈ cells, N₁ p.1 = some p.2) → (∀ p ∈ cells, N p.1 = none) → CellsAre (bindC (envOfC qual scope C.L f cdv).kindOf binds fun _ => none) (cellsFrom (C.L + 1) scope.names []) cells →
      SP w C (execs body (envOfC qual scope C.L f cdv)) l₀ N₁ (RetQ Q)) :
    Calls w f args N (r + 1) Q := by
  intro C env ok l s hl hN
  refine e3_2 ok.be ?_
  intro A₀ base outer B hA
  refine e5_1 ok.T ?_
  intro p loose mean mg mb T
  have hl' := hl
  refine e1_3 hl' ?_
  try clear hl'
  intro m F hm z
  refine wpAny_call ?_
  refine callX_cells B F hN.news T.nolimit hA ok.fr ok.kd ((ok.X.keeps F.keep) _ _ ho) rfl (codeRec_of (ok.X.keeps F.keep) hcd) (by have := ok.hd; show C.A.depth < 1000; omega) (hbind s) hkind hnd
    (fun g L' h₁ tk cells FG F' N' Y B' st lt => ?_) hco hgen hk
  have e₀ : ∀ x, bindL (envOfC qual scope L' f cdv).kindOf binds (fun _ => none) x = l₀.lookup x := fun x => by
    rw [← hl₀]; exact bindLs_eq (fun y => scope.names.lookup y) binds _ [] (fun _ => rfl) x
  have hC : Ok w ⟨C.A.deeper (envOfC qual scope L' f cdv), g, L'⟩ (envOfC qual scope L' f cdv) r :=
    ⟨rfl, rfl, hk, rfl, rfl, ⟨A₀.deeper env, base, env :: outer, ⟨by
        obtain ⟨b1, _, _⟩ := B'
        exact Around.frames_deeper B.stack, B'.stays, B'.frames⟩, Around.frames_deeper hA⟩, ok.X.keeps st, ⟨p, loose, mean, mg, mb, T.keeps st⟩, ok.hh,
      by have := ok.hd; show C.A.depth + 1 + r ≤ 900; omega, by have := ok.hu; show C.A.units + 3 + 8 * r ≤ 9000; omega⟩
  have hz : sysModules < g.objs.size := by obtain ⟨oM, _, _, hM, _⟩ := (T.keeps st).g; exact Nat.lt_trans (by decide) (Heap.lt_size hM)
  classical
  let N₁ : Hl := fun a => match N a with
    | some o => some o
    | none => (cells.find? fun p => p.1 == a).map (·.2)
  have kN : Keep [] N N₁ := fun a o e _ => by show (match N a with | some o => some o | none => _) = _; rw [e]
  have hlo : ∀ p ∈ cells, L' < p.1 := by
    have : ∀ {cs : List (Str × Addr)} {cells : List (Addr × Obj)} {cm}, CellsAre cm cs cells → ∀ p ∈ cells, ∃ n, (n, p.1) ∈ cs := by
      intro cs cells cm y
      induction y with
      | nil => intro p hp; cases hp
      | cons _ _ ih =>
        intro p hp
        rcases List.mem_cons.mp hp with rfl | hp
        · exact ⟨_, .head _⟩
        · obtain ⟨n, hn⟩ := ih p hp; exact ⟨n, .tail _ hn⟩
    have low : ∀ (names : List (Str × NameKind)) (k : Nat) (acc : List (Str × Addr)), (∀ q ∈ acc, L' < q.2) → L' < k → ∀ q ∈ cellsFrom k names acc, L' < q.2 := by
      intro names
      induction names with
      | nil => intro k acc ha _ q hq; exact ha q hq
      | cons nk names ih =>
        intro k acc ha hk q hq
        obtain ⟨nm, kd⟩ := nk
        unfold cellsFrom at hq
        split at hq
        · refine ih (k + 1) _ (fun q hq => ?_) (Nat.lt_succ_of_lt hk) q hq
          rcases List.mem_cons.mp hq with rfl | hq
          · exact hk
          · exact ha q hq
        · exact ih k acc ha hk q hq
    intro p hp
    refine e1_1 (this Y p hp) ?_
    intro n hn
    exact low scope.names (L' + 1) [] (by simp) (Nat.lt_succ_self _) _ hn
  have hgt : ∀ p ∈ cells, g.objs.size < p.1 := fun p hp => Nat.lt_of_le_of_lt F'.above (hlo p hp)
  have cN : ∀ p ∈ cells, N p.1 = none := fun p hp => by
    cases e : N p.1 with
    | none => rfl
    | some o => exact absurd (Nat.lt_trans (lt _ (hN.mem e)) (hlo p hp)) (Nat.lt_irrefl _)
  have mem : ∀ (a : Addr) (o : Obj), (cells.find? fun p => p.1 == a).map (·.2) = some o → (a, o) ∈ cells := fun a o e => by
    refine e1_2 (Option.map_eq_some_iff.mp e) ?_
    intro q hq hy2_
    subst hy2_
    have h1 := List.find?_some hq
    have h2 := List.mem_of_find?_eq_some hq
    obtain ⟨b, o⟩ := q
    have : b = a := by simpa using h1
    subst this; exact h2
  have fnd : ∀ p ∈ cells, (cells.find? fun q => q.1 == p.1).map (·.2) = some p.2 := fun p hp => by
    cases e : cells.find? fun q => q.1 == p.1 with
    | none => have := List.find?_eq_none.mp e p hp; simp at this
    | some q =>
      have h1 := List.find?_some e
      have h2 := List.mem_of_find?_eq_some e
      have h3 : q.1 = p.1 := by simpa using h1
      have h4 := (N' q (List.mem_append_left _ h2)).1
      have h5 := (N' p (List.mem_append_left _ hp)).1
      rw [h3, h5] at h4
      rw [Option.map_some]; exact h4.symm
  have hN₁ : Led g L' h₁ N₁ := fun a o e => by
    cases q : N a with
    | some o' =>
      have : o' = o := by
        have e' : (match N a with | some o => some o | none => (cells.find? fun p => p.1 == a).map (·.2)) = some o := e
        rw [q] at e'; exact Option.some.inj e'
      subst this
      have x := N' _ (List.mem_append_right _ (hN.mem q))
      exact ⟨x.1, x.2.1, x.2.2, (hN a _ q).2.2.2⟩
    | none =>
      have e' : (match N a with | some o => some o | none => (cells.find? fun p => p.1 == a).map (·.2)) = some o := e
      rw [q] at e'
      have hm := mem a o e'
      have x := N' _ (List.mem_append_left _ hm)
      exact ⟨x.1, x.2.1, x.2.2, Nat.lt_trans hz (hgt _ hm)⟩
  have c1 : ∀ p ∈ cells, N₁ p.1 = some p.2 := fun p hp => by
    show (match N p.1 with | some o => some o | none => _) = _
    rw [cN p hp]; exact fnd p hp
  refine wpAny_mono (h ⟨C.A.deeper (envOfC qual scope L' f cdv), g, L'⟩ N₁ cells hC kN c1 cN Y { s with heap := h₁, toks := tk } ⟨_, F', fun x v e => (e₀ x).trans e, hz⟩ hN₁) (fun fl s' hp => ?_) (fun _ _ e => e.elim)
  refine e4_4 hp ?_
  try clear hp
  intro h' tk' l' N'' e hy5_ hN'' hq
  obtain ⟨m', F'', _⟩ := hy5_
  have e' : s'.heap = h' := by rw [e]
  subst e'
  refine leaveK_ F'' hN''.news fun kF kN => ?_
  exact ⟨s'.heap, tk', l, N'', e, ⟨m, kF, hm, z⟩, hN''.of kN, rfl, hq⟩
end
end
/-! part Sp13 -/
section
section
variable {w : World} {C : Cx} {α β : Type} {l : Ls} {N N' : Hl} {env : Env} {r : Nat}
theorem SP_inIntsT {a : Addr} {vs : List Value} {ns : List Int} {x : Int} {t : Tok} {Q : Value → Ls → Hl → Prop} (e : N a = some (tupObj vs)) (hs : IntsAre vs ns) (h : Q (.bool (ns.contains x)) l N) : SP w C (compareOp .In (.int x t) (.ref a)) l N Q := fun s hl hN => by
  refine SeqAt.in_tupleAt (intIs x) (isTup_at (hN _ _ e).1) (fun y hy => ?_) ?_
  · refine e2_1 (hs.all y (by first | exact nm1 hy | exact nm1 (Ne.symm hy) | simpa using hy)) ?_
    intro z u hy2_
    subst hy2_
    exact SeqAt.EqAt.int_int z u x t
  · rw [List.any_toArray, ints_any x hs]
    exact Po.intro (tk' := s.toks) hl hN h
theorem SP_addStr {x y : Str} {t u : Tok} {Q : Value → Ls → Hl → Prop} (hz : x.length + y.length ≤ 4096) (h : ∀ t', Q (.str (x ++ y) t') l N) : SP w C (binaryOp .Add (.str x t) (.str y u)) l N Q := fun s hl hN =>
  PyProof.Rows.add_str (fun t' tk => Po.intro hl hN (h t')) (sz hz)
theorem SP_strInt {a : Int} {t : Tok} {Q : Value → Ls → Hl → Prop} (ha : a.natAbs.log2 < 1920) (h : ∀ t', Q (.str (toString a) t') l N) : SP w C (call (.type "str") [.int a t]) l N Q := fun s hl hN =>
  PySem.P.str_of_int ha (Po.intro hl hN (h _))
theorem SP_addL {a b : Addr} {oa ob : Obj} {vs us : List Value} {Q : Value → Ls → Hl → Prop} (ha : N a = some oa) (la : LO oa vs) (hb : N b = some ob) (lb : LO ob us) (hz : vs.length + us.length ≤ 4096)
    (h : ∀ q n, N q = none → Q (.ref q) l (upd N q (lst (vs ++ us) n))) : SP w C (binaryOp .Add (.ref a) (.ref b)) l N Q := by
  rintro s hl hN
  refine e1_3 (id hl) ?_
  intro m F hm z
  refine PyProof.Rows.add_lists F hN.news (isList_at (hN _ _ ha).1 la) (isList_at (hN _ _ hb).1 lb) (fun h' F' N' => ?_) (sz hz)
  refine e0_2 (hN.cons N' (fun q hq => (mem_hlList.mp hq).1) (Nat.lt_trans (hN _ _ ha).2.2.2 (Heap.lt_size (hN _ _ ha).1))) ?_
  intro L' hn
  exact Po.intro (tk' := s.toks) ⟨m, F', hm, z⟩ L' (h _ 0 hn)
theorem SP_sliceL {value upper : Expr} {p pos : Pos} {Q : Value → Ls → Hl → Prop}
    (h : SP w C (eval value env) l N (fun o l' N' => SP w C (eval upper env) l' N' (fun u l'' N'' => ∃ a ob vs k tu, o = .ref a ∧ u = .int k tu ∧ N'' a = some ob ∧ LO ob vs ∧ 0 ≤ k ∧ vs.length ≤ 4096 ∧
      ∀ q N3, Keep [] N'' N3 → N'' q = none → N3 q = some (lst (vs.take k.toNat) 0) → Q (.ref q) l'' N3)))
    (ht : ∀ o r, letTemporaryGo value o r = pure () := by intro _ _; rfl) : SP w C (eval (.Subscript value (.Slice none (some upper) none p) pos) env) l N Q := fun s hl hN => by
  refine wpAny_Subscript_list_slice (h.run hl hN fun o h₁ tk₁ l₁ N₁ x₁ y₁ z₁ => wpAny_evalPart_none (wpAny_evalPart_some (z₁.run x₁ y₁ fun u h₂ tk₂ l₂ N₂ x₂ y₂ z₂ => ?_))) ht
  refine e5_7 z₂ ?_
  intro a ob vs k tu hy5_ hy6_ e lo h0 hz hq
  subst hy5_
  subst hy6_
  refine ⟨a, vs.toArray, none, some k, rfl, isList_at (y₂ _ _ e).1 lo, by simpa using sz hz, .none, .int k tu, ?_⟩
  have hk : slicePick vs.toArray none (some k) none = (vs.take k.toNat).toArray := by
    have := slicePick_upto' vs.toArray k.toNat
    rw [Int.toNat_of_nonneg h0] at this
    simpa using this
  rw [hk]
  have x3 := x₂.push ({ cls := .type "slice", data := .fields #[.none, .int k tu, .none] } : Obj)
  have y3 := y₂.push x₂ ({ cls := .type "slice", data := .fields #[.none, .int k tu, .none] } : Obj)
  have f3 := y₂.fresh
  have f4 := y3.fresh
  have e1 : (h₂.push ({ cls := .type "slice", data := .fields #[.none, .int k tu, .none] } : Obj)).objs.size = h₂.objs.size + 1 := Heap.size_push ..
  have y4 := y3.push x3 ({ cls := .type "list", data := .seq (vs.take k.toNat).toArray } : Obj)
  have x4 := x3.push ({ cls := .type "list", data := .seq (vs.take k.toNat).toArray } : Obj)
  rw [← e1]
  refine Po.intro x4 y4 (hq _ _ (((Keep.new f3).trans (Keep.new f4))) ?_ (upd_self ..))
  rw [upd_ne (by rw [e1]; exact Nat.succ_ne_self _)] at f4
  exact f4
end
end
/-! part Sp14 -/
section
/-- the dict of an object, by names -/
inductive EsL : List DictEntry → List (Str × Value) → Prop
  | nil : EsL [] []
  | cons {nm : Str} {tk : Tok} {v : Value} {hs : Int} {es : List DictEntry} {kvs : List (Str × Value)} : EsL es kvs → EsL (⟨hs, .str nm tk, v⟩ :: es) ((nm, v) :: kvs)
theorem EsL.len {es : List DictEntry} {kvs : List (Str × Value)} (h : EsL es kvs) : es.length = kvs.length := by
  induction h with
  | nil => rfl
  | cons _ ih => simp [ih]
theorem EsL.get {es : List DictEntry} {kvs : List (Str × Value)} (h : EsL es kvs) (name : Str) : getL name es = some (kvs.lookup name) := by
  have key : es.any (·.refKey) = false ∧ (es.find? (·.key.isStr name)).map (·.val) = kvs.lookup name := by
    induction h with
    | nil => exact ⟨rfl, rfl⟩
    | @cons nm tk v hs es kvs _ ih =>
      refine ⟨by rw [List.any_cons, ih.1]; rfl, ?_⟩
      rw [List.find?_cons, List.lookup_cons]
      show Option.map _ (match (nm == name) with | true => _ | false => _) = _
      by_cases q : nm = name
      · subst q; simp
      · rw [beq_false_of_ne q, beq_false_of_ne (Ne.symm q)]; exact ih.2
  unfold getL
  cases e : es.find? (·.key.isStr name) with
  | some x => rw [← key.2, e]; rfl
  | none => rw [← key.2, e]; dsimp only; rw [key.1]; rfl
theorem EsL.put {es : List DictEntry} {kvs : List (Str × Value)} (h : EsL es kvs) {name : Str} (hn : kvs.lookup name = none) (hs : Int) (tk : Tok) (v : Value) : EsL (putL name hs (.str name tk) v es) (kvs ++ [(name, v)]) := by
  induction h with
  | nil => exact .cons .nil
  | @cons nm tk' v' hs' es kvs _ ih =>
    rw [List.lookup_cons] at hn
    by_cases q : name = nm
    · subst q; simp at hn
    · rw [beq_false_of_ne q] at hn
      unfold putL
      rw [show (Value.str nm tk').isStr name = (nm == name) from rfl, beq_false_of_ne (Ne.symm q)]
      exact .cons (ih hn)
section
variable {w : World} {C : Cx} {α β : Type} {l : Ls} {N N' : Hl} {env : Env} {r : Nat}
theorem SP_setAttr (ok : Ok w C env r) {x dx Cl : Addr} {es : List DictEntry} {kvs : List (Str × Value)} {n : Nat} {name : Str} {v : Value} {Q : Unit → Ls → Hl → Prop} (h1 : N x = some (instObj Cl dx)) (h2 : N dx = some (dictOf es n)) (hes : EsL es kvs) (hname : kvs.lookup name = none) (hlen : kvs.length < 900)
    (hs : findIn (KH w.params) (.ref Cl) "__setattr__" = some (some (.builtin "object.__setattr__"))) (hp : plainOver (KH w.params) Cl = true) (ht : takerIn (KH w.params) Cl name = some none) (hh : hasDictIn (KH w.params) Cl = true)
    (h : ∀ es' n', EsL es' (kvs ++ [(name, v)]) → Q () l (upd N dx (dictOf es' n'))) : SP w C (setAttr (.ref x) name v) l N Q := by
  rintro s hl hN
  refine e1_3 (id hl) ?_
  intro m F hm z
  have hN' : News C.h₀ C.L s.heap ((dx, dictOf es n) :: hlList s.heap (hide N dx)) := fun p hp => by
    rcases List.mem_cons.mp hp with rfl | hp
    · have x := hN _ _ h2; exact ⟨x.1, x.2.1, x.2.2.1⟩
    · have e := (mem_hlList.mp hp).2
      have ne : p.1 ≠ dx := by intro q; simp [hide, q] at e
      rw [hide_ne ne] at e
      have x := hN _ _ e; exact ⟨x.1, x.2.1, x.2.2.1⟩
  have hput := hes.put hname (PyData.keyHash w.params name) (s.toks + 1) v
  refine set_dict F ok.X hN' (inst_at hN h1 h2) rfl hs hp ht hh (by rw [hes.get]; rfl) rfl (.head fun p hp => ?_) (by rw [hput.len]; simp; omega) fun h' F' N'' => ?_
  · have e := (mem_hlList.mp hp).2
    intro q; simp [hide, q] at e
  · refine Po.intro (l := l) (N := upd N dx (dictOf (putL name (PyData.keyHash w.params name) (.str name (s.toks + 1)) v es) (putN name es n))) ⟨m, F', hm, z⟩ (fun a o e => ?_) (h _ _ hput)
    by_cases ha : a = dx
    · subst ha
      rw [upd_self] at e; cases e
      have y := N'' _ (.head _)
      exact ⟨y.1, y.2.1, y.2.2, (hN _ _ h2).2.2.2⟩
    · rw [upd_ne ha] at e
      have y := N'' (a, o) (.tail _ (mem_hlList.mpr ⟨Heap.lt_size (hN a o e).1, by rw [hide_ne ha]; exact e⟩))
      exact ⟨y.1, y.2.1, y.2.2, (hN a o e).2.2.2⟩
theorem SP_AssignAttr {o : Expr} {attr : Str} {pos' pos : Pos} {value : Expr} {Q : Flow → Ls → Hl → Prop}
    (h : SP w C (eval value env) l N (fun v l' N' => SP w C (eval o env) l' N' (fun ov l' N' => SP w C (setAttr ov attr v) l' N' (fun _ => Q .next))))
    (hs : swapsWith value (some (.Attribute o attr pos')) pos.line env = pure false := by rfl) : SP w C (exec (.Assign [.Attribute o attr pos'] value pos) env) l N Q := fun _ hl hN =>
  PySem.plainObj_wpAny_Assign_Attribute (h.run hl hN fun _ _ _ _ _ x y z => (z.run x y fun _ _ _ _ _ x y z => z.go x y)) hs

/-- a call as code -/
def CallsC (w : World) (f : Addr) (args : List Value) (N : Hl) (r : Nat) (Q : Value → Hl → Prop) : Prop :=
  ∀ (C : Cx) (env : Env), Ok w C env r → ∀ l s, Loc C.h₀ C.L s.heap l → Led C.h₀ C.L s.heap N → ∀ R : Result → Shared → Prop, (∀ v s', Po C s (fun v l' N' => l' = l ∧ Q v N') v s' → R (.ok (.ret v)) s') → codeAny (model PG w) C.A (.call (.ref f) ⟨args, []⟩) R s
theorem enterCode {w : World} {f : Addr} {args : List Value} {N : Hl} {r : Nat} {Q : Value → Hl → Prop} {name qual : Str} {params : Arguments} {body : List Stmt} {scope : Scope} {dV kV doc pm cdv ct oc : Value} {an od : Option Addr} {osl : Array (Option Value)} (binds l₀ : List (Str × Value))
    (ho : (KH w.params).lookup f = some ⟨oc, od, .func (fnOf name qual params body scope dV kV doc pm an cdv ct), osl⟩) (hcd : codeIn (KH w.params) cdv qual = true)
    (hbind : ∀ s, BindsTo s (fnOf name qual params body scope dV kV doc pm an cdv ct) ⟨args, []⟩ binds) (hloc : ∀ y ∈ binds, scope.names.lookup y.1 = some .local)
    (hco : scope.isCoroutine = false) (hgen : scope.isGenerator = false) (hk : scope.kind = .function) (hcell : ∀ x ∈ scope.names, x.2 ≠ .cell) (hl₀ : binds.reverse = l₀)
    (h : ∀ C : Cx, Ok w C (envOf qual scope C.L f cdv) r → SP w C (execs body (envOf qual scope C.L f cdv)) l₀ N (RetQ Q)) :
    CallsC w f args N (r + 1) Q := by
  subst hl₀
  intro C env ok l s hl hN R hR
  refine e3_2 ok.be ?_
  intro A₀ base outer B hA
  refine e5_1 ok.T ?_
  intro p loose mean mg mb T
  have hl' := hl
  refine e1_3 hl' ?_
  try clear hl'
  intro m F hm z
  refine callX_plain (cl := []) B F hN.news T.nolimit hA ok.fr ok.kd ((ok.X.keeps F.keep) _ _ ho) rfl (codeRec_of (ok.X.keeps F.keep) hcd) (by have := ok.hd; show C.A.depth < 1000; omega) (hbind s) hloc
    (fun g L' h₁ FG F' N' B' st lt => ?_) hcell hco hgen hk
  have hC : Ok w ⟨C.A.deeper (envOf qual scope L' f cdv), g, L'⟩ (envOf qual scope L' f cdv) r :=
    ⟨rfl, rfl, hk, rfl, rfl, ⟨A₀.deeper env, base, env :: outer, ⟨by
        obtain ⟨b1, _, _⟩ := B'
        exact Around.frames_deeper B.stack, B'.stays, B'.frames⟩, Around.frames_deeper hA⟩, ok.X.keeps st, ⟨p, loose, mean, mg, mb, T.keeps st⟩, ok.hh,
      by have := ok.hd; show C.A.depth + 1 + r ≤ 900; omega, by have := ok.hu; show C.A.units + 3 + 8 * r ≤ 9000; omega⟩
  refine wpAny_mono (h ⟨C.A.deeper (envOf qual scope L' f cdv), g, L'⟩ hC { s with heap := h₁, toks := s.toks + binds.length } ⟨_, F', fun _ _ e => e, by obtain ⟨oM, _, _, hM, _⟩ := (T.keeps st).g; exact Nat.lt_trans (by decide) (Heap.lt_size hM)⟩ (hN.of' N')) (fun fl s' hp => ?_) (fun _ _ e => e.elim)
  refine e4_4 hp ?_
  try clear hp
  intro h' tk' l' N'' e hy5_ hN'' hq
  obtain ⟨m', F'', _⟩ := hy5_
  have e' : s'.heap = h' := by rw [e]
  subst e'
  refine leaveK_ F'' hN''.news fun kF kN => ?_
  exact hR _ _ ⟨s'.heap, tk', l, N'', e, ⟨m, kF, hm, z⟩, hN''.of kN, rfl, hq⟩
theorem Ok.under (ok : Ok w C env (r + 2)) (Cl : Addr) : Ok w ⟨C.A.under (.builtin "type.__call__" ⟨[.ref Cl], []⟩), C.h₀, C.L⟩ env r :=
  ⟨ok.loc, ok.fr, ok.kd, ok.gl, ok.bl, let ⟨A₀, base, outer, B, hA⟩ := ok.be; ⟨A₀, base, outer, B, hA⟩, ok.X, ok.T, ok.hh, by have := ok.hd; show C.A.depth + 1 + r ≤ 900; omega, by have := ok.hu; show C.A.units + 1 + 8 * r ≤ 9000; omega⟩
theorem SP_newInst (ok : Ok w C env (r + 2)) (hne : ∃ a o, N a = some o) {Cl fI : Addr} {Q : Value → Ls → Hl → Prop} (hm : makesIn (KH w.params) Cl = true) (hi : findIn (KH w.params) (.ref Cl) "__init__" = some (some (.ref fI))) (hf : typeIn (KH w.params) (.ref fI) = some (.type "function"))
    (h : ∀ x dx, N x = none → N dx = none → x ≠ dx → CallsC w fI [.ref x] (upd (upd N dx (dictOf [] 0)) x (instObj Cl dx)) r (fun v N' => v = .none ∧ Q (.ref x) l N')) : SP w C (call (.ref Cl) []) l N Q := by
  rintro s hl hN
  refine e1_3 (id hl) ?_
  intro m F hm' z
  refine wpAny_call (make_K F hN.news (ok.X.keeps F.keep) hm hi hf fun x dx h' F' N' lt1 lt2 => ?_)
  have hdx : N dx = none := by
    cases e : N dx with
    | none => rfl
    | some o => exact absurd (lt1 _ (hN.mem e)) (Nat.lt_irrefl _)
  have hx : N x = none := by
    cases e : N x with
    | none => rfl
    | some o => exact absurd (Nat.lt_trans (lt1 _ (hN.mem e)) lt2) (Nat.lt_irrefl _)
  have nxd : x ≠ dx := Nat.ne_of_gt lt2
  have hsm : sysModules < dx := by
    refine e2_1 hne ?_
    try clear hne
    intro a o e
    exact Nat.lt_trans (hN _ _ e).2.2.2 (lt1 _ (hN.mem e))
  refine h x dx hx hdx nxd ⟨_, C.h₀, C.L⟩ env (ok.under Cl) l { s with heap := h' } ⟨m, F', hm', z⟩ (fun a o e => ?_) _ fun v s' hp => ?_
  · by_cases ha : a = x
    · subst ha; rw [upd_self] at e; cases e
      have y := N' _ (.head _); exact ⟨y.1, y.2.1, y.2.2, Nat.lt_trans hsm lt2⟩
    · rw [upd_ne ha] at e
      by_cases hb : a = dx
      · subst hb; rw [upd_self] at e; cases e
        have y := N' _ (.tail _ (.head _)); exact ⟨y.1, y.2.1, y.2.2, hsm⟩
      · rw [upd_ne hb] at e
        have y := N' _ (.tail _ (.tail _ (hN.mem e))); exact ⟨y.1, y.2.1, y.2.2, (hN _ _ e).2.2.2⟩
  · refine e4_6 hp ?_
    try clear hp
    intro h'' tk'' l' N'' e a b hy7_ hy8_ hq
    subst hy7_
    subst hy8_
    exact ⟨rfl, h'', tk'', l', N'', e, a, b, hq⟩
end
end
local macro_rules | `(tactic| walk_at "m_ent") => `(tactic| ((case ho => k_is); (case hcd => k_is); (case hb => exact fun s => BindsTo.of_eq rfl); (case hl => exact locs rfl); (case c1 => exact rfl); (case c2 => exact rfl); (case c3 => exact rfl); (case c4 => decide); (case c5 => exact rfl)))
local macro_rules | `(tactic| walk_at "m_rfl") => `(tactic| (with_unfolding_all exact rfl))
local macro_rules | `(tactic| walk_at "m_has") => `(tactic| (repeat (first | exact Has.nil | refine Has.more rfl ?_)))
local macro_rules | `(tactic| walk_at "n1") => `(tactic| with_reducible first
  | (refine' SP_local ?a ?b ?c ?_ ?d; (case a => assumption); (case b => walk_at "m_rfl"); (case c => walk_at "m_rfl"); (case d => decide))
  | (refine' SP_args ?_ ?a; (case a => walk_at "m_rfl"))
  | (refine SP_int ?_; intro _)
  | (refine SP_str ?_; intro _)
  | refine Nx.next ?_
  | (refine' SP_Call ?_ ?a; (case a => walk_at "m_rfl"))
  | refine SP_args0 ?_
  | (refine' SP_store ?a ?b ?_; (case a => assumption); (case b => walk_at "m_rfl"))
  | (refine' SP_cell ?a ?b ?c ?d ?e ?_ ?f; (case a => assumption); (case b => walk_at "m_rfl"); (case c => walk_at "m_rfl"); (case d => assumption); (case e => assumption); (case f => decide))
  | (refine' SP_global ?a ?b ?c ?_ ?d; (case a => assumption); (case b => walk_at "m_rfl"); (case c => k_is); (case d => decide))
  | (refine' SP_builtin ?a ?b ?c ?e ?f ?_ ?d; (case a => assumption); (case b => walk_at "m_rfl"); (case c => k_is); (case e => boot_fast); (case f => decide); (case d => decide))
  | (refine' SP_callK ?a ?k ?_ ?b ?c; (case a => assumption); (case k => k_is); (case b => walk_at "m_rfl"); (case c => walk_at "m_rfl"))
  | (refine' SP_callK0 ?a ?k ?_; (case a => assumption); (case k => k_is))
  | refine SP_nil ?_
  | refine Nx.ret ?_
  | refine SP_Continue ?_
  | refine Nx.cont ?_
  | refine RetQ.ret ?_
  | refine RetQ.next ?_
  | (refine' SP_AssignName ?_ ?a; (case a => walk_at "m_rfl"))
  | (refine' SP_AssignSub ?_ ?a; (case a => walk_at "m_rfl"))
  | refine SP_If ?_
  | refine SP_Return ?_
  | refine SP_bool ?_
  | refine SP_none ?_
  | (refine' SP_sliceL ?_ ?a; (case a => intro _ _; walk_at "m_rfl"))
  | refine SP_Subscript ?_
  | (refine' SP_Attribute ?_ ?a; (case a => walk_at "m_rfl"))
  | refine SP_BinOp ?_
  | (refine' SP_Compare ?_ ?a; (case a => walk_at "m_rfl"))
  | (refine' SP_isTrueCompare ?_ ?a; (case a => walk_at "m_rfl"))
  | refine SP_truthyBool ?_
  | refine SP_isTrueNot ?_
  | refine SP_isTrueAnd0 ?_
  | refine SP_isTrueAnd ?_
  | refine SP_isTrueOr0 ?_
  | refine SP_isTrueOr ?_
  | refine SP_IfExp ?_
  | refine SP_BoolAnd ?_
  | refine SP_Bool1 ?_
  | (refine' SP_MethCall ?_ ?a; (case a => walk_at "m_rfl"))
  | (refine' SP_Expr ?_ ?a ?b; (case a => walk_at "m_rfl"); (case b => walk_at "m_rfl"))
  | (refine' SP_callB ?_ ?a ?b; (case a => walk_at "m_rfl"); (case b => walk_at "m_rfl"))
  | refine SP_callB0 ?_
  | (refine' SP_callT ?_ ?a ?b; (case a => walk_at "m_rfl"); (case b => walk_at "m_rfl"))
  | refine SP_Tuple ?_
  | refine SP_List ?_
  | (refine SP_add ?_; intro _)
  | (refine SP_sub ?_; intro _)
  | refine SP_ltI ?_
  | refine SP_gtI ?_
  | refine SP_eqI ?_
  | refine SP_neI ?_
  | refine SP_eqS ?_
  | (refine' b_term_ops ?a ?b ?_; (case a => assumption); (case b => assumption))
  | (refine' b_term_args ?a ?b ?_; (case a => assumption); (case b => assumption))
  | (refine' b_term_sorts ?a ?b ?_; (case a => assumption); (case b => assumption))
  | (refine' b_term_datas ?a ?b ?_; (case a => assumption); (case b => assumption))
  | (refine' b_numbers ?a ?b ?_; (case a => assumption); (case b => assumption))
  | (refine' b_fun_names ?a ?b ?_; (case a => assumption); (case b => assumption))
  | (refine' b_fun_args ?a ?b ?_; (case a => assumption); (case b => assumption))
  | (refine' b_fun_results ?a ?b ?_; (case a => assumption); (case b => assumption))
  | (refine' b_true_number ?a ?b ?_; (case a => assumption); (case b => assumption))
  | (refine' b_false_number ?a ?b ?_; (case a => assumption); (case b => assumption))
  | (refine' m_declare_fun ?a ?b ?_; (case a => assumption); (case b => assumption); dsimp only)
  | (refine' m_fresh_const ?a ?b ?_; (case a => assumption); (case b => assumption); dsimp only)
  | (refine' m_op ?a ?b ?_; (case a => assumption); (case b => assumption); dsimp only)
  | (refine' m_args ?a ?b ?_; (case a => assumption); (case b => assumption); dsimp only)
  | (refine' m_sort ?a ?b ?_; (case a => assumption); (case b => assumption); dsimp only)
  | (refine' m_size ?a ?b ?_; (case a => assumption); (case b => assumption); dsimp only)
  | (refine' m_make ?a ?b ?_; (case a => assumption); (case b => assumption); dsimp only)
  | (refine' m_find_made ?a ?b ?_; (case a => assumption); (case b => assumption); dsimp only)
  | (refine' m_want ?a ?b ?_; (case a => assumption); (case b => assumption); dsimp only)
  | (refine' m_want_all ?a ?b ?_; (case a => assumption); (case b => assumption); dsimp only)
  | (refine' m_parts ?a ?b ?_; (case a => assumption); (case b => assumption); dsimp only)
  | (refine' m_parts_of_all ?a ?b ?_; (case a => assumption); (case b => assumption); dsimp only)
  | (refine' m_not_of ?a ?b ?_; (case a => assumption); (case b => assumption); dsimp only)
  | (refine' m_and_of ?a ?b ?_; (case a => assumption); (case b => assumption); dsimp only)
  | (refine' m_or_of ?a ?b ?_; (case a => assumption); (case b => assumption); dsimp only)
  | (refine' m_xor_of ?a ?b ?_; (case a => assumption); (case b => assumption); dsimp only)
  | (refine' m_implies_of ?a ?b ?_; (case a => assumption); (case b => assumption); dsimp only)
  | (refine' m_eq ?a ?b ?_; (case a => assumption); (case b => assumption); dsimp only)
  | (refine' m_distinct ?a ?b ?_; (case a => assumption); (case b => assumption); dsimp only)
  | (refine' m_ite ?a ?b ?_; (case a => assumption); (case b => assumption); dsimp only)
  | (refine' m_app ?a ?b ?_; (case a => assumption); (case b => assumption); dsimp only)
  | (refine' m_folded ?a ?b ?_; (case a => assumption); (case b => assumption); dsimp only)
  )
local macro_rules | `(tactic| walk_at "mc1") => `(tactic| with_reducible first
  | refine Nx.next ?_
  | refine SP_nil ?_
  | refine Nx.ret ?_
  | refine SP_Continue ?_
  | refine Nx.cont ?_
  | refine RetQ.ret ?_
  | refine RetQ.next ?_
  | (refine' SP_AssignName ?_ ?a; (case a => walk_at "m_rfl"))
  | (refine' SP_AssignSub ?_ ?a; (case a => walk_at "m_rfl"))
  | refine SP_If ?_
  | refine SP_Return ?_
  | (refine' SP_cellC ?a ?b ?c ?d ?e ?_ ?f; (case a => exact Ok.nm (by assumption) rfl _ _); (case b => walk_at "m_rfl"); (case c => walk_at "m_rfl"); (case d => assumption); (case e => assumption); (case f => decide))
  | (refine' SP_globalC ?a ?b ?c ?_ ?d; (case a => exact Ok.nm (by assumption) rfl _ _); (case b => walk_at "m_rfl"); (case c => k_is); (case d => decide))
  | (refine' SP_builtinC ?a ?b ?c ?e ?f ?_ ?d; (case a => exact Ok.nm (by assumption) rfl _ _); (case b => walk_at "m_rfl"); (case c => k_is); (case e => boot_fast); (case f => decide); (case d => decide))
  | (refine SP_int ?_; intro _)
  | (refine SP_str ?_; intro _)
  | refine SP_bool ?_
  | refine SP_none ?_
  | (refine' SP_sliceL ?_ ?a; (case a => intro _ _; walk_at "m_rfl"))
  | refine SP_Subscript ?_
  | (refine' SP_Attribute ?_ ?a; (case a => walk_at "m_rfl"))
  | refine SP_BinOp ?_
  | (refine' SP_Compare ?_ ?a; (case a => walk_at "m_rfl"))
  | (refine' SP_isTrueCompare ?_ ?a; (case a => walk_at "m_rfl"))
  | refine SP_truthyBool ?_
  | refine SP_isTrueNot ?_
  | refine SP_isTrueAnd0 ?_
  | refine SP_isTrueAnd ?_
  | refine SP_isTrueOr0 ?_
  | refine SP_isTrueOr ?_
  | refine SP_IfExp ?_
  | refine SP_BoolAnd ?_
  | refine SP_Bool1 ?_
  | (refine' SP_MethCall ?_ ?a; (case a => walk_at "m_rfl"))
  | (refine' SP_Call ?_ ?a; (case a => walk_at "m_rfl"))
  | (refine' SP_Expr ?_ ?a ?b; (case a => walk_at "m_rfl"); (case b => walk_at "m_rfl"))
  | (refine' SP_callKC ?a ?k ?_ ?b ?c; (case a => exact Ok.nm (by assumption) rfl _ _); (case k => k_is); (case b => walk_at "m_rfl"); (case c => walk_at "m_rfl"))
  | (refine' SP_callB ?_ ?a ?b; (case a => walk_at "m_rfl"); (case b => walk_at "m_rfl"))
  | refine SP_callB0 ?_
  | (refine' SP_callT ?_ ?a ?b; (case a => walk_at "m_rfl"); (case b => walk_at "m_rfl"))
  | refine SP_Tuple ?_
  | refine SP_List ?_
  | (refine' SP_args ?_ ?a; (case a => walk_at "m_rfl"))
  | refine SP_args0 ?_
  | (refine SP_add ?_; intro _)
  | (refine SP_sub ?_; intro _)
  | refine SP_ltI ?_
  | refine SP_gtI ?_
  | refine SP_eqI ?_
  | refine SP_neI ?_
  | refine SP_eqS ?_
  )
local macro_rules | `(tactic| walk_at "m1") => `(tactic| first | (with_reducible refine SP_cons ?_) | walk_at "n1")
local macro_rules | `(tactic| walk_at "m") => `(tactic| repeat (first | (with_reducible refine SP_cons ?_) | walk_at "n1"))
local macro_rules | `(tactic| walk_at "mc") => `(tactic| repeat (first | (with_reducible refine SP_cons ?_) | walk_at "mc1"))
local macro_rules | `(tactic| walk_at "n") => `(tactic| repeat walk_at "n1")
/-! part Fn1 -/
section
set_option linter.unusedVariables false
namespace entered_spec_c
def P (w : World) (N : Hl) (B : BkA) (k : Sh) (e : Addr) (t1 : Tok) (t2 : Tok) (t3 : Tok) (r : Nat) : Prop := ∀ (rows : Rws) (hB : BookIn w N B rows) (he : TupI N e k.args) (ho : OpOk k) (hz : rows.length < 1000), Calls w 403 [.ref B.b, .str k.op t1, .ref e, .int k.kind t2, .int k.data t3] N (r + 1) (fun v N' => ∃ t, v = .int (num (ent rows k) k) t ∧ BookIn w N' B (ent rows k) ∧ Keep [B.r, B.d] N N')
noncomputable def V : World × Hl × BkA × Sh × Addr × Tok × Tok × Tok × Nat := pick (aWorld 0, fun _ => none, ⟨0, 0, 0⟩, ⟨Str.empty, [], 0, 0⟩, 0, 0, 0, 0, 0) fun q => P q.1 q.2.1 q.2.2.1 q.2.2.2.1 q.2.2.2.2.1 q.2.2.2.2.2.1 q.2.2.2.2.2.2.1 q.2.2.2.2.2.2.2.1 q.2.2.2.2.2.2.2.2
@[irreducible] noncomputable def w : World := V.1
@[irreducible] noncomputable def N : Hl := V.2.1
@[irreducible] noncomputable def B : BkA := V.2.2.1
@[irreducible] noncomputable def k : Sh := V.2.2.2.1
@[irreducible] noncomputable def e : Addr := V.2.2.2.2.1
@[irreducible] noncomputable def t1 : Tok := V.2.2.2.2.2.1
@[irreducible] noncomputable def t2 : Tok := V.2.2.2.2.2.2.1
@[irreducible] noncomputable def t3 : Tok := V.2.2.2.2.2.2.2.1
@[irreducible] noncomputable def r : Nat := V.2.2.2.2.2.2.2.2
theorem core : P w N B k e t1 t2 t3 r := by
  unfold P
  intro rows hB he ho hz
  refine' enter [(Str.ofString "book_now", .ref B.b), (Str.ofString "op", .str k.op t1), (Str.ofString "ends", .ref e), (Str.ofString "kind", .int k.kind t2), (Str.ofString "label", .int k.data t3)] [(Str.ofString "label", .int k.data t3), (Str.ofString "kind", .int k.kind t2), (Str.ofString "ends", .ref e), (Str.ofString "op", .str k.op t1), (Str.ofString "book_now", .ref B.b)] ?ho ?hcd ?hb ?hl ?c1 ?c2 ?c3 ?c4 ?c5 ?_
  walk_at "m_ent"
  refine pickC ?_
  intro ok
  walk_at "m"
  refine e1_2 hB ?_
  try clear hB
  intro xs hy1_ hy2_
  obtain ⟨hbd, hb, ⟨n, hr⟩, hd, hn⟩ := hy1_
  subst hy2_
  refine SP_newTuple (fun q hq => ?_) (sz (by simp))
  have hk : KeyT (upd N q (tupObj [.str k.op t1, .ref e, .int k.kind t2, .int k.data t3])) q k := ⟨t1, e, t2, t3, upd_self .., he.keep (TupKeep.new hq)⟩
  have hK1 : Keep [B.r, B.d] N (upd N q (tupObj [.str k.op t1, .ref e, .int k.kind t2, .int k.data t3])) := Keep.new hq
  have hb1 : DicF (SK w) (upd N q (tupObj [.str k.op t1, .ref e, .int k.kind t2, .int k.data t3])) B.b (bookF B) := hb.le fun o h _ => upd_old h hq
  have hr1 : upd N q (tupObj [.str k.op t1, .ref e, .int k.kind t2, .int k.data t3]) B.r = some (lst (xs.map fun x => .ref x.2.1) n) := upd_old hr hq
  have hd1 : DicH w (upd N q (tupObj [.str k.op t1, .ref e, .int k.kind t2, .int k.data t3])) B.d xs := by
    refine e1_2 hd.get ?_
    intro o h _
    exact hd.keep (TupKeep.new hq) ((upd_old h hq).trans h.symm)
  generalize upd N q (tupObj [.str k.op t1, .ref e, .int k.kind t2, .int k.data t3]) = N1 at hk hK1 hb1 hr1 hd1 ⊢
  walk_at "m"
  refine SP_sItem hb1 (bookF_nums B) ?_ (by walk_at "m_rfl")
  refine SP_dIn ok hd1 hk ho ?_
  walk_at "m"
  have hz' : xs.length < 1000 := by simpa using hz
  refine e1_3 hd1.get ?_
  intro od hod hodc _
  have hne : B.r ≠ B.d := by
    intro q; rw [q] at hr1; rw [hr1] at hod; cases hod; exact lst_nd hodc
  have hnd : (xs.map (·.1)).Nodup := by obtain ⟨_, _, _, _, _, _, _, _, h⟩ := hd1; exact h
  refine ⟨fun hin => ?_, fun hin => ?_⟩
  · have hk0 : k ∉ xs.map (·.1) := fun hmem => by
      refine e2_1 (atKey_idx hn hnd hmem) ?_
      intro a t e1
      rw [e1] at hin; simp at hin
    have hat := atKey_out hk0
    walk_at "m"
    refine SP_sItem hb1 (bookF_rows B) ?_ (by walk_at "m_rfl")
    refine SP_mAppend hr1 ?_
    dsimp only
    walk_at "m"
    refine SP_append hr1 (by rw [List.length_map, sizeLine_eq]; omega) ?_
    refine ⟨trivial, ?_⟩
    have hb2 : DicF (SK w) (upd N1 B.r (lst ((xs.map fun x => .ref x.2.1) ++ [.ref q]) (n + 1))) B.b (bookF B) := hb1.le fun o h hc => by
      rw [upd_ne]; exact h
      intro q; rw [q, hr1] at h; cases h; exact lst_nd hc
    have hk2 : KeyT (upd N1 B.r (lst ((xs.map fun x => .ref x.2.1) ++ [.ref q]) (n + 1))) q k := hk.keep (TupKeep.chg hr1 (lst_nt _ _))
    have hd2 : DicH w (upd N1 B.r (lst ((xs.map fun x => .ref x.2.1) ++ [.ref q]) (n + 1))) B.d xs := hd1.keep (TupKeep.chg hr1 (lst_nt _ _)) (upd_ne hne.symm)
    have hr2 : (upd N1 B.r (lst ((xs.map fun x => .ref x.2.1) ++ [.ref q]) (n + 1))) B.r = some (lst ((xs.map fun x => .ref x.2.1) ++ [.ref q]) (n + 1)) := upd_self ..
    have hK2 : Keep [B.r, B.d] N (upd N1 B.r (lst ((xs.map fun x => .ref x.2.1) ++ [.ref q]) (n + 1))) := hK1.trans (Keep.chg (by simp))
    generalize upd N1 B.r (lst ((xs.map fun x => .ref x.2.1) ++ [.ref q]) (n + 1)) = N2 at hb2 hk2 hd2 hr2 hK2 ⊢
    walk_at "m"
    refine SP_sItem hb2 (bookF_rows B) ?_ (by walk_at "m_rfl")
    walk_at "m"
    refine SP_lenL hr2 (LO.lst _ _) (by simp; omega) fun tl => ?_
    walk_at "m"
    refine SP_sItem hb2 (bookF_nums B) ?_ (by walk_at "m_rfl")
    walk_at "m"
    refine SP_dSet ok hd2 hk2 ho (by rw [sizeLine_eq]; omega) fun o' hd3 => ?_
    refine e1_3 hd2.get ?_
    intro od2 hod2 hodc2 _
    refine e1_3 hd3.get ?_
    intro od3 hod3 hodc3 _
    rw [storedH_new hat] at hd3
    have tk3 : TupKeep N2 (upd N2 B.d o') := TupKeep.chg hod2 (dic_nt hodc2)
    have hb3 : DicF (SK w) (upd N2 B.d o') B.b (bookF B) := hb2.le fun o h hc => by rw [upd_ne hbd]; exact h
    have hr3 : upd N2 B.d o' B.r = some (lst ((xs.map fun x => .ref x.2.1) ++ [.ref q]) (n + 1)) := by rw [upd_ne hne]; exact hr2
    have hk3 := hk2.keep tk3
    have hK3 : Keep [B.r, B.d] N (upd N2 B.d o') := hK2.trans (Keep.chg (by simp))
    generalize upd N2 B.d o' = N3 at hd3 hb3 hr3 hk3 hK3 ⊢
    walk_at "m"
    refine SP_sItem hb3 (bookF_nums B) ?_ (by walk_at "m_rfl")
    walk_at "m"
    have hlen : (((xs.map fun x => Value.ref x.2.1) ++ [Value.ref q]).length : Int) = (xs.length : Int) + 1 := by simp
    rw [hlen] at hd3
    have hn3 : Numd (xs ++ [(k, q, .int ((xs.length : Int) + 1) tl)]) := hn.snoc
    have hnd3 : ((xs ++ [(k, q, Value.int ((xs.length : Int) + 1) tl)]).map (·.1)).Nodup := by obtain ⟨_, _, _, _, _, _, _, _, h⟩ := hd3; exact h
    have hen : (xs ++ [(k, q, Value.int ((xs.length : Int) + 1) tl)]).map (·.1) = ent (xs.map (·.1)) k := by unfold ent; rw [if_neg hk0]; simp
    refine e2_1 (atKey_idx (k := k) hn3 hnd3 (by simp)) ?_
    intro a ta hat3
    refine SP_dItem ok hd3 hk3 ho hat3 ?_ (by walk_at "m_rfl")
    walk_at "m"
    rw [← hen]
    exact ⟨ta, rfl, ⟨_, ⟨hbd, hb3, ⟨n + 1, by simpa using hr3⟩, hd3, hn3⟩, rfl⟩, hK3⟩
  · have hmem : k ∈ xs.map (·.1) := by
      by_cases h : k ∈ xs.map (·.1)
      · exact h
      · rw [atKey_out h] at hin; simp at hin
    refine e2_1 (atKey_idx hn hnd hmem) ?_
    intro a ta hat
    walk_at "m"
    refine SP_sItem hb1 (bookF_nums B) ?_ (by walk_at "m_rfl")
    walk_at "m"
    refine SP_dItem ok hd1 hk ho hat ?_ (by walk_at "m_rfl")
    walk_at "m"
    have hen : ent (xs.map (·.1)) k = xs.map (·.1) := by unfold ent; rw [if_pos hmem]
    rw [hen]
    exact ⟨ta, rfl, ⟨_, ⟨hbd, hb1, ⟨n, hr1⟩, hd1, hn⟩, rfl⟩, hK1⟩
end entered_spec_c
theorem entered_spec {w : World} {N : Hl} {B : BkA} {rows : Rws} {k : Sh} {e : Addr} {t1 t2 t3 : Tok} (r : Nat) (hB : BookIn w N B rows) (he : TupI N e k.args) (ho : OpOk k) (hz : rows.length < 1000) :
    Calls w 403 [.ref B.b, .str k.op t1, .ref e, .int k.kind t2, .int k.data t3] N (r + 1) (fun v N' => ∃ t, v = .int (num (ent rows k) k) t ∧ BookIn w N' B (ent rows k) ∧ Keep [B.r, B.d] N N') :=
  pickAll (P := fun q : World × Hl × BkA × Sh × Addr × Tok × Tok × Tok × Nat => entered_spec_c.P q.1 q.2.1 q.2.2.1 q.2.2.2.1 q.2.2.2.2.1 q.2.2.2.2.2.1 q.2.2.2.2.2.2.1 q.2.2.2.2.2.2.2.1 q.2.2.2.2.2.2.2.2) (aWorld 0, fun _ => none, ⟨0, 0, 0⟩, ⟨Str.empty, [], 0, 0⟩, 0, 0, 0, 0, 0) (by with_unfolding_all exact entered_spec_c.core) (w, N, B, k, e, t1, t2, t3, r) rows hB he ho hz
end
/-! part FnR -/
section
structure EsRaw (A : BnkA) : Prop where
  a_term_ops : getL (Str.ofString "term_ops") A.es = some (some (.ref A.ops))
  a_term_args : getL (Str.ofString "term_args") A.es = some (some (.ref A.args))
  a_term_sorts : getL (Str.ofString "term_sorts") A.es = some (some (.ref A.sorts))
  a_term_datas : getL (Str.ofString "term_datas") A.es = some (some (.ref A.datas))
  a_numbers : getL (Str.ofString "numbers") A.es = some (some (.ref A.nums))
  m_make : getL (Str.ofString "make") A.es = some none
  nd : [A.x, A.dx, A.ops, A.args, A.sorts, A.datas, A.nums, A.fnames, A.fargs, A.fres].Nodup
def BankRo (N : Hl) (A : BnkA) : Prop := N A.x = some (instObj 387 A.dx) ∧ N A.dx = some (dictOf A.es A.n) ∧ EsRaw A
section
variable {w : World} {C : Cx} {l : Ls} {N : Hl} {env : Env} {r : Nat} {A : BnkA}
theorem rb_term_ops (ok : Ok w C env r) (hO : BankRo N A) {expr : Bool} {Q : Value → Ls → Hl → Prop} (h : Q (.ref A.ops) l N) : SP w C (getAttr (.ref A.x) (Str.ofString "term_ops") expr) l N Q := SP_attr (attr := none) ok hO.1 hO.2.1 (pgA _) hdA (by k_is) ng0 hO.2.2.a_term_ops rfl h
theorem rb_term_args (ok : Ok w C env r) (hO : BankRo N A) {expr : Bool} {Q : Value → Ls → Hl → Prop} (h : Q (.ref A.args) l N) : SP w C (getAttr (.ref A.x) (Str.ofString "term_args") expr) l N Q := SP_attr (attr := none) ok hO.1 hO.2.1 (pgA _) hdA (by k_is) ng0 hO.2.2.a_term_args rfl h
theorem rb_term_sorts (ok : Ok w C env r) (hO : BankRo N A) {expr : Bool} {Q : Value → Ls → Hl → Prop} (h : Q (.ref A.sorts) l N) : SP w C (getAttr (.ref A.x) (Str.ofString "term_sorts") expr) l N Q := SP_attr (attr := none) ok hO.1 hO.2.1 (pgA _) hdA (by k_is) ng0 hO.2.2.a_term_sorts rfl h
theorem rb_term_datas (ok : Ok w C env r) (hO : BankRo N A) {expr : Bool} {Q : Value → Ls → Hl → Prop} (h : Q (.ref A.datas) l N) : SP w C (getAttr (.ref A.x) (Str.ofString "term_datas") expr) l N Q := SP_attr (attr := none) ok hO.1 hO.2.1 (pgA _) hdA (by k_is) ng0 hO.2.2.a_term_datas rfl h
theorem rb_numbers (ok : Ok w C env r) (hO : BankRo N A) {expr : Bool} {Q : Value → Ls → Hl → Prop} (h : Q (.ref A.nums) l N) : SP w C (getAttr (.ref A.x) (Str.ofString "numbers") expr) l N Q := SP_attr (attr := none) ok hO.1 hO.2.1 (pgA _) hdA (by k_is) ng0 hO.2.2.a_numbers rfl h
theorem rm_make (ok : Ok w C env r) (hO : BankRo N A) {pl : Sem Bool} {Q : Value × List Value → Ls → Hl → Prop} (h : Q (.ref 216, [.ref A.x]) l N) : SP w C (getMethod (.ref A.x) (Str.ofString "make") pl) l N Q := SP_meth ok hO.1 hO.2.1 (pgA _) (by k_is) (by k_is) hO.2.2.m_make h
end
def BankRin (w : World) (N : Hl) (A : BnkA) (rows : Rws) : Prop := BankRo N A ∧ ∃ vo no va na vs ns vd nd xs, BankL w N A rows vo no va na vs ns vd nd xs
theorem BankRo.le {N N' : Hl} {A : BnkA} (h : BankRo N A) (k1 : ∀ o, N A.x = some o → N' A.x = some o) (k2 : ∀ o, N A.dx = some o → N' A.dx = some o) : BankRo N' A := ⟨k1 _ h.1, k2 _ h.2.1, h.2.2⟩
theorem BankRin.keep {w : World} {N N' : Hl} {A : BnkA} {rows : Rws} (h : BankRin w N A rows) (tk : TupKeep N N') (k : ∀ a ∈ A.all, ∀ o, N a = some o → N' a = some o) : BankRin w N' A rows := by
  refine e0_2 h ?_
  try clear h
  intro hO hz0_
  refine e9_1 hz0_ ?_
  try clear hz0_
  intro vo no va na vs ns vd nd xs hL
  exact ⟨hO.le (k _ (.head _)) (k _ (.tail _ (.head _))), vo, no, va, na, vs, ns, vd, nd, xs, hL.keep tk fun a ha => k a (.tail _ (.tail _ ha))⟩
local macro_rules | `(tactic| walk_at "x_rb") => `(tactic| with_reducible first
  | (refine' rb_term_ops ?a ?b ?_; (case a => assumption); (case b => assumption))
  | (refine' rb_term_args ?a ?b ?_; (case a => assumption); (case b => assumption))
  | (refine' rb_term_sorts ?a ?b ?_; (case a => assumption); (case b => assumption))
  | (refine' rb_term_datas ?a ?b ?_; (case a => assumption); (case b => assumption))
  | (refine' rb_numbers ?a ?b ?_; (case a => assumption); (case b => assumption))
  | (refine' rm_make ?a ?b ?_; (case a => assumption); (case b => assumption); dsimp only)
  )
local macro_rules | `(tactic| walk_at "n1") => `(tactic| walk_at "x_rb")
set_option linter.unusedVariables false
theorem num_pos (rows : Rws) (k : Sh) : num rows k ≠ 0 := by unfold num; omega
namespace mut_neR_c
def P (A : BnkA) : Prop := ∀ (h : EsRaw A), A.x ∉ A.mut ∧ A.dx ∉ A.mut ∧ A.mut.Nodup
noncomputable def V : BnkA := pick (⟨0, 0, [], 0, 0, 0, 0, 0, 0, 0, 0, 0, 0, 0⟩) fun q => P q
@[irreducible] noncomputable def A : BnkA := V
theorem core : P A := by
  unfold P
  intro h
  have nd := h.nd
  simp only [List.nodup_cons, List.mem_cons, List.not_mem_nil, or_false, not_or] at nd
  simp only [BnkA.mut, List.nodup_cons, List.mem_cons, List.not_mem_nil, or_false, not_or, List.nodup_nil, not_false_eq_true]
  refine e0_7 nd ?_
  try clear nd
  intro hy0_ hy1_ hy2_ hy3_ hy4_ hy5_ _
  obtain ⟨a1, a2, a3, a4, a5, a6, _⟩ := hy0_
  obtain ⟨b2, b3, b4, b5, b6, _⟩ := hy1_
  obtain ⟨c3, c4, c5, c6, _⟩ := hy2_
  obtain ⟨d4, d5, d6, _⟩ := hy3_
  obtain ⟨e5, e6, _⟩ := hy4_
  obtain ⟨f6, _⟩ := hy5_
  refine ⟨⟨a2, a3, a4, a5, a6⟩, ⟨b2, b3, b4, b5, b6⟩, ⟨c3, c4, c5, c6⟩, ⟨d4, d5, d6⟩, ⟨e5, e6⟩, f6, trivial, trivial⟩
end mut_neR_c
theorem mut_neR {A : BnkA} (h : EsRaw A) : A.x ∉ A.mut ∧ A.dx ∉ A.mut ∧ A.mut.Nodup :=
  pickAll (P := fun q : BnkA => mut_neR_c.P q) (⟨0, 0, [], 0, 0, 0, 0, 0, 0, 0, 0, 0, 0, 0⟩) (by with_unfolding_all exact mut_neR_c.core) (A) h
theorem BankRo.mut {N : Hl} {A : BnkA} {d : Addr} {o : Obj} (h : BankRo N A) (hd : d ∈ A.mut) : BankRo (upd N d o) A := by
  refine e0_3 (mut_neR h.2.2) ?_
  intro nx ndx _
  have e1 : A.x ≠ d := by rintro rfl; exact nx hd
  have e2 : A.dx ≠ d := by rintro rfl; exact ndx hd
  exact h.le (fun o h => (upd_ne e1).trans h) (fun o h => (upd_ne e2).trans h)
namespace make_raw_spec_c
def P (w : World) (N : Hl) (A : BnkA) (rows : Rws) (k : Sh) (e : Addr) (t1 : Tok) (t2 : Tok) (t3 : Tok) (r : Nat) : Prop := ∀ (hA : BankRin w N A rows) (he : TupI N e k.args) (ho : OpOk k) (hz : rows.length < 1000), Calls w 216 [.ref A.x, .str k.op t1, .ref e, .int k.kind t2, .int k.data t3] N (r + 1) (fun v N' => ∃ t, v = .int (num (ent rows k) k) t ∧ BankRin w N' A (ent rows k) ∧ Keep A.mut N N')
noncomputable def V : World × Hl × BnkA × Rws × Sh × Addr × Tok × Tok × Tok × Nat := pick (aWorld 0, fun _ => none, ⟨0, 0, [], 0, 0, 0, 0, 0, 0, 0, 0, 0, 0, 0⟩, [], ⟨Str.empty, [], 0, 0⟩, 0, 0, 0, 0, 0) fun q => P q.1 q.2.1 q.2.2.1 q.2.2.2.1 q.2.2.2.2.1 q.2.2.2.2.2.1 q.2.2.2.2.2.2.1 q.2.2.2.2.2.2.2.1 q.2.2.2.2.2.2.2.2.1 q.2.2.2.2.2.2.2.2.2
@[irreducible] noncomputable def w : World := V.1
@[irreducible] noncomputable def N : Hl := V.2.1
@[irreducible] noncomputable def A : BnkA := V.2.2.1
@[irreducible] noncomputable def rows : Rws := V.2.2.2.1
@[irreducible] noncomputable def k : Sh := V.2.2.2.2.1
@[irreducible] noncomputable def e : Addr := V.2.2.2.2.2.1
@[irreducible] noncomputable def t1 : Tok := V.2.2.2.2.2.2.1
@[irreducible] noncomputable def t2 : Tok := V.2.2.2.2.2.2.2.1
@[irreducible] noncomputable def t3 : Tok := V.2.2.2.2.2.2.2.2.1
@[irreducible] noncomputable def r : Nat := V.2.2.2.2.2.2.2.2.2
theorem core : P w N A rows k e t1 t2 t3 r := by
  unfold P
  intro hA he ho hz
  refine' enter [(Str.ofString "self", .ref A.x), (Str.ofString "op", .str k.op t1), (Str.ofString "args", .ref e), (Str.ofString "sort", .int k.kind t2), (Str.ofString "data", .int k.data t3)] [(Str.ofString "data", .int k.data t3), (Str.ofString "sort", .int k.kind t2), (Str.ofString "args", .ref e), (Str.ofString "op", .str k.op t1), (Str.ofString "self", .ref A.x)] ?ho ?hcd ?hb ?hl ?c1 ?c2 ?c3 ?c4 ?c5 ?_
  walk_at "m_ent"
  refine pickC ?_
  intro ok
  walk_at "m"
  refine SP_newTuple (fun q hq => ?_) (sz (by simp))
  refine e0_2 hA ?_
  try clear hA
  intro hO hz0_
  refine e9_1 hz0_ ?_
  try clear hz0_
  intro vo no va na vs ns vd nd xs hL
  refine e0_3 (mut_neR hO.2.2) ?_
  intro nx ndx nmut
  have hk : KeyT (upd N q (tupObj [.str k.op t1, .ref e, .int k.kind t2, .int k.data t3])) q k := ⟨t1, e, t2, t3, upd_self .., he.keep (TupKeep.new hq)⟩
  have hK1 : Keep A.mut N (upd N q (tupObj [.str k.op t1, .ref e, .int k.kind t2, .int k.data t3])) := Keep.new hq
  have hO1 : BankRo (upd N q (tupObj [.str k.op t1, .ref e, .int k.kind t2, .int k.data t3])) A := hO.le (fun o h => upd_old h hq) (fun o h => upd_old h hq)
  have hL1 := hL.keep (N' := upd N q (tupObj [.str k.op t1, .ref e, .int k.kind t2, .int k.data t3])) (TupKeep.new hq) (fun a _ o h => upd_old h hq)
  have he1 := he.keep (N' := upd N q (tupObj [.str k.op t1, .ref e, .int k.kind t2, .int k.data t3])) (TupKeep.new hq)
  generalize upd N q (tupObj [.str k.op t1, .ref e, .int k.kind t2, .int k.data t3]) = N1 at hk hK1 hO1 hL1 he1 ⊢
  walk_at "m"
  refine SP_mGet hL1.nums ?_
  dsimp only
  walk_at "m"
  refine SP_dGet ok hL1.nums hk ho ?_
  have hkeys : xs.map (·.1) = rows := hL.keys
  have hz' : xs.length < 1000 := by rw [← hkeys] at hz; simpa using hz
  have hnd : (xs.map (·.1)).Nodup := by obtain ⟨_, _, _, _, _, _, _, _, h⟩ := hL.nums; exact h
  by_cases hmem : k ∈ rows
  · obtain ⟨a, ta, hat⟩ := atKey_idx (k := k) hL.numd hnd (by rw [hkeys]; exact hmem)
    rw [hkeys] at hat
    rw [hat]
    dsimp only [Option.map_some, Option.getD_some]
    walk_at "m"
    refine Br.of_ff (by simp; exact num_pos _ _) ?_
    walk_at "m"
    have hen : ent rows k = rows := by unfold ent; rw [if_pos hmem]
    rw [hen]
    exact ⟨ta, rfl, ⟨hO1, vo, no, va, na, vs, ns, vd, nd, xs, hL1⟩, hK1⟩
  · rw [atKey_out (xs := xs) (by rw [hkeys]; exact hmem)]
    dsimp only [Option.map_none, Option.getD_none]
    walk_at "m"
    refine Br.of_tt (by simp) ?_
    walk_at "m"
    have lo : vo.length = rows.length + 1 := by rw [strs_len hL.opsI]; simp
    refine SP_lenL hL1.ops (LO.lst _ _) (by rw [lo]; omega) fun tl => ?_
    walk_at "m"
    simp only [BnkA.mut, List.nodup_cons, List.mem_cons, List.not_mem_nil, or_false, not_or, List.nodup_nil, not_false_eq_true] at nmut
    refine e0_6 nmut ?_
    try clear nmut
    intro hy0_ hy1_ hy2_ n45 _ _
    obtain ⟨n12, n13, n14, n15⟩ := hy0_
    obtain ⟨n23, n24, n25⟩ := hy1_
    obtain ⟨n34, n35⟩ := hy2_
    have la : va.length = rows.length + 1 := by rw [hL.argsI.1]; simp
    have ls : vs.length = rows.length + 1 := by rw [hL.sortsI.length]; simp
    have ld : vd.length = rows.length + 1 := by rw [hL.datasI.length]; simp
    refine e1_3 hL1.nums.get ?_
    intro on hon honc _
    refine SP_mAppend hL1.ops ?_
    dsimp only
    walk_at "m"
    refine SP_append hL1.ops (sz (by first | exact Nat.le_refl _ | exact leK rfl | omega)) ⟨trivial, ?_⟩
    have hO2 : BankRo (upd N1 A.ops (lst (vo ++ [.str k.op t1]) (no + 1))) A := hO1.mut (by simp [BnkA.mut])
    have tk2 : TupKeep N1 (upd N1 A.ops (lst (vo ++ [.str k.op t1]) (no + 1))) := TupKeep.chg hL1.ops (lst_nt _ _)
    have hK2 : Keep A.mut N (upd N1 A.ops (lst (vo ++ [.str k.op t1]) (no + 1))) := hK1.trans (Keep.chg (by simp [BnkA.mut]))
    have h21 : upd N1 A.ops (lst (vo ++ [.str k.op t1]) (no + 1)) A.ops = some (lst (vo ++ [.str k.op t1]) (no + 1)) := upd_self ..
    have h22 : upd N1 A.ops (lst (vo ++ [.str k.op t1]) (no + 1)) A.args = some (lst va na) := (upd_ne (Ne.symm n12)).trans hL1.args
    have h23 : upd N1 A.ops (lst (vo ++ [.str k.op t1]) (no + 1)) A.sorts = some (lst vs ns) := (upd_ne (Ne.symm n13)).trans hL1.sorts
    have h24 : upd N1 A.ops (lst (vo ++ [.str k.op t1]) (no + 1)) A.datas = some (lst vd nd) := (upd_ne (Ne.symm n14)).trans hL1.datas
    have h25 : DicH w (upd N1 A.ops (lst (vo ++ [.str k.op t1]) (no + 1))) A.nums xs := hL1.nums.keep tk2 (upd_ne (Ne.symm n15))
    have hk2 := hk.keep tk2
    have he2 := he1.keep tk2
    have ha2 := hL1.argsI.keep tk2
    generalize upd N1 A.ops (lst (vo ++ [.str k.op t1]) (no + 1)) = N2 at hO2 tk2 hK2 h21 h22 h23 h24 h25 hk2 he2 ha2 ⊢
    walk_at "m"
    refine SP_mAppend h22 ?_
    dsimp only
    walk_at "m"
    refine SP_append h22 (sz (by first | exact Nat.le_refl _ | exact leK rfl | omega)) ⟨trivial, ?_⟩
    have hO3 : BankRo (upd N2 A.args (lst (va ++ [.ref e]) (na + 1))) A := hO2.mut (by simp [BnkA.mut])
    have tk3 : TupKeep N2 (upd N2 A.args (lst (va ++ [.ref e]) (na + 1))) := TupKeep.chg h22 (lst_nt _ _)
    have hK3 : Keep A.mut N (upd N2 A.args (lst (va ++ [.ref e]) (na + 1))) := hK2.trans (Keep.chg (by simp [BnkA.mut]))
    have h31 : upd N2 A.args (lst (va ++ [.ref e]) (na + 1)) A.ops = _ := (upd_ne n12).trans h21
    have h32 : upd N2 A.args (lst (va ++ [.ref e]) (na + 1)) A.args = some (lst (va ++ [.ref e]) (na + 1)) := upd_self ..
    have h33 : upd N2 A.args (lst (va ++ [.ref e]) (na + 1)) A.sorts = some (lst vs ns) := (upd_ne (Ne.symm n23)).trans h23
    have h34 : upd N2 A.args (lst (va ++ [.ref e]) (na + 1)) A.datas = some (lst vd nd) := (upd_ne (Ne.symm n24)).trans h24
    have h35 : DicH w (upd N2 A.args (lst (va ++ [.ref e]) (na + 1))) A.nums xs := h25.keep tk3 (upd_ne (Ne.symm n25))
    have hk3 := hk2.keep tk3
    have he3 := he2.keep tk3
    have ha3 := ha2.keep tk3
    generalize upd N2 A.args (lst (va ++ [.ref e]) (na + 1)) = N3 at hO3 tk3 hK3 h31 h32 h33 h34 h35 hk3 he3 ha3 ⊢
    walk_at "m"
    refine SP_mAppend h33 ?_
    dsimp only
    walk_at "m"
    refine SP_append h33 (sz (by first | exact Nat.le_refl _ | exact leK rfl | omega)) ⟨trivial, ?_⟩
    have hO4 : BankRo (upd N3 A.sorts (lst (vs ++ [.int k.kind t2]) (ns + 1))) A := hO3.mut (by simp [BnkA.mut])
    have tk4 : TupKeep N3 (upd N3 A.sorts (lst (vs ++ [.int k.kind t2]) (ns + 1))) := TupKeep.chg h33 (lst_nt _ _)
    have hK4 : Keep A.mut N (upd N3 A.sorts (lst (vs ++ [.int k.kind t2]) (ns + 1))) := hK3.trans (Keep.chg (by simp [BnkA.mut]))
    have h41 : upd N3 A.sorts (lst (vs ++ [.int k.kind t2]) (ns + 1)) A.ops = _ := (upd_ne n13).trans h31
    have h42 : upd N3 A.sorts (lst (vs ++ [.int k.kind t2]) (ns + 1)) A.args = _ := (upd_ne n23).trans h32
    have h43 : upd N3 A.sorts (lst (vs ++ [.int k.kind t2]) (ns + 1)) A.sorts = some (lst (vs ++ [.int k.kind t2]) (ns + 1)) := upd_self ..
    have h44 : upd N3 A.sorts (lst (vs ++ [.int k.kind t2]) (ns + 1)) A.datas = some (lst vd nd) := (upd_ne (Ne.symm n34)).trans h34
    have h45 : DicH w (upd N3 A.sorts (lst (vs ++ [.int k.kind t2]) (ns + 1))) A.nums xs := h35.keep tk4 (upd_ne (Ne.symm n35))
    have hk4 := hk3.keep tk4
    have he4 := he3.keep tk4
    have ha4 := ha3.keep tk4
    generalize upd N3 A.sorts (lst (vs ++ [.int k.kind t2]) (ns + 1)) = N4 at hO4 tk4 hK4 h41 h42 h43 h44 h45 hk4 he4 ha4 ⊢
    walk_at "m"
    refine SP_mAppend h44 ?_
    dsimp only
    walk_at "m"
    refine SP_append h44 (sz (by first | exact Nat.le_refl _ | exact leK rfl | omega)) ⟨trivial, ?_⟩
    have hO5 : BankRo (upd N4 A.datas (lst (vd ++ [.int k.data t3]) (nd + 1))) A := hO4.mut (by simp [BnkA.mut])
    have tk5 : TupKeep N4 (upd N4 A.datas (lst (vd ++ [.int k.data t3]) (nd + 1))) := TupKeep.chg h44 (lst_nt _ _)
    have hK5 : Keep A.mut N (upd N4 A.datas (lst (vd ++ [.int k.data t3]) (nd + 1))) := hK4.trans (Keep.chg (by simp [BnkA.mut]))
    have h51 : upd N4 A.datas (lst (vd ++ [.int k.data t3]) (nd + 1)) A.ops = _ := (upd_ne n14).trans h41
    have h52 : upd N4 A.datas (lst (vd ++ [.int k.data t3]) (nd + 1)) A.args = _ := (upd_ne n24).trans h42
    have h53 : upd N4 A.datas (lst (vd ++ [.int k.data t3]) (nd + 1)) A.sorts = _ := (upd_ne n34).trans h43
    have h54 : upd N4 A.datas (lst (vd ++ [.int k.data t3]) (nd + 1)) A.datas = some (lst (vd ++ [.int k.data t3]) (nd + 1)) := upd_self ..
    have h55 : DicH w (upd N4 A.datas (lst (vd ++ [.int k.data t3]) (nd + 1))) A.nums xs := h45.keep tk5 (upd_ne (Ne.symm n45))
    have hk5 := hk4.keep tk5
    have he5 := he4.keep tk5
    have ha5 := ha4.keep tk5
    generalize upd N4 A.datas (lst (vd ++ [.int k.data t3]) (nd + 1)) = N5 at hO5 tk5 hK5 h51 h52 h53 h54 h55 hk5 he5 ha5 ⊢
    walk_at "m"
    refine SP_dSet ok h55 hk5 ho (sz (by first | exact Nat.le_refl _ | exact leK rfl | omega)) fun o' h65 => ?_
    rw [storedH_new (atKey_out (xs := xs) (by rw [hkeys]; exact hmem))] at h65
    refine e1_3 h55.get ?_
    intro on5 hon5 hon5c _
    have tk6 : TupKeep N5 (upd N5 A.nums o') := TupKeep.chg hon5 (dic_nt hon5c)
    have hO6 : BankRo (upd N5 A.nums o') A := hO5.mut (by simp [BnkA.mut])
    have hK6 : Keep A.mut N (upd N5 A.nums o') := hK5.trans (Keep.chg (by simp [BnkA.mut]))
    have h61 := (upd_ne (N := N5) (o := o') n15).trans h51
    have h62 := (upd_ne (N := N5) (o := o') n25).trans h52
    have h63 := (upd_ne (N := N5) (o := o') n35).trans h53
    have h64 := (upd_ne (N := N5) (o := o') n45).trans h54
    have ha6 := ha5.keep tk6
    have he6 := he5.keep tk6
    generalize upd N5 A.nums o' = N6 at hO6 tk6 hK6 h61 h62 h63 h64 h65 ha6 he6 ⊢
    walk_at "m"
    have hlen : (vo.length : Int) = (xs.length : Int) + 1 := by rw [lo, ← hkeys]; simp
    have hen : (xs ++ [(k, q, Value.int (vo.length : Int) tl)]).map (·.1) = ent rows k := by unfold ent; rw [if_neg hmem]; simp [hkeys]
    have hnum : num (ent rows k) k = (vo.length : Int) := by
      unfold num ent
      rw [if_neg hmem, List.idxOf_append, if_neg hmem, lo]; simp
    rw [hlen] at h65 hen
    refine ⟨tl, by rw [hnum], ⟨hO6, _, _, _, _, _, _, _, _, _, ⟨h61, ?_, h62, ?_, h63, ?_, h64, ?_, h65, hL.numd.snoc, hen⟩⟩, hK6⟩
    · unfold ent; rw [if_neg hmem, List.map_append]; exact StrsAre.snoc hL.opsI _ _
    · unfold ent; rw [if_neg hmem, List.map_append]; exact ha6.snoc he6
    · unfold ent; rw [if_neg hmem, List.map_append]; exact ints_snoc hL.sortsI _ _
    · unfold ent; rw [if_neg hmem, List.map_append]; exact ints_snoc hL.datasI _ _
end make_raw_spec_c
theorem make_raw_spec {w : World} {N : Hl} {A : BnkA} {rows : Rws} {k : Sh} {e : Addr} {t1 t2 t3 : Tok} (r : Nat) (hA : BankRin w N A rows) (he : TupI N e k.args) (ho : OpOk k) (hz : rows.length < 1000) :
    Calls w 216 [.ref A.x, .str k.op t1, .ref e, .int k.kind t2, .int k.data t3] N (r + 1) (fun v N' => ∃ t, v = .int (num (ent rows k) k) t ∧ BankRin w N' A (ent rows k) ∧ Keep A.mut N N') :=
  pickAll (P := fun q : World × Hl × BnkA × Rws × Sh × Addr × Tok × Tok × Tok × Nat => make_raw_spec_c.P q.1 q.2.1 q.2.2.1 q.2.2.2.1 q.2.2.2.2.1 q.2.2.2.2.2.1 q.2.2.2.2.2.2.1 q.2.2.2.2.2.2.2.1 q.2.2.2.2.2.2.2.2.1 q.2.2.2.2.2.2.2.2.2) (aWorld 0, fun _ => none, ⟨0, 0, [], 0, 0, 0, 0, 0, 0, 0, 0, 0, 0, 0⟩, [], ⟨Str.empty, [], 0, 0⟩, 0, 0, 0, 0, 0) (by with_unfolding_all exact make_raw_spec_c.core) (w, N, A, rows, k, e, t1, t2, t3, r) hA he ho hz
end
/-! part Fn2 -/
section
theorem EsOk.raw {A : BnkA} (h : EsOk A) : EsRaw A := ⟨h.a_term_ops, h.a_term_args, h.a_term_sorts, h.a_term_datas, h.a_numbers, h.m_make, h.nd⟩
theorem make_spec {w : World} {N : Hl} {A : BnkA} {rows : Rws} {k : Sh} {e : Addr} {t1 t2 t3 : Tok} (r : Nat) (hA : BankIn w N A rows) (he : TupI N e k.args) (ho : OpOk k) (hz : rows.length < 1000) :
    Calls w 216 [.ref A.x, .str k.op t1, .ref e, .int k.kind t2, .int k.data t3] N (r + 1) (fun v N' => ∃ t, v = .int (num (ent rows k) k) t ∧ BankIn w N' A (ent rows k) ∧ Keep A.mut N N') := fun C env ok l =>
  (make_raw_spec r ⟨⟨hA.1.1, hA.1.2.1, hA.1.2.2.raw⟩, hA.2⟩ he ho hz C env ok l).mono fun _ _ _ ⟨e, t, hv, hB, hK⟩ => ⟨e, t, hv, ⟨⟨hB.1.1, hB.1.2.1, hA.1.2.2⟩, hB.2⟩, hK⟩
end
/-! part Fn3 -/
section
set_option linter.unusedVariables false
namespace denied_spec_c
def P (w : World) (N : Hl) (B : BkA) (rows : Rws) (t : Int) (tt : Tok) (r : Nat) : Prop := ∀ (hB : BookIn w N B rows) (h1 : 1 ≤ t) (h2 : t ≤ rows.length) (hz : rows.length < 1000) (hn : ∀ k, rowOf rows t = some k → k.op = sNot → k.args ≠ []), Calls w 410 [.ref B.b, .int t tt] N (r + 2) (fun v N' => ∃ t', v = .int (denied rows t).1 t' ∧ BookIn w N' B (denied rows t).2 ∧ Keep [B.r, B.d] N N')
noncomputable def V : World × Hl × BkA × Rws × Int × Tok × Nat := pick (aWorld 0, fun _ => none, ⟨0, 0, 0⟩, [], 0, 0, 0) fun q => P q.1 q.2.1 q.2.2.1 q.2.2.2.1 q.2.2.2.2.1 q.2.2.2.2.2.1 q.2.2.2.2.2.2
@[irreducible] noncomputable def w : World := V.1
@[irreducible] noncomputable def N : Hl := V.2.1
@[irreducible] noncomputable def B : BkA := V.2.2.1
@[irreducible] noncomputable def rows : Rws := V.2.2.2.1
@[irreducible] noncomputable def t : Int := V.2.2.2.2.1
@[irreducible] noncomputable def tt : Tok := V.2.2.2.2.2.1
@[irreducible] noncomputable def r : Nat := V.2.2.2.2.2.2
theorem core : P w N B rows t tt r := by
  unfold P
  intro hB h1 h2 hz hn
  refine' enter [(Str.ofString "book_now", .ref B.b), (Str.ofString "t", .int t tt)] [(Str.ofString "t", .int t tt), (Str.ofString "book_now", .ref B.b)] ?ho ?hcd ?hb ?hl ?c1 ?c2 ?c3 ?c4 ?c5 ?_
  walk_at "m_ent"
  refine pickC ?_
  intro ok
  walk_at "m"
  refine Br.dec (fun hlt => ?_) (fun hge => ?_)
  · walk_at "m"
    unfold denied
    rw [if_pos hlt]
    exact ⟨_, rfl, hB, Keep.refl _ _⟩
  · walk_at "m"
    refine SP_AssignTuple ?_ (by walk_at "m_rfl") (by walk_at "m_rfl")
    walk_at "m"
    refine SP_sItem hB.dicB (bookF_rows B) ?_ (by walk_at "m_rfl")
    walk_at "m"
    refine e2_3 hB.row ?_
    intro n ks hr hlen hks
    have hi : (t - 1).toNat < rows.length := by omega
    refine e1_3 (hks _ _ (List.getElem?_eq_getElem hi)) ?_
    intro a ha hka hoa
    have hrow : rowOf rows t = some rows[(t - 1).toNat] := List.getElem?_eq_getElem hi
    generalize rows[(t - 1).toNat] = k at ha hka hoa hrow
    refine SP_itemL hr (LO.lst _ _) (by first | exact Nat.le_refl _ | exact leK rfl | omega) (by first | exact Nat.le_refl _ | exact leK rfl | omega) ha ?_ (by walk_at "m_rfl")
    refine e4_2 hka ?_
    try clear hka
    intro u1 b u2 u3 hat hab
    refine SP_unpackT ok hat rfl (by walk_at "m_rfl") rfl ?_
    dsimp only [bindAll]
    walk_at "m"
    by_cases hop : k.op = sNot
    · refine Br.of_tt (by first | exact nm1 hop | exact nm1 (Ne.symm hop) | simpa using hop) ?_
      walk_at "m"
      have hne := hn k hrow hop
      refine e1_2 hab ?_
      try clear hab
      intro vs hb hi
      obtain ⟨x, xs, hx⟩ : ∃ x xs, k.args = x :: xs := by cases e : k.args with | nil => exact absurd e hne | cons x xs => exact ⟨x, xs, rfl⟩
      rw [hx] at hi
      refine e2_2 hi.cons_inv ?_
      intro u vs' hy2_ hi'
      subst hy2_
      refine SP_itemT hb (by decide) (by decide) rfl ?_ (by walk_at "m_rfl")
      walk_at "m"
      unfold denied
      rw [if_neg hge, hrow]
      simp only [hop, if_true, hx, List.headD_cons]
      exact ⟨_, rfl, hB, Keep.refl _ _⟩
    · refine Br.of_ff (by first | exact nm1 hop | exact nm1 (Ne.symm hop) | simpa using hop) ?_
      walk_at "m"
      refine SP_newTuple (fun q hq => ?_) (sz (by simp))
      have hB1 := hB.new (o := tupObj [Value.int t tt]) hq
      have hK1 : Keep [B.r, B.d] N (upd N q (tupObj [Value.int t tt])) := Keep.new hq
      have hq1 : TupI (upd N q (tupObj [Value.int t tt])) q [t] := ⟨_, upd_self .., .cons _ _ .nil⟩
      generalize upd N q (tupObj [Value.int t tt]) = N1 at hB1 hK1 hq1 ⊢
      walk_at "m"
      refine SP_use ok (entered_spec (k := ⟨sNot, [t], 0, 0⟩) r hB1 hq1 okNot hz) (Nat.le_refl _) (fun v N' hz_ => ?_)
      refine e1_3 hz_ ?_
      try clear hz_
      intro t' e hB' hK'
      walk_at "m"
      unfold denied
      rw [if_neg hge, hrow]
      simp only [hop, if_false]
      exact ⟨t', e, hB', hK1.trans hK'⟩
end denied_spec_c
theorem denied_spec {w : World} {N : Hl} {B : BkA} {rows : Rws} {t : Int} {tt : Tok} (r : Nat) (hB : BookIn w N B rows) (h1 : 1 ≤ t) (h2 : t ≤ rows.length) (hz : rows.length < 1000)
    (hn : ∀ k, rowOf rows t = some k → k.op = sNot → k.args ≠ []) :
    Calls w 410 [.ref B.b, .int t tt] N (r + 2) (fun v N' => ∃ t', v = .int (denied rows t).1 t' ∧ BookIn w N' B (denied rows t).2 ∧ Keep [B.r, B.d] N N') :=
  pickAll (P := fun q : World × Hl × BkA × Rws × Int × Tok × Nat => denied_spec_c.P q.1 q.2.1 q.2.2.1 q.2.2.2.1 q.2.2.2.2.1 q.2.2.2.2.2.1 q.2.2.2.2.2.2) (aWorld 0, fun _ => none, ⟨0, 0, 0⟩, [], 0, 0, 0) (by with_unfolding_all exact denied_spec_c.core) (w, N, B, rows, t, tt, r) hB h1 h2 hz hn
theorem sorted2 {a b : Int} {ns : List Int} (hp : ns.Perm [a, b]) (hs : ns.Pairwise (· ≤ ·)) : ns = [min a b, max a b] := by
  have hl := hp.length_eq
  match ns, hl with
  | [x, y], _ =>
    have h1 : x ∈ [a, b] := hp.mem_iff.mp (by simp)
    have h2 : y ∈ [a, b] := hp.mem_iff.mp (by simp)
    have h3 : a ∈ [x, y] := hp.mem_iff.mpr (by simp)
    have h4 : b ∈ [x, y] := hp.mem_iff.mpr (by simp)
    simp only [List.mem_cons, List.not_mem_nil, or_false] at h1 h2 h3 h4
    simp only [List.pairwise_cons, List.mem_cons, List.not_mem_nil, or_false, forall_eq] at hs
    have hxy := hs.1
    simp only [List.cons.injEq, and_true]
    omega
namespace alike_spec_c
def P (w : World) (N : Hl) (B : BkA) (rows : Rws) (a : Int) (b : Int) (ta : Tok) (tb : Tok) (r : Nat) : Prop := ∀ (hB : BookIn w N B rows) (hz : rows.length < 1000), Calls w 417 [.ref B.b, .int a ta, .int b tb] N (r + 2) (fun v N' => ∃ t', v = .int (alike rows a b).1 t' ∧ BookIn w N' B (alike rows a b).2 ∧ Keep [B.r, B.d] N N')
noncomputable def V : World × Hl × BkA × Rws × Int × Int × Tok × Tok × Nat := pick (aWorld 0, fun _ => none, ⟨0, 0, 0⟩, [], 0, 0, 0, 0, 0) fun q => P q.1 q.2.1 q.2.2.1 q.2.2.2.1 q.2.2.2.2.1 q.2.2.2.2.2.1 q.2.2.2.2.2.2.1 q.2.2.2.2.2.2.2.1 q.2.2.2.2.2.2.2.2
@[irreducible] noncomputable def w : World := V.1
@[irreducible] noncomputable def N : Hl := V.2.1
@[irreducible] noncomputable def B : BkA := V.2.2.1
@[irreducible] noncomputable def rows : Rws := V.2.2.2.1
@[irreducible] noncomputable def a : Int := V.2.2.2.2.1
@[irreducible] noncomputable def b : Int := V.2.2.2.2.2.1
@[irreducible] noncomputable def ta : Tok := V.2.2.2.2.2.2.1
@[irreducible] noncomputable def tb : Tok := V.2.2.2.2.2.2.2.1
@[irreducible] noncomputable def r : Nat := V.2.2.2.2.2.2.2.2
theorem core : P w N B rows a b ta tb r := by
  unfold P
  intro hB hz
  refine' enter [(Str.ofString "book_now", .ref B.b), (Str.ofString "one", .int a ta), (Str.ofString "other", .int b tb)] [(Str.ofString "other", .int b tb), (Str.ofString "one", .int a ta), (Str.ofString "book_now", .ref B.b)] ?ho ?hcd ?hb ?hl ?c1 ?c2 ?c3 ?c4 ?c5 ?_
  walk_at "m_ent"
  refine pickC ?_
  intro ok
  walk_at "m"
  by_cases hab : a = b
  · refine Br.of_tt (by first | exact nm1 hab | exact nm1 (Ne.symm hab) | simpa using hab) ?_
    walk_at "m"
    unfold alike
    rw [if_pos hab]
    exact ⟨_, rfl, hB, Keep.refl _ _⟩
  · refine Br.of_ff (by first | exact nm1 hab | exact nm1 (Ne.symm hab) | simpa using hab) ?_
    walk_at "m"
    refine SP_newList (fun q hq => ?_) (sz (by simp))
    have hB1 := hB.new (o := lst [Value.int a ta, Value.int b tb] 0) hq
    have hK1 : Keep [B.r, B.d] N (upd N q (lst [Value.int a ta, Value.int b tb] 0)) := Keep.new hq
    have hq1 : upd N q (lst [Value.int a ta, Value.int b tb] 0) q = some (lst [Value.int a ta, Value.int b tb] 0) := upd_self ..
    generalize upd N q (lst [Value.int a ta, Value.int b tb] 0) = N1 at hB1 hK1 hq1 ⊢
    walk_at "m"
    refine SP_sorted hq1 (LO.lst _ _) (.cons _ _ (.cons _ _ .nil)) (by simp) fun q2 vs' ns' n hq2 hI hp hs => ?_
    have hns : ns' = [min a b, max a b] := sorted2 hp hs
    subst hns
    have hB2 := hB1.new (o := lst vs' n) hq2
    have hK2 : Keep [B.r, B.d] N (upd N1 q2 (lst vs' n)) := hK1.trans (Keep.new hq2)
    have hq3 : upd N1 q2 (lst vs' n) q2 = some (lst vs' n) := upd_self ..
    generalize upd N1 q2 (lst vs' n) = N2 at hB2 hK2 hq3 ⊢
    walk_at "m"
    refine SP_tupleL hq3 (LO.lst _ _) (by have := hI.length; simp at this; omega) fun q4 hq4 => ?_
    have hB3 := hB2.new (o := tupObj vs') hq4
    have hK3 : Keep [B.r, B.d] N (upd N2 q4 (tupObj vs')) := hK2.trans (Keep.new hq4)
    have hq5 : TupI (upd N2 q4 (tupObj vs')) q4 [min a b, max a b] := ⟨_, upd_self .., hI⟩
    generalize upd N2 q4 (tupObj vs') = N3 at hB3 hK3 hq5 ⊢
    walk_at "m"
    refine SP_use ok (entered_spec (k := ⟨sEq, [min a b, max a b], 0, 0⟩) r hB3 hq5 okEq hz) (Nat.le_refl _) (fun v N' hz_ => ?_)
    refine e1_3 hz_ ?_
    try clear hz_
    intro t' e hB' hK'
    walk_at "m"
    unfold alike
    rw [if_neg hab]
    exact ⟨t', e, hB', hK3.trans hK'⟩
end alike_spec_c
theorem alike_spec {w : World} {N : Hl} {B : BkA} {rows : Rws} {a b : Int} {ta tb : Tok} (r : Nat) (hB : BookIn w N B rows) (hz : rows.length < 1000) :
    Calls w 417 [.ref B.b, .int a ta, .int b tb] N (r + 2) (fun v N' => ∃ t', v = .int (alike rows a b).1 t' ∧ BookIn w N' B (alike rows a b).2 ∧ Keep [B.r, B.d] N N') :=
  pickAll (P := fun q : World × Hl × BkA × Rws × Int × Int × Tok × Tok × Nat => alike_spec_c.P q.1 q.2.1 q.2.2.1 q.2.2.2.1 q.2.2.2.2.1 q.2.2.2.2.2.1 q.2.2.2.2.2.2.1 q.2.2.2.2.2.2.2.1 q.2.2.2.2.2.2.2.2) (aWorld 0, fun _ => none, ⟨0, 0, 0⟩, [], 0, 0, 0, 0, 0) (by with_unfolding_all exact alike_spec_c.core) (w, N, B, rows, a, b, ta, tb, r) hB hz
theorem headD_get {vs : List Value} {ns : List Int} (h : IntsAre vs ns) (hl : 0 < ns.length) : ∃ t, vs[(0 : Int).toNat]? = some (.int (ns.headD 0) t) := by
  cases h with
  | nil => simp at hl
  | cons n t _ => exact ⟨t, rfl⟩
theorem getD1_get {vs : List Value} {ns : List Int} (h : IntsAre vs ns) (hl : 1 < ns.length) : ∃ t, vs[(1 : Int).toNat]? = some (.int (ns.getD 1 0) t) := by
  cases h with
  | nil => simp at hl
  | cons n t h => cases h with
    | nil => simp at hl
    | cons n' t' _ => exact ⟨t', rfl⟩

namespace due_spec_c
def P (w : World) (N : Hl) (B : BkA) (rows : Rws) (kind : Int) (label : Int) (en : Addr) (ve : List Value) (t1 : Tok) (t2 : Tok) (t3 : Tok) (r : Nat) : Prop := ∀ (name : Str) (ends : List Int) (oe : Obj) (hB : BookIn w N B rows) (hz : rows.length < 1000) (hen : N en = some oe) (le : LO oe ve) (hi : IntsAre ve ends) (hel : ends.length < 100) (hname : PyData.strOk name = true) (hnot : name = sNot → ∃ x, ends = [x] ∧ 1 ≤ x ∧ x ≤ rows.length ∧ ∀ k, rowOf rows x = some k → k.op = sNot → k.args ≠ []) (heq : name = sEq → 1 < ends.length), Calls w 424 [.ref B.b, .str name t1, .ref en, .int kind t2, .int label t3] N (r + 3) (fun v N' => ∃ t', v = .int (due rows name ends kind label).1 t' ∧ BookIn w N' B (due rows name ends kind label).2 ∧ Keep [B.r, B.d] N N')
noncomputable def V : World × Hl × BkA × Rws × Int × Int × Addr × List Value × Tok × Tok × Tok × Nat := pick (aWorld 0, fun _ => none, ⟨0, 0, 0⟩, [], 0, 0, 0, [], 0, 0, 0, 0) fun q => P q.1 q.2.1 q.2.2.1 q.2.2.2.1 q.2.2.2.2.1 q.2.2.2.2.2.1 q.2.2.2.2.2.2.1 q.2.2.2.2.2.2.2.1 q.2.2.2.2.2.2.2.2.1 q.2.2.2.2.2.2.2.2.2.1 q.2.2.2.2.2.2.2.2.2.2.1 q.2.2.2.2.2.2.2.2.2.2.2
@[irreducible] noncomputable def w : World := V.1
@[irreducible] noncomputable def N : Hl := V.2.1
@[irreducible] noncomputable def B : BkA := V.2.2.1
@[irreducible] noncomputable def rows : Rws := V.2.2.2.1
@[irreducible] noncomputable def kind : Int := V.2.2.2.2.1
@[irreducible] noncomputable def label : Int := V.2.2.2.2.2.1
@[irreducible] noncomputable def en : Addr := V.2.2.2.2.2.2.1
@[irreducible] noncomputable def ve : List Value := V.2.2.2.2.2.2.2.1
@[irreducible] noncomputable def t1 : Tok := V.2.2.2.2.2.2.2.2.1
@[irreducible] noncomputable def t2 : Tok := V.2.2.2.2.2.2.2.2.2.1
@[irreducible] noncomputable def t3 : Tok := V.2.2.2.2.2.2.2.2.2.2.1
@[irreducible] noncomputable def r : Nat := V.2.2.2.2.2.2.2.2.2.2.2
theorem core : P w N B rows kind label en ve t1 t2 t3 r := by
  unfold P
  intro name ends oe hB hz hen le hi hel hname hnot heq
  refine' enter [(Str.ofString "book_now", .ref B.b), (Str.ofString "name", .str name t1), (Str.ofString "ends", .ref en), (Str.ofString "kind", .int kind t2), (Str.ofString "label", .int label t3)] [(Str.ofString "label", .int label t3), (Str.ofString "kind", .int kind t2), (Str.ofString "ends", .ref en), (Str.ofString "name", .str name t1), (Str.ofString "book_now", .ref B.b)] ?ho ?hcd ?hb ?hl ?c1 ?c2 ?c3 ?c4 ?c5 ?_
  walk_at "m_ent"
  refine pickC ?_
  intro ok
  walk_at "m"
  have hlen := hi.length
  by_cases h1 : name = sNot
  · refine Br.of_tt (by first | exact nm1 h1 | exact nm1 (Ne.symm h1) | simpa using h1) ?_
    refine e1_4 (hnot h1) ?_
    intro x hy1_ hx1 hx2 hxk
    subst hy1_
    walk_at "m"
    refine e1_1 (headD_get hi (by simp)) ?_
    intro tx htx
    refine SP_itemL hen le (by decide) (by decide) htx ?_ (by walk_at "m_rfl")
    walk_at "m"
    refine SP_use ok (denied_spec r hB hx1 hx2 hz hxk) (Nat.le_refl _) (fun v N' hz_ => ?_)
    refine e1_3 hz_ ?_
    try clear hz_
    intro t' e hB' hK'
    walk_at "m"
    unfold due
    rw [if_pos h1]
    exact ⟨t', e, hB', hK'⟩
  · refine Br.of_ff (by first | exact nm1 h1 | exact nm1 (Ne.symm h1) | simpa using h1) ?_
    walk_at "m"
    refine SP_newTuple (fun q hq => ?_) (sz (by simp))
    rename_i ta tb
    have hB1 := hB.new (o := tupObj [Value.str (Str.ofString "and") ta, Value.str (Str.ofString "or") tb]) hq
    have hK1 : Keep [B.r, B.d] N (upd N q (tupObj [Value.str (Str.ofString "and") ta, Value.str (Str.ofString "or") tb])) := Keep.new hq
    have hq1 : upd N q (tupObj [Value.str (Str.ofString "and") ta, Value.str (Str.ofString "or") tb]) q = some (tupObj [Value.str (Str.ofString "and") ta, Value.str (Str.ofString "or") tb]) := upd_self ..
    have hen1 : upd N q (tupObj [Value.str (Str.ofString "and") ta, Value.str (Str.ofString "or") tb]) en = some oe := upd_old hen hq
    generalize upd N q (tupObj [Value.str (Str.ofString "and") ta, Value.str (Str.ofString "or") tb]) = N1 at hB1 hK1 hq1 hen1 ⊢
    refine SP_inStrs hq1 (.cons _ _ (.cons _ _ .nil)) ?_
    walk_at "m"
    by_cases h2 : name = sAnd ∨ name = sOr
    · refine Br.of_tt (by first | exact nm1 h2 | exact nm1 (Ne.symm h2) | simpa using h2) ?_
      walk_at "m"
      refine SP_lenL hen1 le (by first | exact Nat.le_refl _ | exact leK rfl | omega) fun tl => ?_
      walk_at "m"
      refine Br.dec (fun hlt => ?_) (fun hge => ?_)
      · walk_at "m"
        refine Br.tt ?_
        walk_at "m"
        refine SP_lenL hen1 le (by first | exact Nat.le_refl _ | exact leK rfl | omega) fun tl => ?_
        walk_at "m"
        have hd : due rows name ends kind label = (few name ends, rows) := by
          unfold due
          rw [if_neg h1, if_pos ⟨h2, by omega⟩]
        by_cases hone : ends.length = 1
        · obtain ⟨x, rfl⟩ : ∃ x, ends = [x] := by
            match ends, hone with
            | [x], _ => exact ⟨x, rfl⟩
          refine Br.of_tt (by simp [hlen]) ?_
          walk_at "m"
          refine e1_1 (headD_get hi (by simp)) ?_
          intro tx htx
          refine SP_itemL hen1 le (by decide) (by decide) htx ?_ (by walk_at "m_rfl")
          walk_at "m"
          rw [hd]
          exact ⟨_, rfl, hB1, hK1⟩
        · have h0 : ends = [] := by
            match ends, hlen with
            | [], _ => rfl
            | [x], _ => simp at hone
            | x :: y :: _, h => simp at h; omega
          subst h0
          refine Br.of_ff (by simp [hlen]) ?_
          walk_at "m"
          by_cases h3 : name = sAnd
          · refine Br.of_tt (by first | exact nm1 h3 | exact nm1 (Ne.symm h3) | simpa using h3) ?_
            walk_at "m"
            rw [hd]
            exact ⟨_, by simp only [few, if_pos h3]; rfl, hB1, hK1⟩
          · refine Br.of_ff (by first | exact nm1 h3 | exact nm1 (Ne.symm h3) | simpa using h3) ?_
            walk_at "m"
            rw [hd]
            exact ⟨_, by simp only [few, if_neg h3]; rfl, hB1, hK1⟩
      · walk_at "m"
        refine Br.ff ?_
        walk_at "m"
        have h3 : name ≠ sEq := by rcases h2 with rfl | rfl <;> decide
        refine Br.of_ff (by first | exact nm1 h3 | exact nm1 (Ne.symm h3) | simpa using h3) ?_
        walk_at "m"
        refine SP_tupleL hen1 le (by first | exact Nat.le_refl _ | exact leK rfl | omega) fun q2 hq2 => ?_
        have hB2 := hB1.new (o := tupObj ve) hq2
        have hK2 : Keep [B.r, B.d] N (upd N1 q2 (tupObj ve)) := hK1.trans (Keep.new hq2)
        have hq3 : TupI (upd N1 q2 (tupObj ve)) q2 ends := ⟨_, upd_self .., hi⟩
        generalize upd N1 q2 (tupObj ve) = N2 at hB2 hK2 hq3 ⊢
        walk_at "m"
        refine SP_use ok (entered_spec (k := ⟨name, ends, kind, label⟩) r hB2 hq3 hname hz) (by first | exact Nat.le_refl _ | exact leK rfl | omega) (fun v N' hz_ => ?_)
        refine e1_3 hz_ ?_
        try clear hz_
        intro t' e hB' hK'
        walk_at "m"
        unfold due
        rw [if_neg h1, if_neg (by first | exact Nat.le_refl _ | exact leK rfl | omega), if_neg h3]
        exact ⟨t', e, hB', hK2.trans hK'⟩
    · refine Br.of_ff (by first | exact nm1 h2 | exact nm1 (Ne.symm h2) | simpa using h2) ?_
      walk_at "m"
      refine Br.ff ?_
      walk_at "m"
      by_cases h3 : name = sEq
      · refine Br.of_tt (by first | exact nm1 h3 | exact nm1 (Ne.symm h3) | simpa using h3) ?_
        have hel2 := heq h3
        walk_at "m"
        refine e1_1 (headD_get hi (by first | exact Nat.le_refl _ | exact leK rfl | omega)) ?_
        intro tx htx
        refine e1_1 (getD1_get hi (by first | exact Nat.le_refl _ | exact leK rfl | omega)) ?_
        intro ty hty
        refine SP_itemL hen1 le (by decide) (by decide) htx ?_ (by walk_at "m_rfl")
        walk_at "m"
        refine SP_itemL hen1 le (by decide) (by decide) hty ?_ (by walk_at "m_rfl")
        walk_at "m"
        refine SP_use ok (alike_spec r hB1 hz) (Nat.le_refl _) (fun v N' hz_ => ?_)
        refine e1_3 hz_ ?_
        try clear hz_
        intro t' e hB' hK'
        walk_at "m"
        unfold due
        rw [if_neg h1, if_neg (fun h => h2 h.1), if_pos h3]
        exact ⟨t', e, hB', hK1.trans hK'⟩
      · refine Br.of_ff (by first | exact nm1 h3 | exact nm1 (Ne.symm h3) | simpa using h3) ?_
        walk_at "m"
        refine SP_tupleL hen1 le (by first | exact Nat.le_refl _ | exact leK rfl | omega) fun q2 hq2 => ?_
        have hB2 := hB1.new (o := tupObj ve) hq2
        have hK2 : Keep [B.r, B.d] N (upd N1 q2 (tupObj ve)) := hK1.trans (Keep.new hq2)
        have hq3 : TupI (upd N1 q2 (tupObj ve)) q2 ends := ⟨_, upd_self .., hi⟩
        generalize upd N1 q2 (tupObj ve) = N2 at hB2 hK2 hq3 ⊢
        walk_at "m"
        refine SP_use ok (entered_spec (k := ⟨name, ends, kind, label⟩) r hB2 hq3 hname hz) (by first | exact Nat.le_refl _ | exact leK rfl | omega) (fun v N' hz_ => ?_)
        refine e1_3 hz_ ?_
        try clear hz_
        intro t' e hB' hK'
        walk_at "m"
        unfold due
        rw [if_neg h1, if_neg (fun h => h2 h.1), if_neg h3]
        exact ⟨t', e, hB', hK2.trans hK'⟩
end due_spec_c
theorem due_spec {w : World} {N : Hl} {B : BkA} {rows : Rws} {name : Str} {ends : List Int} {kind label : Int} {en : Addr} {oe : Obj} {ve : List Value} {t1 t2 t3 : Tok} (r : Nat) (hB : BookIn w N B rows) (hz : rows.length < 1000)
    (hen : N en = some oe) (le : LO oe ve) (hi : IntsAre ve ends) (hel : ends.length < 100) (hname : PyData.strOk name = true)
    (hnot : name = sNot → ∃ x, ends = [x] ∧ 1 ≤ x ∧ x ≤ rows.length ∧ ∀ k, rowOf rows x = some k → k.op = sNot → k.args ≠ []) (heq : name = sEq → 1 < ends.length) :
    Calls w 424 [.ref B.b, .str name t1, .ref en, .int kind t2, .int label t3] N (r + 3) (fun v N' => ∃ t', v = .int (due rows name ends kind label).1 t' ∧ BookIn w N' B (due rows name ends kind label).2 ∧ Keep [B.r, B.d] N N') :=
  pickAll (P := fun q : World × Hl × BkA × Rws × Int × Int × Addr × List Value × Tok × Tok × Tok × Nat => due_spec_c.P q.1 q.2.1 q.2.2.1 q.2.2.2.1 q.2.2.2.2.1 q.2.2.2.2.2.1 q.2.2.2.2.2.2.1 q.2.2.2.2.2.2.2.1 q.2.2.2.2.2.2.2.2.1 q.2.2.2.2.2.2.2.2.2.1 q.2.2.2.2.2.2.2.2.2.2.1 q.2.2.2.2.2.2.2.2.2.2.2) (aWorld 0, fun _ => none, ⟨0, 0, 0⟩, [], 0, 0, 0, [], 0, 0, 0, 0) (by with_unfolding_all exact due_spec_c.core) (w, N, B, rows, kind, label, en, ve, t1, t2, t3, r) name ends oe hB hz hen le hi hel hname hnot heq
end
/-! part Fn4 -/
section
set_option linter.unusedVariables false
section
variable {w : World} {N N' : Hl} {A : BnkA} {rows : Rws} {t : Int} {k : Sh}
theorem row_cons {α : Type} {t : Int} {k : Sh} {rows : Rws} (f : Sh → α) (z : α) (h1 : 1 ≤ t) (hk : rowOf rows t = some k) : (z :: rows.map f)[t.toNat]? = some (f k) := by
  have e : t.toNat = (t - 1).toNat + 1 := by omega
  rw [e, List.getElem?_cons_succ, List.getElem?_map]
  unfold rowOf at hk
  rw [hk]; rfl
theorem BankIn.o (h : BankIn w N A rows) : BankO N A := h.1
theorem BankIn.opAt (h : BankIn w N A rows) (h1 : 1 ≤ t) (hk : rowOf rows t = some k) : ∃ vs n tk, N A.ops = some (lst vs n) ∧ vs[t.toNat]? = some (.str k.op tk) := by
  refine e0_2 h ?_
  try clear h
  intro _ hz0_
  refine e9_1 hz0_ ?_
  try clear hz0_
  intro vo no va na vs ns vd nd xs hL
  refine e1_1 (strs_get hL.opsI _ _ (row_cons (·.op) _ h1 hk)) ?_
  intro tk e
  exact ⟨vo, no, tk, hL.ops, e⟩
theorem BankIn.argAt (h : BankIn w N A rows) (h1 : 1 ≤ t) (hk : rowOf rows t = some k) : ∃ vs n a, N A.args = some (lst vs n) ∧ vs[t.toNat]? = some (.ref a) ∧ TupI N a k.args := by
  refine e0_2 h ?_
  try clear h
  intro _ hz0_
  refine e9_1 hz0_ ?_
  try clear hz0_
  intro vo no va na vs ns vd nd xs hL
  refine e1_2 (hL.argsI.2 _ _ (row_cons (·.args) _ h1 hk)) ?_
  intro a e x
  exact ⟨va, na, a, hL.args, e, x⟩
theorem BankIn.sortAt (h : BankIn w N A rows) (h1 : 1 ≤ t) (hk : rowOf rows t = some k) : ∃ vs n tk, N A.sorts = some (lst vs n) ∧ vs[t.toNat]? = some (.int k.kind tk) := by
  refine e0_2 h ?_
  try clear h
  intro _ hz0_
  refine e9_1 hz0_ ?_
  try clear hz0_
  intro vo no va na vs ns vd nd xs hL
  refine e1_1 (hL.sortsI.get _ _ (row_cons (·.kind) _ h1 hk)) ?_
  intro tk e
  exact ⟨vs, ns, tk, hL.sorts, e⟩
theorem BankIn.dataAt (h : BankIn w N A rows) (h1 : 1 ≤ t) (hk : rowOf rows t = some k) : ∃ vs n tk, N A.datas = some (lst vs n) ∧ vs[t.toNat]? = some (.int k.data tk) := by
  refine e0_2 h ?_
  try clear h
  intro _ hz0_
  refine e9_1 hz0_ ?_
  try clear hz0_
  intro vo no va na vs ns vd nd xs hL
  refine e1_1 (hL.datasI.get _ _ (row_cons (·.data) _ h1 hk)) ?_
  intro tk e
  exact ⟨vd, nd, tk, hL.datas, e⟩
theorem BankIn.opsLen (h : BankIn w N A rows) : ∃ vs n, N A.ops = some (lst vs n) ∧ vs.length = rows.length + 1 := by
  refine e0_2 h ?_
  try clear h
  intro _ hz0_
  refine e9_1 hz0_ ?_
  try clear hz0_
  intro vo no va na vs ns vd nd xs hL
  exact ⟨vo, no, hL.ops, by rw [strs_len hL.opsI]; simp⟩
theorem BankIn.new (h : BankIn w N A rows) {q : Addr} {o : Obj} (hq : N q = none) : BankIn w (upd N q o) A rows := h.keep (TupKeep.new hq) fun a _ o e => upd_old e hq
theorem BankIn.le (h : BankIn w N A rows) (k : Keep [] N N') : BankIn w N' A rows := h.keep (fun a vs e => k a _ e (by first | exact nm0 | simp)) fun a _ o e => k a _ e (by first | exact nm0 | simp)
theorem row_lt (hk : rowOf rows t = some k) : (t - 1).toNat < rows.length := (List.getElem?_eq_some_iff.mp hk).1
end

/-- term t is there and of sort s -/
def Typed (rows : Rws) (s t : Int) : Prop := 1 ≤ t ∧ ∃ k, rowOf rows t = some k ∧ k.kind = s

theorem want_spec {w : World} {N : Hl} {A : BnkA} {rows : Rws} {t s : Int} {wh : Str} {t1 t2 t3 : Tok} (r : Nat) (hA : BankIn w N A rows) (ht : Typed rows s t) (hz : rows.length < 1000) :
    Calls w 237 [.ref A.x, .int t t1, .int s t2, .str wh t3] N (r + 1) (fun v N' => v = .none ∧ N' = N) := by
  refine' enter [(Str.ofString "self", .ref A.x), (Str.ofString "t", .int t t1), (Str.ofString "s", .int s t2), (Str.ofString "where", .str wh t3)] [(Str.ofString "where", .str wh t3), (Str.ofString "s", .int s t2), (Str.ofString "t", .int t t1), (Str.ofString "self", .ref A.x)] ?ho ?hcd ?hb ?hl ?c1 ?c2 ?c3 ?c4 ?c5 ?_
  walk_at "m_ent"
  intro C ok
  have hO := hA.o
  refine e0_2 ht ?_
  try clear ht
  intro h1 hz0_
  refine e1_2 hz0_ ?_
  try clear hz0_
  intro k hk hy2_
  subst hy2_
  refine e3_2 (hA.sortAt h1 hk) ?_
  intro vs n tk hs hv
  have hlt := row_lt hk
  walk_at "m"
  refine SP_itemL hs (LO.lst _ _) (by first | exact Nat.le_refl _ | exact leK rfl | omega) (by first | exact Nat.le_refl _ | exact leK rfl | omega) hv ?_ (by walk_at "m_rfl")
  walk_at "m"
  refine Br.of_ff (by simp) ?_
  walk_at "m"
  exact ⟨rfl, rfl⟩

theorem want_all_spec {w : World} {N : Hl} {A : BnkA} {rows : Rws} {a : Addr} {ns : List Int} {s : Int} {wh : Str} {t2 t3 : Tok} (r : Nat) (hA : BankIn w N A rows) (ha : SeqI N a ns) (ht : ∀ t ∈ ns, Typed rows s t) (hz : rows.length < 1000) :
    Calls w 244 [.ref A.x, .ref a, .int s t2, .str wh t3] N (r + 2) (fun v N' => v = .none ∧ Keep [] N N') := by
  refine' enter [(Str.ofString "self", .ref A.x), (Str.ofString "some", .ref a), (Str.ofString "s", .int s t2), (Str.ofString "where", .str wh t3)] [(Str.ofString "where", .str wh t3), (Str.ofString "s", .int s t2), (Str.ofString "some", .ref a), (Str.ofString "self", .ref A.x)] ?ho ?hcd ?hb ?hl ?c1 ?c2 ?c3 ?c4 ?c5 ?_
  walk_at "m_ent"
  intro C ok
  walk_at "m"
  refine SP_For ok (by walk_at "m_rfl") ?_ (fun _ => rfl)
  walk_at "m"
  refine SP_iterS ok [(Str.ofString "where", .str wh t3), (Str.ofString "s", .int s t2), (Str.ofString "self", .ref A.x)] (fun _ N' => Keep [] N N') ha (by walk_at "m_has") (by exact rfl) (Keep.refl _ _) ?_ (fun i N' j o e => j a o e (by first | exact nm0 | simp)) ?_ ?_
  · intro I hI i N₁ N₂ ho j a o e _
    refine ho.2 a o (j a o e (by first | exact nm0 | simp)) ?_
    (first | exact neH e hI (by intro e_; cases e_) | exact Ne.symm (neH e hI (by intro e_; cases e_)) | (rintro rfl; rw [hI] at e; cases e))
  · intro I o i n t N₁ hI hn ie hIo hK
    have hA1 := hA.le hK
    have hO1 := hA1.o
    walk_at "m"
    refine SP_use ok (want_spec r hA1 (ht n (List.mem_of_getElem? hn)) hz) (Nat.le_refl _) (fun v N' hz_ => ?_)
    refine e0_2 hz_ ?_
    try clear hz_
    intro e e'
    subst e e'
    refine ⟨trivial, ?_⟩
    walk_at "m"
    exact TurnEnd.next hIo ⟨(Has.refl _).cons rfl, hK⟩
  · intro l' N' hl' hK
    walk_at "m"
    exact ⟨rfl, hK⟩

end
/-! part Fn5 -/
section
set_option linter.unusedVariables false
/-- what the making of a negation asks of the rows -/
structure NotOk (rows : Rws) : Prop where
  one : ∀ k, rowOf rows 1 = some k → k.op ≠ sNot
  two : ∀ k, rowOf rows 2 = some k → k.op ≠ sNot
  args : ∀ t k, rowOf rows t = some k → k.op = sNot → k.args ≠ []
theorem BankIn.le' {w : World} {N N' : Hl} {A : BnkA} {rows : Rws} (h : BankIn w N A rows) (k : N' = N) : BankIn w N' A rows := k ▸ h

theorem not_of_spec {w : World} {N : Hl} {A : BnkA} {rows : Rws} {t : Int} {t1 : Tok} (r : Nat) (hA : BankIn w N A rows) (ht : Typed rows 0 t) (hz : rows.length < 1000) (hn : NotOk rows) :
    Calls w 300 [.ref A.x, .int t t1] N (r + 2) (fun v N' => ∃ t', v = .int (denied rows t).1 t' ∧ BankIn w N' A (denied rows t).2 ∧ Keep A.mut N N') := by
  refine' enter [(Str.ofString "self", .ref A.x), (Str.ofString "t", .int t t1)] [(Str.ofString "t", .int t t1), (Str.ofString "self", .ref A.x)] ?ho ?hcd ?hb ?hl ?c1 ?c2 ?c3 ?c4 ?c5 ?_
  walk_at "m_ent"
  intro C ok
  have hO := hA.o
  walk_at "m"
  refine SP_use ok (want_spec r hA ht hz) (Nat.le_refl _) (fun v N' hz_ => ?_)
  refine e0_2 hz_ ?_
  try clear hz_
  intro e e'
  subst e e'
  refine ⟨trivial, ?_⟩
  walk_at "m"
  refine e0_2 ht ?_
  try clear ht
  intro h1 hz0_
  refine e1_2 hz0_ ?_
  try clear hz0_
  intro k hk hk0
  refine e3_2 (hA.opAt h1 hk) ?_
  intro vs n tk hs hv
  have hlt := row_lt hk
  refine SP_itemL hs (LO.lst _ _) (by first | exact Nat.le_refl _ | exact leK rfl | omega) (by first | exact Nat.le_refl _ | exact leK rfl | omega) hv ?_ (by walk_at "m_rfl")
  walk_at "m"
  by_cases hop : k.op = sNot
  · refine Br.of_tt (by first | exact nm1 hop | exact nm1 (Ne.symm hop) | simpa using hop) ?_
    have ht3 : ¬ t < 3 := by
      intro h
      rcases (by omega : t = 1 ∨ t = 2) with rfl | rfl
      · exact hn.one k hk hop
      · exact hn.two k hk hop
    walk_at "m"
    refine e3_3 (hA.argAt h1 hk) ?_
    intro va na b ha hb hz0_
    refine e1_2 hz0_ ?_
    try clear hz0_
    intro vb hvb hI
    refine SP_itemL ha (LO.lst _ _) (by first | exact Nat.le_refl _ | exact leK rfl | omega) (by first | exact Nat.le_refl _ | exact leK rfl | omega) hb ?_ (by walk_at "m_rfl")
    walk_at "m"
    obtain ⟨x, xs, hx⟩ : ∃ x xs, k.args = x :: xs := by cases e : k.args with | nil => exact absurd e (hn.args t k hk hop) | cons x xs => exact ⟨x, xs, rfl⟩
    rw [hx] at hI
    refine e2_2 hI.cons_inv ?_
    intro u vs' hy2_ hi'
    subst hy2_
    refine SP_itemT hvb (by decide) (by decide) rfl ?_ (by walk_at "m_rfl")
    walk_at "m"
    unfold denied
    rw [if_neg ht3, hk]
    simp only [hop, if_true, hx, List.headD_cons]
    exact ⟨_, rfl, hA, Keep.refl _ _⟩
  · refine Br.of_ff (by first | exact nm1 hop | exact nm1 (Ne.symm hop) | simpa using hop) ?_
    walk_at "m"
    by_cases ht1 : t = 1
    · refine Br.of_tt (by first | exact nm1 ht1 | exact nm1 (Ne.symm ht1) | simpa using ht1) ?_
      walk_at "m"
      unfold denied
      rw [if_pos (by first | exact Nat.le_refl _ | exact leK rfl | omega), ht1]
      exact ⟨_, rfl, hA, Keep.refl _ _⟩
    · refine Br.of_ff (by first | exact nm1 ht1 | exact nm1 (Ne.symm ht1) | simpa using ht1) ?_
      walk_at "m"
      by_cases ht2 : t = 2
      · refine Br.of_tt (by first | exact nm1 ht2 | exact nm1 (Ne.symm ht2) | simpa using ht2) ?_
        walk_at "m"
        unfold denied
        rw [if_pos (by first | exact Nat.le_refl _ | exact leK rfl | omega), ht2]
        exact ⟨_, rfl, hA, Keep.refl _ _⟩
      · refine Br.of_ff (by first | exact nm1 ht2 | exact nm1 (Ne.symm ht2) | simpa using ht2) ?_
        walk_at "m"
        refine SP_newTuple (fun q hq => ?_) (sz (by simp))
        have hA1 := hA.new (o := tupObj [Value.int t t1]) hq
        have hK1 : Keep A.mut N' (upd N' q (tupObj [Value.int t t1])) := Keep.new hq
        have hq1 : TupI (upd N' q (tupObj [Value.int t t1])) q [t] := ⟨_, upd_self .., .cons _ _ .nil⟩
        generalize upd N' q (tupObj [Value.int t t1]) = N1 at hA1 hK1 hq1 ⊢
        walk_at "m"
        refine SP_use ok (make_spec (k := ⟨sNot, [t], 0, 0⟩) r hA1 hq1 okNot hz) (by first | exact Nat.le_refl _ | exact leK rfl | omega) (fun v N' hz_ => ?_)
        refine e1_3 hz_ ?_
        try clear hz_
        intro t' e hB' hK'
        walk_at "m"
        unfold denied
        rw [if_neg (by first | exact Nat.le_refl _ | exact leK rfl | omega), hk]
        simp only [hop, if_false]
        exact ⟨t', e, hB', hK1.trans hK'⟩

end
/-! part Fn6 -/
section
set_option linter.unusedVariables false
theorem due_big {rows : Rws} {name : Str} {ends : List Int} {kind label : Int} (h1 : name ≠ sNot) (h2 : 2 ≤ ends.length) (h3 : name ≠ sEq) : due rows name ends kind label = ent1 rows ⟨name, ends, kind, label⟩ := by
  unfold due
  rw [if_neg h1, if_neg (by first | exact Nat.le_refl _ | exact leK rfl | omega), if_neg h3]
theorem due_mk {rows : Rws} {name : Str} {ends : List Int} {kind label : Int} (h1 : name ≠ sNot) (h2 : ¬ (name = sAnd ∨ name = sOr)) (h3 : name ≠ sEq) : due rows name ends kind label = ent1 rows ⟨name, ends, kind, label⟩ := by
  unfold due
  rw [if_neg h1, if_neg (fun h => h2 h.1), if_neg h3]

theorem and_of_spec {w : World} {N : Hl} {A : BnkA} {rows : Rws} {a : Addr} {vs : List Value} {n : Nat} {ends : List Int} (r : Nat) (hA : BankIn w N A rows) (ha : N a = some (lst vs n)) (hi : IntsAre vs ends) (ht : ∀ t ∈ ends, Typed rows 0 t) (hz : rows.length < 1000) (hel : ends.length < 100) :
    Calls w 307 [.ref A.x, .ref a] N (r + 3) (fun v N' => ∃ t', v = .int (due rows sAnd ends 0 0).1 t' ∧ BankIn w N' A (due rows sAnd ends 0 0).2 ∧ Keep A.mut N N') := by
  refine' enter [(Str.ofString "self", .ref A.x), (Str.ofString "some", .ref a)] [(Str.ofString "some", .ref a), (Str.ofString "self", .ref A.x)] ?ho ?hcd ?hb ?hl ?c1 ?c2 ?c3 ?c4 ?c5 ?_
  walk_at "m_ent"
  intro C ok
  have hO := hA.o
  have hlen := hi.length
  walk_at "m"
  refine SP_use ok (want_all_spec r hA (.inl ⟨vs, n, ha, hi⟩) ht hz) (Nat.le_refl _) (fun v N1 hz_ => ?_)
  refine e0_2 hz_ ?_
  try clear hz_
  intro e hK
  subst e
  refine ⟨trivial, ?_⟩
  have hA1 := hA.le hK
  have hO1 := hA1.o
  have ha1 : N1 a = some (lst vs n) := hK _ _ ha (by first | exact nm0 | simp)
  have hK1 : Keep A.mut N N1 := hK.sub (by simp)
  walk_at "m"
  refine SP_lenL ha1 (LO.lst _ _) (by first | exact Nat.le_refl _ | exact leK rfl | omega) fun tl => ?_
  walk_at "m"
  match ends, hi, hlen, ht with
  | [], hi, hlen, ht =>
    refine Br.of_tt (by simp [hlen]) ?_
    walk_at "m"
    exact ⟨_, rfl, hA1, hK1⟩
  | [x], hi, hlen, ht =>
    refine Br.of_ff (by simp [hlen]) ?_
    walk_at "m"
    refine SP_lenL ha1 (LO.lst _ _) (by first | exact Nat.le_refl _ | exact leK rfl | omega) fun tl => ?_
    walk_at "m"
    refine Br.of_tt (by simp [hlen]) ?_
    walk_at "m"
    refine e2_2 hi.cons_inv ?_
    intro u vs' hy2_ hi'
    subst hy2_
    refine SP_itemL ha1 (LO.lst _ _) (by decide) (by decide) rfl ?_ (by walk_at "m_rfl")
    walk_at "m"
    exact ⟨_, rfl, hA1, hK1⟩
  | x :: y :: zs, hi, hlen, ht =>
    simp only [List.length_cons] at hlen hel
    refine Br.of_ff (beq_false_of_ne (by first | exact Nat.le_refl _ | exact leK rfl | omega)) ?_
    walk_at "m"
    refine SP_lenL ha1 (LO.lst _ _) (by first | exact Nat.le_refl _ | exact leK rfl | omega) fun tl => ?_
    walk_at "m"
    refine Br.of_ff (beq_false_of_ne (by first | exact Nat.le_refl _ | exact leK rfl | omega)) ?_
    walk_at "m"
    refine SP_tupleL ha1 (LO.lst _ _) (by first | exact Nat.le_refl _ | exact leK rfl | omega) fun q hq => ?_
    have hA2 := hA1.new (o := tupObj vs) hq
    have hO2 := hA2.o
    have hK2 : Keep A.mut N (upd N1 q (tupObj vs)) := hK1.trans (Keep.new hq)
    have hq1 : TupI (upd N1 q (tupObj vs)) q (x :: y :: zs) := ⟨_, upd_self .., hi⟩
    generalize upd N1 q (tupObj vs) = N2 at hA2 hK2 hq1 hO2 ⊢
    walk_at "m"
    refine SP_use ok (make_spec (k := ⟨sAnd, x :: y :: zs, 0, 0⟩) r hA2 hq1 okAnd hz) (by first | exact Nat.le_refl _ | exact leK rfl | omega) (fun v N' hz_ => ?_)
    refine e1_3 hz_ ?_
    try clear hz_
    intro t' e hB' hK'
    walk_at "m"
    rw [due_big (by decide) (by simp) (by decide)]
    exact ⟨t', e, hB', hK2.trans hK'⟩

theorem or_of_spec {w : World} {N : Hl} {A : BnkA} {rows : Rws} {a : Addr} {vs : List Value} {n : Nat} {ends : List Int} (r : Nat) (hA : BankIn w N A rows) (ha : N a = some (lst vs n)) (hi : IntsAre vs ends) (ht : ∀ t ∈ ends, Typed rows 0 t) (hz : rows.length < 1000) (hel : ends.length < 100) :
    Calls w 314 [.ref A.x, .ref a] N (r + 3) (fun v N' => ∃ t', v = .int (due rows sOr ends 0 0).1 t' ∧ BankIn w N' A (due rows sOr ends 0 0).2 ∧ Keep A.mut N N') := by
  refine' enter [(Str.ofString "self", .ref A.x), (Str.ofString "some", .ref a)] [(Str.ofString "some", .ref a), (Str.ofString "self", .ref A.x)] ?ho ?hcd ?hb ?hl ?c1 ?c2 ?c3 ?c4 ?c5 ?_
  walk_at "m_ent"
  intro C ok
  have hO := hA.o
  have hlen := hi.length
  walk_at "m"
  refine SP_use ok (want_all_spec r hA (.inl ⟨vs, n, ha, hi⟩) ht hz) (Nat.le_refl _) (fun v N1 hz_ => ?_)
  refine e0_2 hz_ ?_
  try clear hz_
  intro e hK
  subst e
  refine ⟨trivial, ?_⟩
  have hA1 := hA.le hK
  have hO1 := hA1.o
  have ha1 : N1 a = some (lst vs n) := hK _ _ ha (by first | exact nm0 | simp)
  have hK1 : Keep A.mut N N1 := hK.sub (by simp)
  walk_at "m"
  refine SP_lenL ha1 (LO.lst _ _) (by first | exact Nat.le_refl _ | exact leK rfl | omega) fun tl => ?_
  walk_at "m"
  match ends, hi, hlen, ht with
  | [], hi, hlen, ht =>
    refine Br.of_tt (by simp [hlen]) ?_
    walk_at "m"
    exact ⟨_, rfl, hA1, hK1⟩
  | [x], hi, hlen, ht =>
    refine Br.of_ff (by simp [hlen]) ?_
    walk_at "m"
    refine SP_lenL ha1 (LO.lst _ _) (by first | exact Nat.le_refl _ | exact leK rfl | omega) fun tl => ?_
    walk_at "m"
    refine Br.of_tt (by simp [hlen]) ?_
    walk_at "m"
    refine e2_2 hi.cons_inv ?_
    intro u vs' hy2_ hi'
    subst hy2_
    refine SP_itemL ha1 (LO.lst _ _) (by decide) (by decide) rfl ?_ (by walk_at "m_rfl")
    walk_at "m"
    exact ⟨_, rfl, hA1, hK1⟩
  | x :: y :: zs, hi, hlen, ht =>
    simp only [List.length_cons] at hlen hel
    refine Br.of_ff (beq_false_of_ne (by first | exact Nat.le_refl _ | exact leK rfl | omega)) ?_
    walk_at "m"
    refine SP_lenL ha1 (LO.lst _ _) (by first | exact Nat.le_refl _ | exact leK rfl | omega) fun tl => ?_
    walk_at "m"
    refine Br.of_ff (beq_false_of_ne (by first | exact Nat.le_refl _ | exact leK rfl | omega)) ?_
    walk_at "m"
    refine SP_tupleL ha1 (LO.lst _ _) (by first | exact Nat.le_refl _ | exact leK rfl | omega) fun q hq => ?_
    have hA2 := hA1.new (o := tupObj vs) hq
    have hO2 := hA2.o
    have hK2 : Keep A.mut N (upd N1 q (tupObj vs)) := hK1.trans (Keep.new hq)
    have hq1 : TupI (upd N1 q (tupObj vs)) q (x :: y :: zs) := ⟨_, upd_self .., hi⟩
    generalize upd N1 q (tupObj vs) = N2 at hA2 hK2 hq1 hO2 ⊢
    walk_at "m"
    refine SP_use ok (make_spec (k := ⟨sOr, x :: y :: zs, 0, 0⟩) r hA2 hq1 okOr hz) (by first | exact Nat.le_refl _ | exact leK rfl | omega) (fun v N' hz_ => ?_)
    refine e1_3 hz_ ?_
    try clear hz_
    intro t' e hB' hK'
    walk_at "m"
    rw [due_big (by decide) (by simp) (by decide)]
    exact ⟨t', e, hB', hK2.trans hK'⟩

theorem xor_of_spec {w : World} {N : Hl} {A : BnkA} {rows : Rws} {a b : Int} {ta tb : Tok} (r : Nat) (hA : BankIn w N A rows) (h1 : Typed rows 0 a) (h2 : Typed rows 0 b) (hz : rows.length < 1000) :
    Calls w 321 [.ref A.x, .int a ta, .int b tb] N (r + 3) (fun v N' => ∃ t', v = .int (due rows sXor [a, b] 0 0).1 t' ∧ BankIn w N' A (due rows sXor [a, b] 0 0).2 ∧ Keep A.mut N N') := by
  refine' enter [(Str.ofString "self", .ref A.x), (Str.ofString "a", .int a ta), (Str.ofString "b", .int b tb)] [(Str.ofString "b", .int b tb), (Str.ofString "a", .int a ta), (Str.ofString "self", .ref A.x)] ?ho ?hcd ?hb ?hl ?c1 ?c2 ?c3 ?c4 ?c5 ?_
  walk_at "m_ent"
  intro C ok
  have hO := hA.o
  walk_at "m"
  refine SP_newTuple (fun q hq => ?_) (sz (by simp))
  have hA1 := hA.new (o := tupObj [Value.int a ta, Value.int b tb]) hq
  have hO1 := hA1.o
  have hK1 : Keep A.mut N (upd N q (tupObj [Value.int a ta, Value.int b tb])) := Keep.new hq
  have hq1 : TupI (upd N q (tupObj [Value.int a ta, Value.int b tb])) q [a, b] := ⟨_, upd_self .., .cons _ _ (.cons _ _ .nil)⟩
  generalize upd N q (tupObj [Value.int a ta, Value.int b tb]) = N1 at hA1 hK1 hq1 hO1 ⊢
  walk_at "m"
  refine SP_use ok (want_all_spec r hA1 (.inr hq1) (by simp only [List.mem_cons, List.not_mem_nil, or_false]; rintro t (rfl | rfl); exact h1; exact h2) hz) (Nat.le_refl _) (fun v N2 hz_ => ?_)
  refine e0_2 hz_ ?_
  try clear hz_
  intro e hK
  subst e
  refine ⟨trivial, ?_⟩
  have hA2 := hA1.le hK
  have hO2 := hA2.o
  have hK2 : Keep A.mut N N2 := hK1.trans (hK.sub (by simp))
  walk_at "m"
  refine SP_newTuple (fun q2 hq2 => ?_) (sz (by simp))
  have hA3 := hA2.new (o := tupObj [Value.int a ta, Value.int b tb]) hq2
  have hK3 : Keep A.mut N (upd N2 q2 (tupObj [Value.int a ta, Value.int b tb])) := hK2.trans (Keep.new hq2)
  have hq3 : TupI (upd N2 q2 (tupObj [Value.int a ta, Value.int b tb])) q2 [a, b] := ⟨_, upd_self .., .cons _ _ (.cons _ _ .nil)⟩
  generalize upd N2 q2 (tupObj [Value.int a ta, Value.int b tb]) = N3 at hA3 hK3 hq3 ⊢
  walk_at "m"
  refine SP_use ok (make_spec (k := ⟨sXor, [a, b], 0, 0⟩) r hA3 hq3 okXor hz) (by first | exact Nat.le_refl _ | exact leK rfl | omega) (fun v N' hz_ => ?_)
  refine e1_3 hz_ ?_
  try clear hz_
  intro t' e hB' hK'
  walk_at "m"
  rw [due_big (by decide) (by simp) (by decide)]
  exact ⟨t', e, hB', hK3.trans hK'⟩

theorem implies_of_spec {w : World} {N : Hl} {A : BnkA} {rows : Rws} {a b : Int} {ta tb : Tok} (r : Nat) (hA : BankIn w N A rows) (h1 : Typed rows 0 a) (h2 : Typed rows 0 b) (hz : rows.length < 1000) :
    Calls w 328 [.ref A.x, .int a ta, .int b tb] N (r + 3) (fun v N' => ∃ t', v = .int (due rows sImp [a, b] 0 0).1 t' ∧ BankIn w N' A (due rows sImp [a, b] 0 0).2 ∧ Keep A.mut N N') := by
  refine' enter [(Str.ofString "self", .ref A.x), (Str.ofString "a", .int a ta), (Str.ofString "b", .int b tb)] [(Str.ofString "b", .int b tb), (Str.ofString "a", .int a ta), (Str.ofString "self", .ref A.x)] ?ho ?hcd ?hb ?hl ?c1 ?c2 ?c3 ?c4 ?c5 ?_
  walk_at "m_ent"
  intro C ok
  have hO := hA.o
  walk_at "m"
  refine SP_newTuple (fun q hq => ?_) (sz (by simp))
  have hA1 := hA.new (o := tupObj [Value.int a ta, Value.int b tb]) hq
  have hO1 := hA1.o
  have hK1 : Keep A.mut N (upd N q (tupObj [Value.int a ta, Value.int b tb])) := Keep.new hq
  have hq1 : TupI (upd N q (tupObj [Value.int a ta, Value.int b tb])) q [a, b] := ⟨_, upd_self .., .cons _ _ (.cons _ _ .nil)⟩
  generalize upd N q (tupObj [Value.int a ta, Value.int b tb]) = N1 at hA1 hK1 hq1 hO1 ⊢
  walk_at "m"
  refine SP_use ok (want_all_spec r hA1 (.inr hq1) (by simp only [List.mem_cons, List.not_mem_nil, or_false]; rintro t (rfl | rfl); exact h1; exact h2) hz) (Nat.le_refl _) (fun v N2 hz_ => ?_)
  refine e0_2 hz_ ?_
  try clear hz_
  intro e hK
  subst e
  refine ⟨trivial, ?_⟩
  have hA2 := hA1.le hK
  have hO2 := hA2.o
  have hK2 : Keep A.mut N N2 := hK1.trans (hK.sub (by simp))
  walk_at "m"
  refine SP_newTuple (fun q2 hq2 => ?_) (sz (by simp))
  have hA3 := hA2.new (o := tupObj [Value.int a ta, Value.int b tb]) hq2
  have hK3 : Keep A.mut N (upd N2 q2 (tupObj [Value.int a ta, Value.int b tb])) := hK2.trans (Keep.new hq2)
  have hq3 : TupI (upd N2 q2 (tupObj [Value.int a ta, Value.int b tb])) q2 [a, b] := ⟨_, upd_self .., .cons _ _ (.cons _ _ .nil)⟩
  generalize upd N2 q2 (tupObj [Value.int a ta, Value.int b tb]) = N3 at hA3 hK3 hq3 ⊢
  walk_at "m"
  refine SP_use ok (make_spec (k := ⟨sImp, [a, b], 0, 0⟩) r hA3 hq3 okImp hz) (by first | exact Nat.le_refl _ | exact leK rfl | omega) (fun v N' hz_ => ?_)
  refine e1_3 hz_ ?_
  try clear hz_
  intro t' e hB' hK'
  walk_at "m"
  rw [due_big (by decide) (by simp) (by decide)]
  exact ⟨t', e, hB', hK3.trans hK'⟩

theorem eq_spec {w : World} {N : Hl} {A : BnkA} {rows : Rws} {a b s : Int} {ta tb : Tok} (r : Nat) (hA : BankIn w N A rows) (h1 : Typed rows s a) (h2 : Typed rows s b) (hz : rows.length < 1000) :
    Calls w 342 [.ref A.x, .int a ta, .int b tb] N (r + 3) (fun v N' => ∃ t', v = .int (alike rows a b).1 t' ∧ BankIn w N' A (alike rows a b).2 ∧ Keep A.mut N N') := by
  refine' enter [(Str.ofString "self", .ref A.x), (Str.ofString "a", .int a ta), (Str.ofString "b", .int b tb)] [(Str.ofString "b", .int b tb), (Str.ofString "a", .int a ta), (Str.ofString "self", .ref A.x)] ?ho ?hcd ?hb ?hl ?c1 ?c2 ?c3 ?c4 ?c5 ?_
  walk_at "m_ent"
  intro C ok
  have hO := hA.o
  walk_at "m"
  have h1' := h1
  refine e0_2 h1' ?_
  try clear h1'
  intro g1 hz0_
  refine e1_2 hz0_ ?_
  try clear hz0_
  intro k hk hks
  refine e3_2 (hA.sortAt g1 hk) ?_
  intro vs n tk hs hv
  have hlt := row_lt hk
  rw [hks] at hv
  refine SP_itemL hs (LO.lst _ _) (by first | exact Nat.le_refl _ | exact leK rfl | omega) (by first | exact Nat.le_refl _ | exact leK rfl | omega) hv ?_ (by walk_at "m_rfl")
  walk_at "m"
  refine SP_use ok (want_spec r hA h2 hz) (by first | exact Nat.le_refl _ | exact leK rfl | omega) (fun v N' hz_ => ?_)
  refine e0_2 hz_ ?_
  try clear hz_
  intro e e'
  subst e e'
  refine ⟨trivial, ?_⟩
  walk_at "m"
  unfold alike
  by_cases hab : a = b
  · refine Br.of_tt (by first | exact nm1 hab | exact nm1 (Ne.symm hab) | simpa using hab) ?_
    walk_at "m"
    rw [if_pos hab]
    exact ⟨_, rfl, hA, Keep.refl _ _⟩
  · refine Br.of_ff (by first | exact nm1 hab | exact nm1 (Ne.symm hab) | simpa using hab) ?_
    walk_at "m"
    refine SP_min ok fun tm => ?_
    walk_at "m"
    refine SP_max ok fun tx => ?_
    walk_at "m"
    have e1 : (if b < a then b else a) = min a b := by rw [Int.min_def]; split <;> split <;> omega
    have e2 : (if b > a then b else a) = max a b := by rw [Int.max_def]; split <;> split <;> omega
    rw [e1, e2]
    refine SP_newTuple (fun q hq => ?_) (sz (by simp))
    have hA1 := hA.new (o := tupObj [Value.int (min a b) tm, Value.int (max a b) tx]) hq
    have hK1 : Keep A.mut N' (upd N' q (tupObj [Value.int (min a b) tm, Value.int (max a b) tx])) := Keep.new hq
    have hq1 : TupI (upd N' q (tupObj [Value.int (min a b) tm, Value.int (max a b) tx])) q [min a b, max a b] := ⟨_, upd_self .., .cons _ _ (.cons _ _ .nil)⟩
    generalize upd N' q (tupObj [Value.int (min a b) tm, Value.int (max a b) tx]) = N1 at hA1 hK1 hq1 ⊢
    walk_at "m"
    refine SP_use ok (make_spec (k := ⟨sEq, [min a b, max a b], 0, 0⟩) r hA1 hq1 okEq hz) (by first | exact Nat.le_refl _ | exact leK rfl | omega) (fun v N' hz_ => ?_)
    refine e1_3 hz_ ?_
    try clear hz_
    intro t' e hB' hK'
    walk_at "m"
    rw [if_neg hab]
    exact ⟨t', e, hB', hK1.trans hK'⟩

theorem distinct_spec {w : World} {N : Hl} {A : BnkA} {rows : Rws} {a : Addr} {vs : List Value} {n : Nat} {ends : List Int} {s : Int} (r : Nat) (hA : BankIn w N A rows) (ha : N a = some (lst vs n)) (hi : IntsAre vs ends) (h2 : 2 ≤ ends.length) (ht : ∀ t ∈ ends, Typed rows s t) (hz : rows.length < 1000) (hel : ends.length < 100) :
    Calls w 349 [.ref A.x, .ref a] N (r + 3) (fun v N' => ∃ t', v = .int (due rows sDis ends 0 0).1 t' ∧ BankIn w N' A (due rows sDis ends 0 0).2 ∧ Keep A.mut N N') := by
  refine' enter [(Str.ofString "self", .ref A.x), (Str.ofString "some", .ref a)] [(Str.ofString "some", .ref a), (Str.ofString "self", .ref A.x)] ?ho ?hcd ?hb ?hl ?c1 ?c2 ?c3 ?c4 ?c5 ?_
  walk_at "m_ent"
  intro C ok
  have hO := hA.o
  have hlen := hi.length
  walk_at "m"
  refine SP_lenL ha (LO.lst _ _) (by first | exact Nat.le_refl _ | exact leK rfl | omega) fun tl => ?_
  walk_at "m"
  refine Br.of_ff (by simp; omega) ?_
  walk_at "m"
  match ends, hi, hlen, ht with
  | x :: xs, hi, hlen, ht =>
  refine e2_2 hi.cons_inv ?_
  intro u vs' hy2_ hi'
  subst hy2_
  refine SP_itemL ha (LO.lst _ _) (by decide) (by decide) rfl ?_ (by walk_at "m_rfl")
  refine e0_2 (ht x (by simp)) ?_
  intro g1 hz0_
  refine e1_2 hz0_ ?_
  try clear hz0_
  intro k hk hks
  refine e3_2 (hA.sortAt g1 hk) ?_
  intro vv m tk hs hv
  have hlt := row_lt hk
  rw [hks] at hv
  refine SP_itemL hs (LO.lst _ _) (by first | exact Nat.le_refl _ | exact leK rfl | omega) (by first | exact Nat.le_refl _ | exact leK rfl | omega) hv ?_ (by walk_at "m_rfl")
  walk_at "m"
  refine SP_use ok (want_all_spec r hA (.inl ⟨_, n, ha, hi⟩) ht hz) (Nat.le_refl _) (fun v N1 hz_ => ?_)
  refine e0_2 hz_ ?_
  try clear hz_
  intro e hK
  subst e
  refine ⟨trivial, ?_⟩
  have hA1 := hA.le hK
  have hO1 := hA1.o
  have ha1 : N1 a = some (lst _ n) := hK _ _ ha (by first | exact nm0 | simp)
  have hK1 : Keep A.mut N N1 := hK.sub (by simp)
  walk_at "m"
  refine SP_tupleL ha1 (LO.lst _ _) (by first | exact Nat.le_refl _ | exact leK rfl | omega) fun q hq => ?_
  have hA2 := hA1.new (o := tupObj (Value.int x u :: vs')) hq
  have hO2 := hA2.o
  have hK2 : Keep A.mut N (upd N1 q (tupObj (Value.int x u :: vs'))) := hK1.trans (Keep.new hq)
  have hq1 : TupI (upd N1 q (tupObj (Value.int x u :: vs'))) q (x :: xs) := ⟨_, upd_self .., hi⟩
  generalize upd N1 q (tupObj (Value.int x u :: vs')) = N2 at hA2 hK2 hq1 hO2 ⊢
  walk_at "m"
  refine SP_use ok (make_spec (k := ⟨sDis, x :: xs, 0, 0⟩) r hA2 hq1 okDis hz) (by first | exact Nat.le_refl _ | exact leK rfl | omega) (fun v N' hz_ => ?_)
  refine e1_3 hz_ ?_
  try clear hz_
  intro t' e hB' hK'
  walk_at "m"
  rw [due_big (by decide) h2 (by decide)]
  exact ⟨t', e, hB', hK2.trans hK'⟩

theorem ite_spec {w : World} {N : Hl} {A : BnkA} {rows : Rws} {c a b s : Int} {tc ta tb : Tok} (r : Nat) (hA : BankIn w N A rows) (h0 : Typed rows 0 c) (h1 : Typed rows s a) (h2 : Typed rows s b) (hz : rows.length < 1000) :
    Calls w 356 [.ref A.x, .int c tc, .int a ta, .int b tb] N (r + 3) (fun v N' => ∃ t', v = .int (due rows sIte [c, a, b] s 0).1 t' ∧ BankIn w N' A (due rows sIte [c, a, b] s 0).2 ∧ Keep A.mut N N') := by
  refine' enter [(Str.ofString "self", .ref A.x), (Str.ofString "c", .int c tc), (Str.ofString "a", .int a ta), (Str.ofString "b", .int b tb)] [(Str.ofString "b", .int b tb), (Str.ofString "a", .int a ta), (Str.ofString "c", .int c tc), (Str.ofString "self", .ref A.x)] ?ho ?hcd ?hb ?hl ?c1 ?c2 ?c3 ?c4 ?c5 ?_
  walk_at "m_ent"
  intro C ok
  have hO := hA.o
  walk_at "m"
  refine SP_use ok (want_spec r hA h0 hz) (by first | exact Nat.le_refl _ | exact leK rfl | omega) (fun v N' hz_ => ?_)
  refine e0_2 hz_ ?_
  try clear hz_
  intro e e'
  subst e e'
  refine ⟨trivial, ?_⟩
  walk_at "m"
  have h1' := h1
  refine e0_2 h1' ?_
  try clear h1'
  intro g1 hz0_
  refine e1_2 hz0_ ?_
  try clear hz0_
  intro k hk hks
  refine e3_2 (hA.sortAt g1 hk) ?_
  intro vs n tk hs hv
  have hlt := row_lt hk
  rw [hks] at hv
  refine SP_itemL hs (LO.lst _ _) (by first | exact Nat.le_refl _ | exact leK rfl | omega) (by first | exact Nat.le_refl _ | exact leK rfl | omega) hv ?_ (by walk_at "m_rfl")
  walk_at "m"
  refine SP_use ok (want_spec r hA h2 hz) (by first | exact Nat.le_refl _ | exact leK rfl | omega) (fun v N'' hz_ => ?_)
  refine e0_2 hz_ ?_
  try clear hz_
  intro e e'
  subst e e'
  refine ⟨trivial, ?_⟩
  walk_at "m"
  refine SP_newTuple (fun q hq => ?_) (sz (by simp))
  have hA1 := hA.new (o := tupObj [Value.int c tc, Value.int a ta, Value.int b tb]) hq
  have hO1 := hA1.o
  have hK1 : Keep A.mut N'' (upd N'' q (tupObj [Value.int c tc, Value.int a ta, Value.int b tb])) := Keep.new hq
  have hq1 : TupI (upd N'' q (tupObj [Value.int c tc, Value.int a ta, Value.int b tb])) q [c, a, b] := ⟨_, upd_self .., .cons _ _ (.cons _ _ (.cons _ _ .nil))⟩
  have hs1 : upd N'' q (tupObj [Value.int c tc, Value.int a ta, Value.int b tb]) A.sorts = some (lst vs n) := upd_old hs hq
  generalize upd N'' q (tupObj [Value.int c tc, Value.int a ta, Value.int b tb]) = N1 at hA1 hK1 hq1 hO1 hs1 ⊢
  walk_at "m"
  refine SP_itemL hs1 (LO.lst _ _) (by first | exact Nat.le_refl _ | exact leK rfl | omega) (by first | exact Nat.le_refl _ | exact leK rfl | omega) hv ?_ (by walk_at "m_rfl")
  walk_at "m"
  refine SP_use ok (make_spec (k := ⟨sIte, [c, a, b], s, 0⟩) r hA1 hq1 okIte hz) (by first | exact Nat.le_refl _ | exact leK rfl | omega) (fun v N' hz_ => ?_)
  refine e1_3 hz_ ?_
  try clear hz_
  intro t' e hB' hK'
  walk_at "m"
  rw [due_big (by decide) (by simp) (by decide)]
  exact ⟨t', e, hB', hK1.trans hK'⟩

theorem find_spec {w : World} {N : Hl} {A : BnkA} {rows : Rws} {k : Sh} {e : Addr} {t1 t2 t3 : Tok} (r : Nat) (hA : BankIn w N A rows) (he : TupI N e k.args) (ho : OpOk k) (hz : rows.length < 1000) :
    Calls w 223 [.ref A.x, .str k.op t1, .ref e, .int k.kind t2, .int k.data t3] N (r + 1) (fun v N' => (∃ t, v = .int (if k ∈ rows then num rows k else 0) t) ∧ Keep [] N N') := by
  refine' enter [(Str.ofString "self", .ref A.x), (Str.ofString "op", .str k.op t1), (Str.ofString "args", .ref e), (Str.ofString "sort", .int k.kind t2), (Str.ofString "data", .int k.data t3)] [(Str.ofString "data", .int k.data t3), (Str.ofString "sort", .int k.kind t2), (Str.ofString "args", .ref e), (Str.ofString "op", .str k.op t1), (Str.ofString "self", .ref A.x)] ?ho ?hcd ?hb ?hl ?c1 ?c2 ?c3 ?c4 ?c5 ?_
  walk_at "m_ent"
  intro C ok
  have hO := hA.o
  walk_at "m"
  refine e0_2 hA ?_
  try clear hA
  intro _ hz0_
  refine e9_1 hz0_ ?_
  try clear hz0_
  intro vo no va na vs ns vd nd xs hL
  refine SP_mGet hL.nums ?_
  dsimp only
  walk_at "m"
  refine SP_newTuple (fun q hq => ?_) (sz (by simp))
  have hk : KeyT (upd N q (tupObj [.str k.op t1, .ref e, .int k.kind t2, .int k.data t3])) q k := ⟨t1, e, t2, t3, upd_self .., he.keep (TupKeep.new hq)⟩
  have hK1 : Keep [] N (upd N q (tupObj [.str k.op t1, .ref e, .int k.kind t2, .int k.data t3])) := Keep.new hq
  have hL1 := hL.keep (N' := upd N q (tupObj [.str k.op t1, .ref e, .int k.kind t2, .int k.data t3])) (TupKeep.new hq) (fun a _ o h => upd_old h hq)
  generalize upd N q (tupObj [.str k.op t1, .ref e, .int k.kind t2, .int k.data t3]) = N1 at hk hK1 hL1 ⊢
  walk_at "m"
  refine SP_dGet ok hL1.nums hk ho ?_
  have hkeys : xs.map (·.1) = rows := hL.keys
  have hnd : (xs.map (·.1)).Nodup := by obtain ⟨_, _, _, _, _, _, _, _, h⟩ := hL.nums; exact h
  walk_at "m"
  by_cases hmem : k ∈ rows
  · obtain ⟨a, ta, hat⟩ := atKey_idx (k := k) hL.numd hnd (by rw [hkeys]; exact hmem)
    rw [hkeys] at hat
    rw [hat, if_pos hmem]
    exact ⟨⟨ta, rfl⟩, hK1⟩
  · rw [atKey_out (xs := xs) (by rw [hkeys]; exact hmem), if_neg hmem]
    exact ⟨⟨_, rfl⟩, hK1⟩

theorem size_spec {w : World} {N : Hl} {A : BnkA} {rows : Rws} (r : Nat) (hA : BankIn w N A rows) (hz : rows.length < 1000) :
    Calls w 209 [.ref A.x] N (r + 1) (fun v N' => (∃ t, v = .int (rows.length : Int) t) ∧ N' = N) := by
  refine' enter [(Str.ofString "self", .ref A.x)] [(Str.ofString "self", .ref A.x)] ?ho ?hcd ?hb ?hl ?c1 ?c2 ?c3 ?c4 ?c5 ?_
  walk_at "m_ent"
  intro C ok
  have hO := hA.o
  refine e2_2 hA.opsLen ?_
  intro vs n ho hl
  walk_at "m"
  refine SP_lenL ho (LO.lst _ _) (by first | exact Nat.le_refl _ | exact leK rfl | omega) fun tl => ?_
  walk_at "m"
  have e : (vs.length : Int) - 1 = (rows.length : Int) := by omega
  rw [e]
  exact ⟨⟨_, rfl⟩, rfl⟩
theorem op_spec {w : World} {N : Hl} {A : BnkA} {rows : Rws} {t : Int} {tt : Tok} {k : Sh} (r : Nat) (hA : BankIn w N A rows) (h1 : 1 ≤ t) (hk : rowOf rows t = some k) (hz : rows.length < 1000) :
    Calls w 174 [.ref A.x, .int t tt] N (r + 1) (fun v N' => (∃ u, v = .str k.op u) ∧ N' = N) := by
  refine' enter [(Str.ofString "self", .ref A.x), (Str.ofString "t", .int t tt)] [(Str.ofString "t", .int t tt), (Str.ofString "self", .ref A.x)] ?ho ?hcd ?hb ?hl ?c1 ?c2 ?c3 ?c4 ?c5 ?_
  walk_at "m_ent"
  intro C ok
  have hO := hA.o
  refine e3_2 (hA.opAt h1 hk) ?_
  intro vs n tk ho hv
  have hlt := row_lt hk
  walk_at "m"
  refine SP_itemL ho (LO.lst _ _) (by first | exact Nat.le_refl _ | exact leK rfl | omega) (by first | exact Nat.le_refl _ | exact leK rfl | omega) hv ?_ (by walk_at "m_rfl")
  walk_at "m"
  exact ⟨⟨_, rfl⟩, rfl⟩
theorem args_spec {w : World} {N : Hl} {A : BnkA} {rows : Rws} {t : Int} {tt : Tok} {k : Sh} (r : Nat) (hA : BankIn w N A rows) (h1 : 1 ≤ t) (hk : rowOf rows t = some k) (hz : rows.length < 1000) :
    Calls w 181 [.ref A.x, .int t tt] N (r + 1) (fun v N' => (∃ a, v = .ref a ∧ TupI N a k.args) ∧ N' = N) := by
  refine' enter [(Str.ofString "self", .ref A.x), (Str.ofString "t", .int t tt)] [(Str.ofString "t", .int t tt), (Str.ofString "self", .ref A.x)] ?ho ?hcd ?hb ?hl ?c1 ?c2 ?c3 ?c4 ?c5 ?_
  walk_at "m_ent"
  intro C ok
  have hO := hA.o
  refine e3_3 (hA.argAt h1 hk) ?_
  intro vs n a ho hv ha
  have hlt := row_lt hk
  walk_at "m"
  refine SP_itemL ho (LO.lst _ _) (by first | exact Nat.le_refl _ | exact leK rfl | omega) (by first | exact Nat.le_refl _ | exact leK rfl | omega) hv ?_ (by walk_at "m_rfl")
  walk_at "m"
  exact ⟨⟨_, rfl, ha⟩, rfl⟩
theorem sort_spec {w : World} {N : Hl} {A : BnkA} {rows : Rws} {t : Int} {tt : Tok} {k : Sh} (r : Nat) (hA : BankIn w N A rows) (h1 : 1 ≤ t) (hk : rowOf rows t = some k) (hz : rows.length < 1000) :
    Calls w 188 [.ref A.x, .int t tt] N (r + 1) (fun v N' => (∃ u, v = .int k.kind u) ∧ N' = N) := by
  refine' enter [(Str.ofString "self", .ref A.x), (Str.ofString "t", .int t tt)] [(Str.ofString "t", .int t tt), (Str.ofString "self", .ref A.x)] ?ho ?hcd ?hb ?hl ?c1 ?c2 ?c3 ?c4 ?c5 ?_
  walk_at "m_ent"
  intro C ok
  have hO := hA.o
  refine e3_2 (hA.sortAt h1 hk) ?_
  intro vs n tk ho hv
  have hlt := row_lt hk
  walk_at "m"
  refine SP_itemL ho (LO.lst _ _) (by first | exact Nat.le_refl _ | exact leK rfl | omega) (by first | exact Nat.le_refl _ | exact leK rfl | omega) hv ?_ (by walk_at "m_rfl")
  walk_at "m"
  exact ⟨⟨_, rfl⟩, rfl⟩


end
/-! part Fn7 -/
section
set_option linter.unusedVariables false
/-- the bank's functions: their arguments' sorts, their results' -/
def FunsIn (N : Hl) (A : BnkA) (sigs : List (List Int × Int)) : Prop :=
  ∃ vn nn ys va na vr nr, N A.fnames = some (lst vn nn) ∧ StrsAre vn ys ∧ ys.length = sigs.length ∧ N A.fargs = some (lst va na) ∧ ArgsAre N va (sigs.map (·.1)) ∧ N A.fres = some (lst vr nr) ∧ IntsAre vr (sigs.map (·.2))
theorem FunsIn.keep {N N' : Hl} {A : BnkA} {sigs : List (List Int × Int)} (h : FunsIn N A sigs) (tk : TupKeep N N') (k : ∀ a ∈ [A.fnames, A.fargs, A.fres], ∀ o, N a = some o → N' a = some o) : FunsIn N' A sigs := by
  refine e7_7 h ?_
  try clear h
  intro vn nn ys va na vr nr h1 h2 h3 h4 h5 h6 h7
  exact ⟨vn, nn, ys, va, na, vr, nr, k _ (by simp) _ h1, h2, h3, k _ (by simp) _ h4, h5.keep tk, k _ (by simp) _ h6, h7⟩
theorem FunsIn.le {N N' : Hl} {A : BnkA} {sigs : List (List Int × Int)} (h : FunsIn N A sigs) (k : Keep [] N N') : FunsIn N' A sigs := h.keep (fun a vs e => k a _ e (by first | exact nm0 | simp)) fun a _ o e => k a _ e (by first | exact nm0 | simp)

namespace app_spec_c
def P (w : World) (N : Hl) (A : BnkA) (rows : Rws) (sigs : List (List Int × Int)) (a : Addr) (f : Int) (x : Int) (s : Int) (res : Int) (tf : Tok) (tx : Tok) (r : Nat) : Prop := ∀ (hA : BankIn w N A rows) (hF : FunsIn N A sigs) (h0 : 0 ≤ f) (hsig : sigs[f.toNat]? = some ([s], res)) (ha : N a = some (tupObj [.int x tx])) (ht : Typed rows s x) (hz : rows.length < 1000) (hzs : sigs.length < 1000), Calls w 363 [.ref A.x, .int f tf, .ref a] N (r + 2) (fun v N' => ∃ t', v = .int (due rows sApp [x] res f).1 t' ∧ BankIn w N' A (due rows sApp [x] res f).2 ∧ Keep A.mut N N')
noncomputable def V : World × Hl × BnkA × Rws × List (List Int × Int) × Addr × Int × Int × Int × Int × Tok × Tok × Nat := pick (aWorld 0, fun _ => none, ⟨0, 0, [], 0, 0, 0, 0, 0, 0, 0, 0, 0, 0, 0⟩, [], [], 0, 0, 0, 0, 0, 0, 0, 0) fun q => P q.1 q.2.1 q.2.2.1 q.2.2.2.1 q.2.2.2.2.1 q.2.2.2.2.2.1 q.2.2.2.2.2.2.1 q.2.2.2.2.2.2.2.1 q.2.2.2.2.2.2.2.2.1 q.2.2.2.2.2.2.2.2.2.1 q.2.2.2.2.2.2.2.2.2.2.1 q.2.2.2.2.2.2.2.2.2.2.2.1 q.2.2.2.2.2.2.2.2.2.2.2.2
@[irreducible] noncomputable def w : World := V.1
@[irreducible] noncomputable def N : Hl := V.2.1
@[irreducible] noncomputable def A : BnkA := V.2.2.1
@[irreducible] noncomputable def rows : Rws := V.2.2.2.1
@[irreducible] noncomputable def sigs : List (List Int × Int) := V.2.2.2.2.1
@[irreducible] noncomputable def a : Addr := V.2.2.2.2.2.1
@[irreducible] noncomputable def f : Int := V.2.2.2.2.2.2.1
@[irreducible] noncomputable def x : Int := V.2.2.2.2.2.2.2.1
@[irreducible] noncomputable def s : Int := V.2.2.2.2.2.2.2.2.1
@[irreducible] noncomputable def res : Int := V.2.2.2.2.2.2.2.2.2.1
@[irreducible] noncomputable def tf : Tok := V.2.2.2.2.2.2.2.2.2.2.1
@[irreducible] noncomputable def tx : Tok := V.2.2.2.2.2.2.2.2.2.2.2.1
@[irreducible] noncomputable def r : Nat := V.2.2.2.2.2.2.2.2.2.2.2.2
theorem core : P w N A rows sigs a f x s res tf tx r := by
  unfold P
  intro hA hF h0 hsig ha ht hz hzs
  refine' enter [(Str.ofString "self", .ref A.x), (Str.ofString "f", .int f tf), (Str.ofString "some", .ref a)] [(Str.ofString "some", .ref a), (Str.ofString "f", .int f tf), (Str.ofString "self", .ref A.x)] ?ho ?hcd ?hb ?hl ?c1 ?c2 ?c3 ?c4 ?c5 ?_
  walk_at "m_ent"
  refine pickC ?_
  intro ok
  have hO := hA.o
  have hF' := hF
  refine e7_7 hF' ?_
  try clear hF'
  intro vn nn ys va na vr nr hn hnI hnl hfa hfaI hfr hfrI
  have hlt := (List.getElem?_eq_some_iff.mp hsig).1
  obtain ⟨b, hvb, hb⟩ := hfaI.2 f.toNat [s] (by rw [List.getElem?_map, hsig]; rfl)
  refine e1_2 hb ?_
  try clear hb
  intro vb hbo hbI
  refine e2_2 hbI.cons_inv ?_
  intro tb vb' hy2_ hbI'
  subst hy2_
  have := hbI'.nil_inv; subst this
  obtain ⟨tr, hvr⟩ := hfrI.get f.toNat res (by rw [List.getElem?_map, hsig]; rfl)
  obtain ⟨y, hy⟩ : ∃ y, ys[f.toNat]? = some y := ⟨_, List.getElem?_eq_getElem (by first | exact Nat.le_refl _ | exact leK rfl | omega)⟩
  refine e1_1 (strs_get hnI _ _ hy) ?_
  intro ty hvy
  walk_at "m"
  refine SP_itemL hfa (LO.lst _ _) h0 (by first | exact Nat.le_refl _ | exact leK rfl | omega) hvb ?_ (by walk_at "m_rfl")
  walk_at "m"
  refine SP_lenT ha (by simp) fun t1 => ?_
  walk_at "m"
  refine SP_lenT hbo (by simp) fun t2 => ?_
  walk_at "m"
  refine Br.of_ff (by simp) ?_
  walk_at "m"
  refine SP_ForZip1 (a := a) (b := b) (x := .int x tx) (y := .int s tb) ok [(Str.ofString "some", .ref a), (Str.ofString "f", .int f tf), (Str.ofString "self", .ref A.x)] (by walk_at "m_rfl") (by walk_at "m_rfl") (fun _ => rfl) ha hbo ?_ ?_ ?_
  · walk_at "m"
    refine SP_callZip ok ha hbo fun z TI TO i1 i2 N' zo zi kp => ?_
    exact ⟨z, TI, TO, i1, i2, rfl, rfl, zo, zi, kp⟩
  · intro N2 hK
    have hA2 := hA.le hK
    have hO2 := hA2.o
    have hn2 := hK _ _ hn (by first | exact nm0 | simp)
    walk_at "m"
    refine SP_itemL hn2 (LO.lst _ _) h0 (by first | exact Nat.le_refl _ | exact leK rfl | omega) hvy ?_ (by walk_at "m_rfl")
    walk_at "m"
    refine SP_use ok (want_spec (r + 0) hA2 ht hz) (by first | exact Nat.le_refl _ | exact leK rfl | omega) (fun v N' hz_ => ?_)
    refine e0_2 hz_ ?_
    try clear hz_
    intro e e'
    subst e e'
    refine ⟨trivial, ?_⟩
    walk_at "m"
    exact ⟨rfl, by walk_at "m_has", rfl⟩
  · intro l' hl'
    refine Nx.next (SP.has hl' ?_)
    walk_at "m"
    refine SP_tupleT ha ?_
    walk_at "m"
    refine SP_itemL hfr (LO.lst _ _) h0 (by first | exact Nat.le_refl _ | exact leK rfl | omega) hvr ?_ (by walk_at "m_rfl")
    walk_at "m"
    refine SP_use ok (make_spec (k := ⟨sApp, [x], res, f⟩) r hA ⟨_, ha, .cons _ _ .nil⟩ okApp hz) (by first | exact Nat.le_refl _ | exact leK rfl | omega) (fun v N' hz_ => ?_)
    refine e1_3 hz_ ?_
    try clear hz_
    intro t' e hB' hK'
    walk_at "m"
    rw [due_mk (by decide) (by decide) (by decide)]
    exact ⟨t', e, hB', hK'⟩
end app_spec_c
theorem app_spec {w : World} {N : Hl} {A : BnkA} {rows : Rws} {sigs : List (List Int × Int)} {a : Addr} {f x s res : Int} {tf tx : Tok} (r : Nat) (hA : BankIn w N A rows) (hF : FunsIn N A sigs) (h0 : 0 ≤ f) (hsig : sigs[f.toNat]? = some ([s], res)) (ha : N a = some (tupObj [.int x tx])) (ht : Typed rows s x) (hz : rows.length < 1000) (hzs : sigs.length < 1000) :
    Calls w 363 [.ref A.x, .int f tf, .ref a] N (r + 2) (fun v N' => ∃ t', v = .int (due rows sApp [x] res f).1 t' ∧ BankIn w N' A (due rows sApp [x] res f).2 ∧ Keep A.mut N N') :=
  pickAll (P := fun q : World × Hl × BnkA × Rws × List (List Int × Int) × Addr × Int × Int × Int × Int × Tok × Tok × Nat => app_spec_c.P q.1 q.2.1 q.2.2.1 q.2.2.2.1 q.2.2.2.2.1 q.2.2.2.2.2.1 q.2.2.2.2.2.2.1 q.2.2.2.2.2.2.2.1 q.2.2.2.2.2.2.2.2.1 q.2.2.2.2.2.2.2.2.2.1 q.2.2.2.2.2.2.2.2.2.2.1 q.2.2.2.2.2.2.2.2.2.2.2.1 q.2.2.2.2.2.2.2.2.2.2.2.2) (aWorld 0, fun _ => none, ⟨0, 0, [], 0, 0, 0, 0, 0, 0, 0, 0, 0, 0, 0⟩, [], [], 0, 0, 0, 0, 0, 0, 0, 0) (by with_unfolding_all exact app_spec_c.core) (w, N, A, rows, sigs, a, f, x, s, res, tf, tx, r) hA hF h0 hsig ha ht hz hzs
end
/-! part Fn8 -/
section
set_option linter.unusedVariables false
namespace folded_spec_c
def P (w : World) (N : Hl) (A : BnkA) (rows : Rws) (a : Addr) (t : Int) (tt : Tok) (k : Sh) (r : Nat) : Prop := ∀ (late : List Int) (hA : BankIn w N A rows) (h1 : 1 ≤ t) (hk : rowOf rows t = some k) (hko : OpOk k) (ha : TupI N a late) (hz : rows.length < 1000) (hn : NotOk rows) (heq : k.op = sEq → ∃ x y s, late = [x, y] ∧ Typed rows s x ∧ Typed rows s y) (hnot : k.op = sNot → ∃ x, late = [x] ∧ Typed rows 0 x) (hao : k.op ≠ sAnd ∧ k.op ≠ sOr), Calls w 370 [.ref A.x, .int t tt, .ref a] N (r + 4) (fun v N' => ∃ t', v = .int (if late = k.args then t else (due rows k.op late k.kind k.data).1) t' ∧ BankIn w N' A (if late = k.args then rows else (due rows k.op late k.kind k.data).2) ∧ Keep A.mut N N')
noncomputable def V : World × Hl × BnkA × Rws × Addr × Int × Tok × Sh × Nat := pick (aWorld 0, fun _ => none, ⟨0, 0, [], 0, 0, 0, 0, 0, 0, 0, 0, 0, 0, 0⟩, [], 0, 0, 0, ⟨Str.empty, [], 0, 0⟩, 0) fun q => P q.1 q.2.1 q.2.2.1 q.2.2.2.1 q.2.2.2.2.1 q.2.2.2.2.2.1 q.2.2.2.2.2.2.1 q.2.2.2.2.2.2.2.1 q.2.2.2.2.2.2.2.2
@[irreducible] noncomputable def w : World := V.1
@[irreducible] noncomputable def N : Hl := V.2.1
@[irreducible] noncomputable def A : BnkA := V.2.2.1
@[irreducible] noncomputable def rows : Rws := V.2.2.2.1
@[irreducible] noncomputable def a : Addr := V.2.2.2.2.1
@[irreducible] noncomputable def t : Int := V.2.2.2.2.2.1
@[irreducible] noncomputable def tt : Tok := V.2.2.2.2.2.2.1
@[irreducible] noncomputable def k : Sh := V.2.2.2.2.2.2.2.1
@[irreducible] noncomputable def r : Nat := V.2.2.2.2.2.2.2.2
theorem core : P w N A rows a t tt k r := by
  unfold P
  intro late hA h1 hk hko ha hz hn heq hnot hao
  refine' enter [(Str.ofString "self", .ref A.x), (Str.ofString "t", .int t tt), (Str.ofString "args", .ref a)] [(Str.ofString "args", .ref a), (Str.ofString "t", .int t tt), (Str.ofString "self", .ref A.x)] ?ho ?hcd ?hb ?hl ?c1 ?c2 ?c3 ?c4 ?c5 ?_
  walk_at "m_ent"
  intro C ok
  have hO := hA.o
  have hlt := row_lt hk
  refine e3_3 (hA.argAt h1 hk) ?_
  intro va na b hav hvb hb
  refine e3_2 (hA.opAt h1 hk) ?_
  intro vo no to hov hvo
  refine e3_2 (hA.sortAt h1 hk) ?_
  intro vs ns ts hsv hvs
  refine e3_2 (hA.dataAt h1 hk) ?_
  intro vd nd td hdv hvd
  walk_at "m"
  refine SP_itemL hav (LO.lst _ _) (by first | exact Nat.le_refl _ | exact leK rfl | omega) (by first | exact Nat.le_refl _ | exact leK rfl | omega) hvb ?_ (by walk_at "m_rfl")
  refine SP_eqT ok ha hb ?_
  walk_at "m"
  refine Br.dec (fun he => ?_) (fun he => ?_)
  · walk_at "m"
    simp only [if_pos he]
    exact ⟨_, rfl, hA, Keep.refl _ _⟩
  · simp only [if_neg he]
    walk_at "m"
    refine SP_itemL hov (LO.lst _ _) (by first | exact Nat.le_refl _ | exact leK rfl | omega) (by first | exact Nat.le_refl _ | exact leK rfl | omega) hvo ?_ (by walk_at "m_rfl")
    walk_at "m"
    by_cases q1 : k.op = sEq
    · refine Br.of_tt (by first | exact nm1 q1 | exact nm1 (Ne.symm q1) | simpa using q1) ?_
      refine e3_3 (heq q1) ?_
      intro x y s hy3_ hx hy
      subst hy3_
      refine e1_2 ha ?_
      try clear ha
      intro vs2 hvs2 hI
      refine e2_2 hI.cons_inv ?_
      intro tx vs3 hy2_ hI3
      subst hy2_
      refine e2_2 hI3.cons_inv ?_
      intro ty vs4 hy2_ hI4
      subst hy2_
      walk_at "m"
      refine SP_itemT hvs2 (by decide) (by decide) rfl ?_ (by walk_at "m_rfl")
      walk_at "m"
      refine SP_itemT hvs2 (by decide) (by decide) rfl ?_ (by walk_at "m_rfl")
      walk_at "m"
      refine SP_use ok (eq_spec r hA hx hy hz) (by first | exact Nat.le_refl _ | exact leK rfl | omega) (fun v N' hz_ => ?_)
      refine e1_3 hz_ ?_
      try clear hz_
      intro t' e hB' hK'
      walk_at "m"
      unfold due
      rw [if_neg (by rw [q1]; decide), if_neg (by simp), if_pos q1]
      exact ⟨t', e, hB', hK'⟩
    · refine Br.of_ff (by first | exact nm1 q1 | exact nm1 (Ne.symm q1) | simpa using q1) ?_
      walk_at "m"
      refine SP_itemL hov (LO.lst _ _) (by first | exact Nat.le_refl _ | exact leK rfl | omega) (by first | exact Nat.le_refl _ | exact leK rfl | omega) hvo ?_ (by walk_at "m_rfl")
      walk_at "m"
      by_cases q2 : k.op = sNot
      · refine Br.of_tt (by first | exact nm1 q2 | exact nm1 (Ne.symm q2) | simpa using q2) ?_
        refine e1_2 (hnot q2) ?_
        intro x hy1_ hx
        subst hy1_
        refine e1_2 ha ?_
        try clear ha
        intro vs2 hvs2 hI
        refine e2_2 hI.cons_inv ?_
        intro tx vs3 hy2_ hI3
        subst hy2_
        walk_at "m"
        refine SP_itemT hvs2 (by decide) (by decide) rfl ?_ (by walk_at "m_rfl")
        walk_at "m"
        refine SP_use ok (not_of_spec r hA hx hz hn) (by first | exact Nat.le_refl _ | exact leK rfl | omega) (fun v N' hz_ => ?_)
        refine e1_3 hz_ ?_
        try clear hz_
        intro t' e hB' hK'
        walk_at "m"
        unfold due
        rw [if_pos q2]
        exact ⟨t', e, hB', hK'⟩
      · refine Br.of_ff (by first | exact nm1 q2 | exact nm1 (Ne.symm q2) | simpa using q2) ?_
        walk_at "m"
        refine SP_itemL hov (LO.lst _ _) (by first | exact Nat.le_refl _ | exact leK rfl | omega) (by first | exact Nat.le_refl _ | exact leK rfl | omega) hvo ?_ (by walk_at "m_rfl")
        walk_at "m"
        refine SP_itemL hsv (LO.lst _ _) (by first | exact Nat.le_refl _ | exact leK rfl | omega) (by first | exact Nat.le_refl _ | exact leK rfl | omega) hvs ?_ (by walk_at "m_rfl")
        walk_at "m"
        refine SP_itemL hdv (LO.lst _ _) (by first | exact Nat.le_refl _ | exact leK rfl | omega) (by first | exact Nat.le_refl _ | exact leK rfl | omega) hvd ?_ (by walk_at "m_rfl")
        walk_at "m"
        refine SP_use ok (make_spec (k := ⟨k.op, late, k.kind, k.data⟩) r hA ha hko hz) (by first | exact Nat.le_refl _ | exact leK rfl | omega) (fun v N' hz_ => ?_)
        refine e1_3 hz_ ?_
        try clear hz_
        intro t' e hB' hK'
        walk_at "m"
        rw [due_mk q2 (by rintro (h | h); exact hao.1 h; exact hao.2 h) q1]
        exact ⟨t', e, hB', hK'⟩
end folded_spec_c
theorem folded_spec {w : World} {N : Hl} {A : BnkA} {rows : Rws} {a : Addr} {t : Int} {tt : Tok} {k : Sh} {late : List Int} (r : Nat) (hA : BankIn w N A rows) (h1 : 1 ≤ t) (hk : rowOf rows t = some k) (hko : OpOk k) (ha : TupI N a late) (hz : rows.length < 1000) (hn : NotOk rows)
    (heq : k.op = sEq → ∃ x y s, late = [x, y] ∧ Typed rows s x ∧ Typed rows s y) (hnot : k.op = sNot → ∃ x, late = [x] ∧ Typed rows 0 x) (hao : k.op ≠ sAnd ∧ k.op ≠ sOr) :
    Calls w 370 [.ref A.x, .int t tt, .ref a] N (r + 4) (fun v N' => ∃ t', v = .int (if late = k.args then t else (due rows k.op late k.kind k.data).1) t' ∧ BankIn w N' A (if late = k.args then rows else (due rows k.op late k.kind k.data).2) ∧ Keep A.mut N N') :=
  pickAll (P := fun q : World × Hl × BnkA × Rws × Addr × Int × Tok × Sh × Nat => folded_spec_c.P q.1 q.2.1 q.2.2.1 q.2.2.2.1 q.2.2.2.2.1 q.2.2.2.2.2.1 q.2.2.2.2.2.2.1 q.2.2.2.2.2.2.2.1 q.2.2.2.2.2.2.2.2) (aWorld 0, fun _ => none, ⟨0, 0, [], 0, 0, 0, 0, 0, 0, 0, 0, 0, 0, 0⟩, [], 0, 0, 0, ⟨Str.empty, [], 0, 0⟩, 0) (by with_unfolding_all exact folded_spec_c.core) (w, N, A, rows, a, t, tt, k, r) late hA h1 hk hko ha hz hn heq hnot hao
end
/-! part Fn9 -/
section
set_option linter.unusedVariables false
/-- what is drawn for one making -/
inductive DrawOk (rows : Rws) : Str → List Int → Int → Int → Prop
  | not {x : Int} : Typed rows 0 x → DrawOk rows sNot [x] 0 0
  | and {ends : List Int} : (∀ t ∈ ends, Typed rows 0 t) → ends.length ≤ 3 → DrawOk rows sAnd ends 0 0
  | or {ends : List Int} : (∀ t ∈ ends, Typed rows 0 t) → ends.length ≤ 3 → DrawOk rows sOr ends 0 0
  | xor {a b : Int} : Typed rows 0 a → Typed rows 0 b → DrawOk rows sXor [a, b] 0 0
  | imp {a b : Int} : Typed rows 0 a → Typed rows 0 b → DrawOk rows sImp [a, b] 0 0
  | eq {a b s : Int} : Typed rows s a → Typed rows s b → DrawOk rows sEq [a, b] 0 0
  | dis {a b c : Int} : Typed rows 3 a → Typed rows 3 b → Typed rows 3 c → DrawOk rows sDis [a, b, c] 0 0
  | ite {c a b s : Int} : Typed rows 0 c → Typed rows s a → Typed rows s b → (s = 0 ∨ s = 3) → DrawOk rows sIte [c, a, b] s 0
  | app0 {x : Int} : Typed rows 3 x → DrawOk rows sApp [x] 3 0
  | app1 {x : Int} : Typed rows 3 x → DrawOk rows sApp [x] 0 1
def SigsOk (sigs : List (List Int × Int)) : Prop := sigs[0]? = some ([3], 3) ∧ sigs[1]? = some ([3], 0) ∧ sigs.length < 1000

theorem made_not {w : World} {N : Hl} {A : BnkA} {rows : Rws} {sigs : List (List Int × Int)} {x : Int} {en : Addr} {oe : Obj} {ve : List Value} {t1 t2 : Tok} (r : Nat) (hA : BankIn w N A rows) (hF : FunsIn N A sigs) (hsig : SigsOk sigs) (hz : rows.length < 1000) (hn : NotOk rows)
    (hen : N en = some oe) (le : LO oe ve) (hi : IntsAre ve [x]) (h1 : Typed rows 0 x) :
    Calls w 431 [.ref A.x, .str sNot t1, .ref en, .int 0 t2] N (r + 6) (fun v N' => ∃ t', v = .int (due rows sNot [x] 0 0).1 t' ∧ BankIn w N' A (due rows sNot [x] 0 0).2 ∧ Keep A.mut N N') := by
  refine' enter [(Str.ofString "bank_now", .ref A.x), (Str.ofString "name", .str sNot t1), (Str.ofString "ends", .ref en), (Str.ofString "label", .int 0 t2)] [(Str.ofString "label", .int 0 t2), (Str.ofString "ends", .ref en), (Str.ofString "name", .str sNot t1), (Str.ofString "bank_now", .ref A.x)] ?ho ?hcd ?hb ?hl ?c1 ?c2 ?c3 ?c4 ?c5 ?_
  walk_at "m_ent"
  intro C ok
  have hO := hA.o
  refine e2_2 hi.cons_inv ?_
  intro u1 vs1 hy2_ hi1
  subst hy2_
  walk_at "m"
  refine Br.of_tt (by decide) ?_
  walk_at "m"
  refine SP_itemL hen le (by decide) (by decide) rfl ?_ (by walk_at "m_rfl")
  walk_at "m"
  refine SP_use ok (not_of_spec r hA h1 hz hn) (by first | exact Nat.le_refl _ | exact leK rfl | omega) (fun v N' hz_ => ?_)
  refine e1_3 hz_ ?_
  try clear hz_
  intro t' e hB' hK'
  walk_at "m"
  unfold due
  rw [if_pos rfl]
  exact ⟨t', e, hB', hK'⟩

namespace made_and_c
def P (w : World) (N : Hl) (A : BnkA) (rows : Rws) (sigs : List (List Int × Int)) (ends : List Int) (en : Addr) (ve : List Value) (t1 : Tok) (t2 : Tok) (r : Nat) : Prop := ∀ (oe : Obj) (hA : BankIn w N A rows) (hF : FunsIn N A sigs) (hsig : SigsOk sigs) (hz : rows.length < 1000) (hn : NotOk rows) (hen : N en = some oe) (le : LO oe ve) (hi : IntsAre ve ends) (h1 : ∀ t ∈ ends, Typed rows 0 t) (h2 : ends.length ≤ 3), Calls w 431 [.ref A.x, .str sAnd t1, .ref en, .int 0 t2] N (r + 6) (fun v N' => ∃ t', v = .int (due rows sAnd ends 0 0).1 t' ∧ BankIn w N' A (due rows sAnd ends 0 0).2 ∧ Keep A.mut N N')
noncomputable def V : World × Hl × BnkA × Rws × List (List Int × Int) × List Int × Addr × List Value × Tok × Tok × Nat := pick (aWorld 0, fun _ => none, ⟨0, 0, [], 0, 0, 0, 0, 0, 0, 0, 0, 0, 0, 0⟩, [], [], [], 0, [], 0, 0, 0) fun q => P q.1 q.2.1 q.2.2.1 q.2.2.2.1 q.2.2.2.2.1 q.2.2.2.2.2.1 q.2.2.2.2.2.2.1 q.2.2.2.2.2.2.2.1 q.2.2.2.2.2.2.2.2.1 q.2.2.2.2.2.2.2.2.2.1 q.2.2.2.2.2.2.2.2.2.2
@[irreducible] noncomputable def w : World := V.1
@[irreducible] noncomputable def N : Hl := V.2.1
@[irreducible] noncomputable def A : BnkA := V.2.2.1
@[irreducible] noncomputable def rows : Rws := V.2.2.2.1
@[irreducible] noncomputable def sigs : List (List Int × Int) := V.2.2.2.2.1
@[irreducible] noncomputable def ends : List Int := V.2.2.2.2.2.1
@[irreducible] noncomputable def en : Addr := V.2.2.2.2.2.2.1
@[irreducible] noncomputable def ve : List Value := V.2.2.2.2.2.2.2.1
@[irreducible] noncomputable def t1 : Tok := V.2.2.2.2.2.2.2.2.1
@[irreducible] noncomputable def t2 : Tok := V.2.2.2.2.2.2.2.2.2.1
@[irreducible] noncomputable def r : Nat := V.2.2.2.2.2.2.2.2.2.2
theorem core : P w N A rows sigs ends en ve t1 t2 r := by
  unfold P
  intro oe hA hF hsig hz hn hen le hi h1 h2
  refine' enter [(Str.ofString "bank_now", .ref A.x), (Str.ofString "name", .str sAnd t1), (Str.ofString "ends", .ref en), (Str.ofString "label", .int 0 t2)] [(Str.ofString "label", .int 0 t2), (Str.ofString "ends", .ref en), (Str.ofString "name", .str sAnd t1), (Str.ofString "bank_now", .ref A.x)] ?ho ?hcd ?hb ?hl ?c1 ?c2 ?c3 ?c4 ?c5 ?_
  walk_at "m_ent"
  refine pickC ?_
  intro ok
  have hO := hA.o
  walk_at "m"
  refine Br.of_ff (by decide) ?_
  walk_at "m"
  refine Br.of_tt (by decide) ?_
  walk_at "m"
  refine Br.tt ?_
  walk_at "m"
  refine Br.of_tt (by decide) ?_
  walk_at "m"
  have hlen := hi.length
  refine SP_listL hen le (sz (by first | exact Nat.le_refl _ | exact leK rfl | omega)) fun q n hq => ?_
  have hA1 := hA.new (o := lst ve n) hq
  have hO1 := hA1.o
  have hK1 : Keep A.mut N (upd N q (lst ve n)) := Keep.new hq
  have hq1 : upd N q (lst ve n) q = some (lst ve n) := upd_self ..
  generalize upd N q (lst ve n) = N1 at hA1 hK1 hq1 hO1 ⊢
  walk_at "m"
  refine SP_use ok (and_of_spec r hA1 hq1 hi h1 hz (by first | exact Nat.le_refl _ | exact leK rfl | omega)) (by first | exact Nat.le_refl _ | exact leK rfl | omega) (fun v N' hz_ => ?_)
  refine e1_3 hz_ ?_
  try clear hz_
  intro t' e hB' hK'
  walk_at "m"
  exact ⟨t', e, hB', hK1.trans hK'⟩
end made_and_c
theorem made_and {w : World} {N : Hl} {A : BnkA} {rows : Rws} {sigs : List (List Int × Int)} {ends : List Int} {en : Addr} {oe : Obj} {ve : List Value} {t1 t2 : Tok} (r : Nat) (hA : BankIn w N A rows) (hF : FunsIn N A sigs) (hsig : SigsOk sigs) (hz : rows.length < 1000) (hn : NotOk rows)
    (hen : N en = some oe) (le : LO oe ve) (hi : IntsAre ve ends) (h1 : ∀ t ∈ ends, Typed rows 0 t) (h2 : ends.length ≤ 3) :
    Calls w 431 [.ref A.x, .str sAnd t1, .ref en, .int 0 t2] N (r + 6) (fun v N' => ∃ t', v = .int (due rows sAnd ends 0 0).1 t' ∧ BankIn w N' A (due rows sAnd ends 0 0).2 ∧ Keep A.mut N N') :=
  pickAll (P := fun q : World × Hl × BnkA × Rws × List (List Int × Int) × List Int × Addr × List Value × Tok × Tok × Nat => made_and_c.P q.1 q.2.1 q.2.2.1 q.2.2.2.1 q.2.2.2.2.1 q.2.2.2.2.2.1 q.2.2.2.2.2.2.1 q.2.2.2.2.2.2.2.1 q.2.2.2.2.2.2.2.2.1 q.2.2.2.2.2.2.2.2.2.1 q.2.2.2.2.2.2.2.2.2.2) (aWorld 0, fun _ => none, ⟨0, 0, [], 0, 0, 0, 0, 0, 0, 0, 0, 0, 0, 0⟩, [], [], [], 0, [], 0, 0, 0) (by with_unfolding_all exact made_and_c.core) (w, N, A, rows, sigs, ends, en, ve, t1, t2, r) oe hA hF hsig hz hn hen le hi h1 h2
namespace made_or_c
def P (w : World) (N : Hl) (A : BnkA) (rows : Rws) (sigs : List (List Int × Int)) (ends : List Int) (en : Addr) (ve : List Value) (t1 : Tok) (t2 : Tok) (r : Nat) : Prop := ∀ (oe : Obj) (hA : BankIn w N A rows) (hF : FunsIn N A sigs) (hsig : SigsOk sigs) (hz : rows.length < 1000) (hn : NotOk rows) (hen : N en = some oe) (le : LO oe ve) (hi : IntsAre ve ends) (h1 : ∀ t ∈ ends, Typed rows 0 t) (h2 : ends.length ≤ 3), Calls w 431 [.ref A.x, .str sOr t1, .ref en, .int 0 t2] N (r + 6) (fun v N' => ∃ t', v = .int (due rows sOr ends 0 0).1 t' ∧ BankIn w N' A (due rows sOr ends 0 0).2 ∧ Keep A.mut N N')
noncomputable def V : World × Hl × BnkA × Rws × List (List Int × Int) × List Int × Addr × List Value × Tok × Tok × Nat := pick (aWorld 0, fun _ => none, ⟨0, 0, [], 0, 0, 0, 0, 0, 0, 0, 0, 0, 0, 0⟩, [], [], [], 0, [], 0, 0, 0) fun q => P q.1 q.2.1 q.2.2.1 q.2.2.2.1 q.2.2.2.2.1 q.2.2.2.2.2.1 q.2.2.2.2.2.2.1 q.2.2.2.2.2.2.2.1 q.2.2.2.2.2.2.2.2.1 q.2.2.2.2.2.2.2.2.2.1 q.2.2.2.2.2.2.2.2.2.2
@[irreducible] noncomputable def w : World := V.1
@[irreducible] noncomputable def N : Hl := V.2.1
@[irreducible] noncomputable def A : BnkA := V.2.2.1
@[irreducible] noncomputable def rows : Rws := V.2.2.2.1
@[irreducible] noncomputable def sigs : List (List Int × Int) := V.2.2.2.2.1
@[irreducible] noncomputable def ends : List Int := V.2.2.2.2.2.1
@[irreducible] noncomputable def en : Addr := V.2.2.2.2.2.2.1
@[irreducible] noncomputable def ve : List Value := V.2.2.2.2.2.2.2.1
@[irreducible] noncomputable def t1 : Tok := V.2.2.2.2.2.2.2.2.1
@[irreducible] noncomputable def t2 : Tok := V.2.2.2.2.2.2.2.2.2.1
@[irreducible] noncomputable def r : Nat := V.2.2.2.2.2.2.2.2.2.2
theorem core : P w N A rows sigs ends en ve t1 t2 r := by
  unfold P
  intro oe hA hF hsig hz hn hen le hi h1 h2
  refine' enter [(Str.ofString "bank_now", .ref A.x), (Str.ofString "name", .str sOr t1), (Str.ofString "ends", .ref en), (Str.ofString "label", .int 0 t2)] [(Str.ofString "label", .int 0 t2), (Str.ofString "ends", .ref en), (Str.ofString "name", .str sOr t1), (Str.ofString "bank_now", .ref A.x)] ?ho ?hcd ?hb ?hl ?c1 ?c2 ?c3 ?c4 ?c5 ?_
  walk_at "m_ent"
  refine pickC ?_
  intro ok
  have hO := hA.o
  walk_at "m"
  refine Br.of_ff (by decide) ?_
  walk_at "m"
  refine Br.of_ff (by decide) ?_
  walk_at "m"
  refine Br.of_tt (by decide) ?_
  walk_at "m"
  refine Br.tt ?_
  walk_at "m"
  refine Br.of_ff (by decide) ?_
  walk_at "m"
  have hlen := hi.length
  refine SP_listL hen le (sz (by first | exact Nat.le_refl _ | exact leK rfl | omega)) fun q n hq => ?_
  have hA1 := hA.new (o := lst ve n) hq
  have hO1 := hA1.o
  have hK1 : Keep A.mut N (upd N q (lst ve n)) := Keep.new hq
  have hq1 : upd N q (lst ve n) q = some (lst ve n) := upd_self ..
  generalize upd N q (lst ve n) = N1 at hA1 hK1 hq1 hO1 ⊢
  walk_at "m"
  refine SP_use ok (or_of_spec r hA1 hq1 hi h1 hz (by first | exact Nat.le_refl _ | exact leK rfl | omega)) (by first | exact Nat.le_refl _ | exact leK rfl | omega) (fun v N' hz_ => ?_)
  refine e1_3 hz_ ?_
  try clear hz_
  intro t' e hB' hK'
  walk_at "m"
  exact ⟨t', e, hB', hK1.trans hK'⟩
end made_or_c
theorem made_or {w : World} {N : Hl} {A : BnkA} {rows : Rws} {sigs : List (List Int × Int)} {ends : List Int} {en : Addr} {oe : Obj} {ve : List Value} {t1 t2 : Tok} (r : Nat) (hA : BankIn w N A rows) (hF : FunsIn N A sigs) (hsig : SigsOk sigs) (hz : rows.length < 1000) (hn : NotOk rows)
    (hen : N en = some oe) (le : LO oe ve) (hi : IntsAre ve ends) (h1 : ∀ t ∈ ends, Typed rows 0 t) (h2 : ends.length ≤ 3) :
    Calls w 431 [.ref A.x, .str sOr t1, .ref en, .int 0 t2] N (r + 6) (fun v N' => ∃ t', v = .int (due rows sOr ends 0 0).1 t' ∧ BankIn w N' A (due rows sOr ends 0 0).2 ∧ Keep A.mut N N') :=
  pickAll (P := fun q : World × Hl × BnkA × Rws × List (List Int × Int) × List Int × Addr × List Value × Tok × Tok × Nat => made_or_c.P q.1 q.2.1 q.2.2.1 q.2.2.2.1 q.2.2.2.2.1 q.2.2.2.2.2.1 q.2.2.2.2.2.2.1 q.2.2.2.2.2.2.2.1 q.2.2.2.2.2.2.2.2.1 q.2.2.2.2.2.2.2.2.2.1 q.2.2.2.2.2.2.2.2.2.2) (aWorld 0, fun _ => none, ⟨0, 0, [], 0, 0, 0, 0, 0, 0, 0, 0, 0, 0, 0⟩, [], [], [], 0, [], 0, 0, 0) (by with_unfolding_all exact made_or_c.core) (w, N, A, rows, sigs, ends, en, ve, t1, t2, r) oe hA hF hsig hz hn hen le hi h1 h2
namespace made_xor_c
def P (w : World) (N : Hl) (A : BnkA) (rows : Rws) (sigs : List (List Int × Int)) (a : Int) (b : Int) (en : Addr) (t1 : Tok) (t2 : Tok) (r : Nat) : Prop := ∀ (oe : Obj) (ve : List Value) (hA : BankIn w N A rows) (hF : FunsIn N A sigs) (hsig : SigsOk sigs) (hz : rows.length < 1000) (hn : NotOk rows) (hen : N en = some oe) (le : LO oe ve) (hi : IntsAre ve [a, b]) (h1 : Typed rows 0 a) (h2 : Typed rows 0 b), Calls w 431 [.ref A.x, .str sXor t1, .ref en, .int 0 t2] N (r + 6) (fun v N' => ∃ t', v = .int (due rows sXor [a, b] 0 0).1 t' ∧ BankIn w N' A (due rows sXor [a, b] 0 0).2 ∧ Keep A.mut N N')
noncomputable def V : World × Hl × BnkA × Rws × List (List Int × Int) × Int × Int × Addr × Tok × Tok × Nat := pick (aWorld 0, fun _ => none, ⟨0, 0, [], 0, 0, 0, 0, 0, 0, 0, 0, 0, 0, 0⟩, [], [], 0, 0, 0, 0, 0, 0) fun q => P q.1 q.2.1 q.2.2.1 q.2.2.2.1 q.2.2.2.2.1 q.2.2.2.2.2.1 q.2.2.2.2.2.2.1 q.2.2.2.2.2.2.2.1 q.2.2.2.2.2.2.2.2.1 q.2.2.2.2.2.2.2.2.2.1 q.2.2.2.2.2.2.2.2.2.2
@[irreducible] noncomputable def w : World := V.1
@[irreducible] noncomputable def N : Hl := V.2.1
@[irreducible] noncomputable def A : BnkA := V.2.2.1
@[irreducible] noncomputable def rows : Rws := V.2.2.2.1
@[irreducible] noncomputable def sigs : List (List Int × Int) := V.2.2.2.2.1
@[irreducible] noncomputable def a : Int := V.2.2.2.2.2.1
@[irreducible] noncomputable def b : Int := V.2.2.2.2.2.2.1
@[irreducible] noncomputable def en : Addr := V.2.2.2.2.2.2.2.1
@[irreducible] noncomputable def t1 : Tok := V.2.2.2.2.2.2.2.2.1
@[irreducible] noncomputable def t2 : Tok := V.2.2.2.2.2.2.2.2.2.1
@[irreducible] noncomputable def r : Nat := V.2.2.2.2.2.2.2.2.2.2
theorem core : P w N A rows sigs a b en t1 t2 r := by
  unfold P
  intro oe ve hA hF hsig hz hn hen le hi h1 h2
  refine' enter [(Str.ofString "bank_now", .ref A.x), (Str.ofString "name", .str sXor t1), (Str.ofString "ends", .ref en), (Str.ofString "label", .int 0 t2)] [(Str.ofString "label", .int 0 t2), (Str.ofString "ends", .ref en), (Str.ofString "name", .str sXor t1), (Str.ofString "bank_now", .ref A.x)] ?ho ?hcd ?hb ?hl ?c1 ?c2 ?c3 ?c4 ?c5 ?_
  walk_at "m_ent"
  refine pickC ?_
  intro ok
  have hO := hA.o
  refine e2_2 hi.cons_inv ?_
  intro u1 vs1 hy2_ hi1
  subst hy2_
  refine e2_2 hi1.cons_inv ?_
  intro u2 vs2 hy2_ hi2
  subst hy2_
  walk_at "m"
  refine Br.of_ff (by decide) ?_
  walk_at "m"
  refine Br.of_ff (by decide) ?_
  walk_at "m"
  refine Br.of_ff (by decide) ?_
  walk_at "m"
  refine Br.ff ?_
  walk_at "m"
  refine Br.of_tt (by decide) ?_
  walk_at "m"
  refine SP_itemL hen le (by decide) (by decide) rfl ?_ (by walk_at "m_rfl")
  walk_at "m"
  refine SP_itemL hen le (by decide) (by decide) rfl ?_ (by walk_at "m_rfl")
  walk_at "m"
  refine SP_use ok (xor_of_spec r hA h1 h2 hz) (by first | exact Nat.le_refl _ | exact leK rfl | omega) (fun v N' hz_ => ?_)
  refine e1_3 hz_ ?_
  try clear hz_
  intro t' e hB' hK'
  walk_at "m"
  exact ⟨t', e, hB', hK'⟩
end made_xor_c
theorem made_xor {w : World} {N : Hl} {A : BnkA} {rows : Rws} {sigs : List (List Int × Int)} {a b : Int} {en : Addr} {oe : Obj} {ve : List Value} {t1 t2 : Tok} (r : Nat) (hA : BankIn w N A rows) (hF : FunsIn N A sigs) (hsig : SigsOk sigs) (hz : rows.length < 1000) (hn : NotOk rows)
    (hen : N en = some oe) (le : LO oe ve) (hi : IntsAre ve [a, b]) (h1 : Typed rows 0 a) (h2 : Typed rows 0 b) :
    Calls w 431 [.ref A.x, .str sXor t1, .ref en, .int 0 t2] N (r + 6) (fun v N' => ∃ t', v = .int (due rows sXor [a, b] 0 0).1 t' ∧ BankIn w N' A (due rows sXor [a, b] 0 0).2 ∧ Keep A.mut N N') :=
  pickAll (P := fun q : World × Hl × BnkA × Rws × List (List Int × Int) × Int × Int × Addr × Tok × Tok × Nat => made_xor_c.P q.1 q.2.1 q.2.2.1 q.2.2.2.1 q.2.2.2.2.1 q.2.2.2.2.2.1 q.2.2.2.2.2.2.1 q.2.2.2.2.2.2.2.1 q.2.2.2.2.2.2.2.2.1 q.2.2.2.2.2.2.2.2.2.1 q.2.2.2.2.2.2.2.2.2.2) (aWorld 0, fun _ => none, ⟨0, 0, [], 0, 0, 0, 0, 0, 0, 0, 0, 0, 0, 0⟩, [], [], 0, 0, 0, 0, 0, 0) (by with_unfolding_all exact made_xor_c.core) (w, N, A, rows, sigs, a, b, en, t1, t2, r) oe ve hA hF hsig hz hn hen le hi h1 h2
namespace made_imp_c
def P (w : World) (N : Hl) (A : BnkA) (rows : Rws) (sigs : List (List Int × Int)) (a : Int) (b : Int) (en : Addr) (t1 : Tok) (t2 : Tok) (r : Nat) : Prop := ∀ (oe : Obj) (ve : List Value) (hA : BankIn w N A rows) (hF : FunsIn N A sigs) (hsig : SigsOk sigs) (hz : rows.length < 1000) (hn : NotOk rows) (hen : N en = some oe) (le : LO oe ve) (hi : IntsAre ve [a, b]) (h1 : Typed rows 0 a) (h2 : Typed rows 0 b), Calls w 431 [.ref A.x, .str sImp t1, .ref en, .int 0 t2] N (r + 6) (fun v N' => ∃ t', v = .int (due rows sImp [a, b] 0 0).1 t' ∧ BankIn w N' A (due rows sImp [a, b] 0 0).2 ∧ Keep A.mut N N')
noncomputable def V : World × Hl × BnkA × Rws × List (List Int × Int) × Int × Int × Addr × Tok × Tok × Nat := pick (aWorld 0, fun _ => none, ⟨0, 0, [], 0, 0, 0, 0, 0, 0, 0, 0, 0, 0, 0⟩, [], [], 0, 0, 0, 0, 0, 0) fun q => P q.1 q.2.1 q.2.2.1 q.2.2.2.1 q.2.2.2.2.1 q.2.2.2.2.2.1 q.2.2.2.2.2.2.1 q.2.2.2.2.2.2.2.1 q.2.2.2.2.2.2.2.2.1 q.2.2.2.2.2.2.2.2.2.1 q.2.2.2.2.2.2.2.2.2.2
@[irreducible] noncomputable def w : World := V.1
@[irreducible] noncomputable def N : Hl := V.2.1
@[irreducible] noncomputable def A : BnkA := V.2.2.1
@[irreducible] noncomputable def rows : Rws := V.2.2.2.1
@[irreducible] noncomputable def sigs : List (List Int × Int) := V.2.2.2.2.1
@[irreducible] noncomputable def a : Int := V.2.2.2.2.2.1
@[irreducible] noncomputable def b : Int := V.2.2.2.2.2.2.1
@[irreducible] noncomputable def en : Addr := V.2.2.2.2.2.2.2.1
@[irreducible] noncomputable def t1 : Tok := V.2.2.2.2.2.2.2.2.1
@[irreducible] noncomputable def t2 : Tok := V.2.2.2.2.2.2.2.2.2.1
@[irreducible] noncomputable def r : Nat := V.2.2.2.2.2.2.2.2.2.2
theorem core : P w N A rows sigs a b en t1 t2 r := by
  unfold P
  intro oe ve hA hF hsig hz hn hen le hi h1 h2
  refine' enter [(Str.ofString "bank_now", .ref A.x), (Str.ofString "name", .str sImp t1), (Str.ofString "ends", .ref en), (Str.ofString "label", .int 0 t2)] [(Str.ofString "label", .int 0 t2), (Str.ofString "ends", .ref en), (Str.ofString "name", .str sImp t1), (Str.ofString "bank_now", .ref A.x)] ?ho ?hcd ?hb ?hl ?c1 ?c2 ?c3 ?c4 ?c5 ?_
  walk_at "m_ent"
  refine pickC ?_
  intro ok
  have hO := hA.o
  refine e2_2 hi.cons_inv ?_
  intro u1 vs1 hy2_ hi1
  subst hy2_
  refine e2_2 hi1.cons_inv ?_
  intro u2 vs2 hy2_ hi2
  subst hy2_
  walk_at "m"
  refine Br.of_ff (by decide) ?_
  walk_at "m"
  refine Br.of_ff (by decide) ?_
  walk_at "m"
  refine Br.of_ff (by decide) ?_
  walk_at "m"
  refine Br.ff ?_
  walk_at "m"
  refine Br.of_ff (by decide) ?_
  walk_at "m"
  refine Br.of_tt (by decide) ?_
  walk_at "m"
  refine SP_itemL hen le (by decide) (by decide) rfl ?_ (by walk_at "m_rfl")
  walk_at "m"
  refine SP_itemL hen le (by decide) (by decide) rfl ?_ (by walk_at "m_rfl")
  walk_at "m"
  refine SP_use ok (implies_of_spec r hA h1 h2 hz) (by first | exact Nat.le_refl _ | exact leK rfl | omega) (fun v N' hz_ => ?_)
  refine e1_3 hz_ ?_
  try clear hz_
  intro t' e hB' hK'
  walk_at "m"
  exact ⟨t', e, hB', hK'⟩
end made_imp_c
theorem made_imp {w : World} {N : Hl} {A : BnkA} {rows : Rws} {sigs : List (List Int × Int)} {a b : Int} {en : Addr} {oe : Obj} {ve : List Value} {t1 t2 : Tok} (r : Nat) (hA : BankIn w N A rows) (hF : FunsIn N A sigs) (hsig : SigsOk sigs) (hz : rows.length < 1000) (hn : NotOk rows)
    (hen : N en = some oe) (le : LO oe ve) (hi : IntsAre ve [a, b]) (h1 : Typed rows 0 a) (h2 : Typed rows 0 b) :
    Calls w 431 [.ref A.x, .str sImp t1, .ref en, .int 0 t2] N (r + 6) (fun v N' => ∃ t', v = .int (due rows sImp [a, b] 0 0).1 t' ∧ BankIn w N' A (due rows sImp [a, b] 0 0).2 ∧ Keep A.mut N N') :=
  pickAll (P := fun q : World × Hl × BnkA × Rws × List (List Int × Int) × Int × Int × Addr × Tok × Tok × Nat => made_imp_c.P q.1 q.2.1 q.2.2.1 q.2.2.2.1 q.2.2.2.2.1 q.2.2.2.2.2.1 q.2.2.2.2.2.2.1 q.2.2.2.2.2.2.2.1 q.2.2.2.2.2.2.2.2.1 q.2.2.2.2.2.2.2.2.2.1 q.2.2.2.2.2.2.2.2.2.2) (aWorld 0, fun _ => none, ⟨0, 0, [], 0, 0, 0, 0, 0, 0, 0, 0, 0, 0, 0⟩, [], [], 0, 0, 0, 0, 0, 0) (by with_unfolding_all exact made_imp_c.core) (w, N, A, rows, sigs, a, b, en, t1, t2, r) oe ve hA hF hsig hz hn hen le hi h1 h2
namespace made_eq_c
def P (w : World) (N : Hl) (A : BnkA) (rows : Rws) (sigs : List (List Int × Int)) (a : Int) (b : Int) (s : Int) (en : Addr) (t1 : Tok) (t2 : Tok) (r : Nat) : Prop := ∀ (oe : Obj) (ve : List Value) (hA : BankIn w N A rows) (hF : FunsIn N A sigs) (hsig : SigsOk sigs) (hz : rows.length < 1000) (hn : NotOk rows) (hen : N en = some oe) (le : LO oe ve) (hi : IntsAre ve [a, b]) (h1 : Typed rows s a) (h2 : Typed rows s b), Calls w 431 [.ref A.x, .str sEq t1, .ref en, .int 0 t2] N (r + 6) (fun v N' => ∃ t', v = .int (due rows sEq [a, b] 0 0).1 t' ∧ BankIn w N' A (due rows sEq [a, b] 0 0).2 ∧ Keep A.mut N N')
noncomputable def V : World × Hl × BnkA × Rws × List (List Int × Int) × Int × Int × Int × Addr × Tok × Tok × Nat := pick (aWorld 0, fun _ => none, ⟨0, 0, [], 0, 0, 0, 0, 0, 0, 0, 0, 0, 0, 0⟩, [], [], 0, 0, 0, 0, 0, 0, 0) fun q => P q.1 q.2.1 q.2.2.1 q.2.2.2.1 q.2.2.2.2.1 q.2.2.2.2.2.1 q.2.2.2.2.2.2.1 q.2.2.2.2.2.2.2.1 q.2.2.2.2.2.2.2.2.1 q.2.2.2.2.2.2.2.2.2.1 q.2.2.2.2.2.2.2.2.2.2.1 q.2.2.2.2.2.2.2.2.2.2.2
@[irreducible] noncomputable def w : World := V.1
@[irreducible] noncomputable def N : Hl := V.2.1
@[irreducible] noncomputable def A : BnkA := V.2.2.1
@[irreducible] noncomputable def rows : Rws := V.2.2.2.1
@[irreducible] noncomputable def sigs : List (List Int × Int) := V.2.2.2.2.1
@[irreducible] noncomputable def a : Int := V.2.2.2.2.2.1
@[irreducible] noncomputable def b : Int := V.2.2.2.2.2.2.1
@[irreducible] noncomputable def s : Int := V.2.2.2.2.2.2.2.1
@[irreducible] noncomputable def en : Addr := V.2.2.2.2.2.2.2.2.1
@[irreducible] noncomputable def t1 : Tok := V.2.2.2.2.2.2.2.2.2.1
@[irreducible] noncomputable def t2 : Tok := V.2.2.2.2.2.2.2.2.2.2.1
@[irreducible] noncomputable def r : Nat := V.2.2.2.2.2.2.2.2.2.2.2
theorem core : P w N A rows sigs a b s en t1 t2 r := by
  unfold P
  intro oe ve hA hF hsig hz hn hen le hi h1 h2
  refine' enter [(Str.ofString "bank_now", .ref A.x), (Str.ofString "name", .str sEq t1), (Str.ofString "ends", .ref en), (Str.ofString "label", .int 0 t2)] [(Str.ofString "label", .int 0 t2), (Str.ofString "ends", .ref en), (Str.ofString "name", .str sEq t1), (Str.ofString "bank_now", .ref A.x)] ?ho ?hcd ?hb ?hl ?c1 ?c2 ?c3 ?c4 ?c5 ?_
  walk_at "m_ent"
  refine pickC ?_
  intro ok
  have hO := hA.o
  refine e2_2 hi.cons_inv ?_
  intro u1 vs1 hy2_ hi1
  subst hy2_
  refine e2_2 hi1.cons_inv ?_
  intro u2 vs2 hy2_ hi2
  subst hy2_
  walk_at "m"
  refine Br.of_ff (by decide) ?_
  walk_at "m"
  refine Br.of_ff (by decide) ?_
  walk_at "m"
  refine Br.of_ff (by decide) ?_
  walk_at "m"
  refine Br.ff ?_
  walk_at "m"
  refine Br.of_ff (by decide) ?_
  walk_at "m"
  refine Br.of_ff (by decide) ?_
  walk_at "m"
  refine Br.of_tt (by decide) ?_
  walk_at "m"
  refine SP_itemL hen le (by decide) (by decide) rfl ?_ (by walk_at "m_rfl")
  walk_at "m"
  refine SP_itemL hen le (by decide) (by decide) rfl ?_ (by walk_at "m_rfl")
  walk_at "m"
  refine SP_use ok (eq_spec r hA h1 h2 hz) (by first | exact Nat.le_refl _ | exact leK rfl | omega) (fun v N' hz_ => ?_)
  refine e1_3 hz_ ?_
  try clear hz_
  intro t' e hB' hK'
  walk_at "m"
  unfold due
  rw [if_neg (by decide), if_neg (by simp), if_pos rfl]
  exact ⟨t', e, hB', hK'⟩
end made_eq_c
theorem made_eq {w : World} {N : Hl} {A : BnkA} {rows : Rws} {sigs : List (List Int × Int)} {a b s : Int} {en : Addr} {oe : Obj} {ve : List Value} {t1 t2 : Tok} (r : Nat) (hA : BankIn w N A rows) (hF : FunsIn N A sigs) (hsig : SigsOk sigs) (hz : rows.length < 1000) (hn : NotOk rows)
    (hen : N en = some oe) (le : LO oe ve) (hi : IntsAre ve [a, b]) (h1 : Typed rows s a) (h2 : Typed rows s b) :
    Calls w 431 [.ref A.x, .str sEq t1, .ref en, .int 0 t2] N (r + 6) (fun v N' => ∃ t', v = .int (due rows sEq [a, b] 0 0).1 t' ∧ BankIn w N' A (due rows sEq [a, b] 0 0).2 ∧ Keep A.mut N N') :=
  pickAll (P := fun q : World × Hl × BnkA × Rws × List (List Int × Int) × Int × Int × Int × Addr × Tok × Tok × Nat => made_eq_c.P q.1 q.2.1 q.2.2.1 q.2.2.2.1 q.2.2.2.2.1 q.2.2.2.2.2.1 q.2.2.2.2.2.2.1 q.2.2.2.2.2.2.2.1 q.2.2.2.2.2.2.2.2.1 q.2.2.2.2.2.2.2.2.2.1 q.2.2.2.2.2.2.2.2.2.2.1 q.2.2.2.2.2.2.2.2.2.2.2) (aWorld 0, fun _ => none, ⟨0, 0, [], 0, 0, 0, 0, 0, 0, 0, 0, 0, 0, 0⟩, [], [], 0, 0, 0, 0, 0, 0, 0) (by with_unfolding_all exact made_eq_c.core) (w, N, A, rows, sigs, a, b, s, en, t1, t2, r) oe ve hA hF hsig hz hn hen le hi h1 h2
namespace made_dis_c
def P (w : World) (N : Hl) (A : BnkA) (rows : Rws) (sigs : List (List Int × Int)) (a : Int) (b : Int) (c : Int) (en : Addr) (t1 : Tok) (t2 : Tok) (r : Nat) : Prop := ∀ (oe : Obj) (ve : List Value) (hA : BankIn w N A rows) (hF : FunsIn N A sigs) (hsig : SigsOk sigs) (hz : rows.length < 1000) (hn : NotOk rows) (hen : N en = some oe) (le : LO oe ve) (hi : IntsAre ve [a, b, c]) (h1 : Typed rows 3 a) (h2 : Typed rows 3 b) (h3 : Typed rows 3 c), Calls w 431 [.ref A.x, .str sDis t1, .ref en, .int 0 t2] N (r + 6) (fun v N' => ∃ t', v = .int (due rows sDis [a, b, c] 0 0).1 t' ∧ BankIn w N' A (due rows sDis [a, b, c] 0 0).2 ∧ Keep A.mut N N')
noncomputable def V : World × Hl × BnkA × Rws × List (List Int × Int) × Int × Int × Int × Addr × Tok × Tok × Nat := pick (aWorld 0, fun _ => none, ⟨0, 0, [], 0, 0, 0, 0, 0, 0, 0, 0, 0, 0, 0⟩, [], [], 0, 0, 0, 0, 0, 0, 0) fun q => P q.1 q.2.1 q.2.2.1 q.2.2.2.1 q.2.2.2.2.1 q.2.2.2.2.2.1 q.2.2.2.2.2.2.1 q.2.2.2.2.2.2.2.1 q.2.2.2.2.2.2.2.2.1 q.2.2.2.2.2.2.2.2.2.1 q.2.2.2.2.2.2.2.2.2.2.1 q.2.2.2.2.2.2.2.2.2.2.2
@[irreducible] noncomputable def w : World := V.1
@[irreducible] noncomputable def N : Hl := V.2.1
@[irreducible] noncomputable def A : BnkA := V.2.2.1
@[irreducible] noncomputable def rows : Rws := V.2.2.2.1
@[irreducible] noncomputable def sigs : List (List Int × Int) := V.2.2.2.2.1
@[irreducible] noncomputable def a : Int := V.2.2.2.2.2.1
@[irreducible] noncomputable def b : Int := V.2.2.2.2.2.2.1
@[irreducible] noncomputable def c : Int := V.2.2.2.2.2.2.2.1
@[irreducible] noncomputable def en : Addr := V.2.2.2.2.2.2.2.2.1
@[irreducible] noncomputable def t1 : Tok := V.2.2.2.2.2.2.2.2.2.1
@[irreducible] noncomputable def t2 : Tok := V.2.2.2.2.2.2.2.2.2.2.1
@[irreducible] noncomputable def r : Nat := V.2.2.2.2.2.2.2.2.2.2.2
theorem core : P w N A rows sigs a b c en t1 t2 r := by
  unfold P
  intro oe ve hA hF hsig hz hn hen le hi h1 h2 h3
  refine' enter [(Str.ofString "bank_now", .ref A.x), (Str.ofString "name", .str sDis t1), (Str.ofString "ends", .ref en), (Str.ofString "label", .int 0 t2)] [(Str.ofString "label", .int 0 t2), (Str.ofString "ends", .ref en), (Str.ofString "name", .str sDis t1), (Str.ofString "bank_now", .ref A.x)] ?ho ?hcd ?hb ?hl ?c1 ?c2 ?c3 ?c4 ?c5 ?_
  walk_at "m_ent"
  refine pickC ?_
  intro ok
  have hO := hA.o
  refine e2_2 hi.cons_inv ?_
  intro u1 vs1 hy2_ hi1
  subst hy2_
  refine e2_2 hi1.cons_inv ?_
  intro u2 vs2 hy2_ hi2
  subst hy2_
  refine e2_2 hi2.cons_inv ?_
  intro u3 vs3 hy2_ hi3
  subst hy2_
  have := hi3.nil_inv; subst this
  walk_at "m"
  refine Br.of_ff (by decide) ?_
  walk_at "m"
  refine Br.of_ff (by decide) ?_
  walk_at "m"
  refine Br.of_ff (by decide) ?_
  walk_at "m"
  refine Br.ff ?_
  walk_at "m"
  refine Br.of_ff (by decide) ?_
  walk_at "m"
  refine Br.of_ff (by decide) ?_
  walk_at "m"
  refine Br.of_ff (by decide) ?_
  walk_at "m"
  refine Br.of_tt (by decide) ?_
  walk_at "m"
  refine SP_listL hen le (sz (by simp)) fun q n hq => ?_
  have hA1 := hA.new (o := lst [Value.int a u1, Value.int b u2, Value.int c u3] n) hq
  have hO1 := hA1.o
  have hK1 : Keep A.mut N (upd N q (lst [Value.int a u1, Value.int b u2, Value.int c u3] n)) := Keep.new hq
  have hq1 : upd N q (lst [Value.int a u1, Value.int b u2, Value.int c u3] n) q = some (lst [Value.int a u1, Value.int b u2, Value.int c u3] n) := upd_self ..
  generalize upd N q (lst [Value.int a u1, Value.int b u2, Value.int c u3] n) = N1 at hA1 hK1 hq1 hO1 ⊢
  walk_at "m"
  refine SP_use ok (distinct_spec (s := 3) r hA1 hq1 hi (by simp) (by simp only [List.mem_cons, List.not_mem_nil, or_false]; rintro t (rfl | rfl | rfl); exact h1; exact h2; exact h3) hz (by simp)) (by first | exact Nat.le_refl _ | exact leK rfl | omega) (fun v N' hz_ => ?_)
  refine e1_3 hz_ ?_
  try clear hz_
  intro t' e hB' hK'
  walk_at "m"
  exact ⟨t', e, hB', hK1.trans hK'⟩
end made_dis_c
theorem made_dis {w : World} {N : Hl} {A : BnkA} {rows : Rws} {sigs : List (List Int × Int)} {a b c : Int} {en : Addr} {oe : Obj} {ve : List Value} {t1 t2 : Tok} (r : Nat) (hA : BankIn w N A rows) (hF : FunsIn N A sigs) (hsig : SigsOk sigs) (hz : rows.length < 1000) (hn : NotOk rows)
    (hen : N en = some oe) (le : LO oe ve) (hi : IntsAre ve [a, b, c]) (h1 : Typed rows 3 a) (h2 : Typed rows 3 b) (h3 : Typed rows 3 c) :
    Calls w 431 [.ref A.x, .str sDis t1, .ref en, .int 0 t2] N (r + 6) (fun v N' => ∃ t', v = .int (due rows sDis [a, b, c] 0 0).1 t' ∧ BankIn w N' A (due rows sDis [a, b, c] 0 0).2 ∧ Keep A.mut N N') :=
  pickAll (P := fun q : World × Hl × BnkA × Rws × List (List Int × Int) × Int × Int × Int × Addr × Tok × Tok × Nat => made_dis_c.P q.1 q.2.1 q.2.2.1 q.2.2.2.1 q.2.2.2.2.1 q.2.2.2.2.2.1 q.2.2.2.2.2.2.1 q.2.2.2.2.2.2.2.1 q.2.2.2.2.2.2.2.2.1 q.2.2.2.2.2.2.2.2.2.1 q.2.2.2.2.2.2.2.2.2.2.1 q.2.2.2.2.2.2.2.2.2.2.2) (aWorld 0, fun _ => none, ⟨0, 0, [], 0, 0, 0, 0, 0, 0, 0, 0, 0, 0, 0⟩, [], [], 0, 0, 0, 0, 0, 0, 0) (by with_unfolding_all exact made_dis_c.core) (w, N, A, rows, sigs, a, b, c, en, t1, t2, r) oe ve hA hF hsig hz hn hen le hi h1 h2 h3
namespace made_ite_c
def P (w : World) (N : Hl) (A : BnkA) (rows : Rws) (sigs : List (List Int × Int)) (c : Int) (a : Int) (b : Int) (s : Int) (en : Addr) (t1 : Tok) (t2 : Tok) (r : Nat) : Prop := ∀ (oe : Obj) (ve : List Value) (hA : BankIn w N A rows) (hF : FunsIn N A sigs) (hsig : SigsOk sigs) (hz : rows.length < 1000) (hn : NotOk rows) (hen : N en = some oe) (le : LO oe ve) (hi : IntsAre ve [c, a, b]) (h1 : Typed rows 0 c) (h2 : Typed rows s a) (h3 : Typed rows s b), Calls w 431 [.ref A.x, .str sIte t1, .ref en, .int 0 t2] N (r + 6) (fun v N' => ∃ t', v = .int (due rows sIte [c, a, b] s 0).1 t' ∧ BankIn w N' A (due rows sIte [c, a, b] s 0).2 ∧ Keep A.mut N N')
noncomputable def V : World × Hl × BnkA × Rws × List (List Int × Int) × Int × Int × Int × Int × Addr × Tok × Tok × Nat := pick (aWorld 0, fun _ => none, ⟨0, 0, [], 0, 0, 0, 0, 0, 0, 0, 0, 0, 0, 0⟩, [], [], 0, 0, 0, 0, 0, 0, 0, 0) fun q => P q.1 q.2.1 q.2.2.1 q.2.2.2.1 q.2.2.2.2.1 q.2.2.2.2.2.1 q.2.2.2.2.2.2.1 q.2.2.2.2.2.2.2.1 q.2.2.2.2.2.2.2.2.1 q.2.2.2.2.2.2.2.2.2.1 q.2.2.2.2.2.2.2.2.2.2.1 q.2.2.2.2.2.2.2.2.2.2.2.1 q.2.2.2.2.2.2.2.2.2.2.2.2
@[irreducible] noncomputable def w : World := V.1
@[irreducible] noncomputable def N : Hl := V.2.1
@[irreducible] noncomputable def A : BnkA := V.2.2.1
@[irreducible] noncomputable def rows : Rws := V.2.2.2.1
@[irreducible] noncomputable def sigs : List (List Int × Int) := V.2.2.2.2.1
@[irreducible] noncomputable def c : Int := V.2.2.2.2.2.1
@[irreducible] noncomputable def a : Int := V.2.2.2.2.2.2.1
@[irreducible] noncomputable def b : Int := V.2.2.2.2.2.2.2.1
@[irreducible] noncomputable def s : Int := V.2.2.2.2.2.2.2.2.1
@[irreducible] noncomputable def en : Addr := V.2.2.2.2.2.2.2.2.2.1
@[irreducible] noncomputable def t1 : Tok := V.2.2.2.2.2.2.2.2.2.2.1
@[irreducible] noncomputable def t2 : Tok := V.2.2.2.2.2.2.2.2.2.2.2.1
@[irreducible] noncomputable def r : Nat := V.2.2.2.2.2.2.2.2.2.2.2.2
theorem core : P w N A rows sigs c a b s en t1 t2 r := by
  unfold P
  intro oe ve hA hF hsig hz hn hen le hi h1 h2 h3
  refine' enter [(Str.ofString "bank_now", .ref A.x), (Str.ofString "name", .str sIte t1), (Str.ofString "ends", .ref en), (Str.ofString "label", .int 0 t2)] [(Str.ofString "label", .int 0 t2), (Str.ofString "ends", .ref en), (Str.ofString "name", .str sIte t1), (Str.ofString "bank_now", .ref A.x)] ?ho ?hcd ?hb ?hl ?c1 ?c2 ?c3 ?c4 ?c5 ?_
  walk_at "m_ent"
  refine pickC ?_
  intro ok
  have hO := hA.o
  refine e2_2 hi.cons_inv ?_
  intro u1 vs1 hy2_ hi1
  subst hy2_
  refine e2_2 hi1.cons_inv ?_
  intro u2 vs2 hy2_ hi2
  subst hy2_
  refine e2_2 hi2.cons_inv ?_
  intro u3 vs3 hy2_ hi3
  subst hy2_
  walk_at "m"
  refine Br.of_ff (by decide) ?_
  walk_at "m"
  refine Br.of_ff (by decide) ?_
  walk_at "m"
  refine Br.of_ff (by decide) ?_
  walk_at "m"
  refine Br.ff ?_
  walk_at "m"
  refine Br.of_ff (by decide) ?_
  walk_at "m"
  refine Br.of_ff (by decide) ?_
  walk_at "m"
  refine Br.of_ff (by decide) ?_
  walk_at "m"
  refine Br.of_ff (by decide) ?_
  walk_at "m"
  refine Br.of_tt (by decide) ?_
  walk_at "m"
  refine SP_itemL hen le (by decide) (by decide) rfl ?_ (by walk_at "m_rfl")
  walk_at "m"
  refine SP_itemL hen le (by decide) (by decide) rfl ?_ (by walk_at "m_rfl")
  walk_at "m"
  refine SP_itemL hen le (by decide) (by decide) rfl ?_ (by walk_at "m_rfl")
  walk_at "m"
  refine SP_use ok (ite_spec r hA h1 h2 h3 hz) (by first | exact Nat.le_refl _ | exact leK rfl | omega) (fun v N' hz_ => ?_)
  refine e1_3 hz_ ?_
  try clear hz_
  intro t' e hB' hK'
  walk_at "m"
  exact ⟨t', e, hB', hK'⟩
end made_ite_c
theorem made_ite {w : World} {N : Hl} {A : BnkA} {rows : Rws} {sigs : List (List Int × Int)} {c a b s : Int} {en : Addr} {oe : Obj} {ve : List Value} {t1 t2 : Tok} (r : Nat) (hA : BankIn w N A rows) (hF : FunsIn N A sigs) (hsig : SigsOk sigs) (hz : rows.length < 1000) (hn : NotOk rows)
    (hen : N en = some oe) (le : LO oe ve) (hi : IntsAre ve [c, a, b]) (h1 : Typed rows 0 c) (h2 : Typed rows s a) (h3 : Typed rows s b) :
    Calls w 431 [.ref A.x, .str sIte t1, .ref en, .int 0 t2] N (r + 6) (fun v N' => ∃ t', v = .int (due rows sIte [c, a, b] s 0).1 t' ∧ BankIn w N' A (due rows sIte [c, a, b] s 0).2 ∧ Keep A.mut N N') :=
  pickAll (P := fun q : World × Hl × BnkA × Rws × List (List Int × Int) × Int × Int × Int × Int × Addr × Tok × Tok × Nat => made_ite_c.P q.1 q.2.1 q.2.2.1 q.2.2.2.1 q.2.2.2.2.1 q.2.2.2.2.2.1 q.2.2.2.2.2.2.1 q.2.2.2.2.2.2.2.1 q.2.2.2.2.2.2.2.2.1 q.2.2.2.2.2.2.2.2.2.1 q.2.2.2.2.2.2.2.2.2.2.1 q.2.2.2.2.2.2.2.2.2.2.2.1 q.2.2.2.2.2.2.2.2.2.2.2.2) (aWorld 0, fun _ => none, ⟨0, 0, [], 0, 0, 0, 0, 0, 0, 0, 0, 0, 0, 0⟩, [], [], 0, 0, 0, 0, 0, 0, 0, 0) (by with_unfolding_all exact made_ite_c.core) (w, N, A, rows, sigs, c, a, b, s, en, t1, t2, r) oe ve hA hF hsig hz hn hen le hi h1 h2 h3
namespace made_app0_c
def P (w : World) (N : Hl) (A : BnkA) (rows : Rws) (sigs : List (List Int × Int)) (x : Int) (en : Addr) (t1 : Tok) (t2 : Tok) (r : Nat) : Prop := ∀ (oe : Obj) (ve : List Value) (hA : BankIn w N A rows) (hF : FunsIn N A sigs) (hsig : SigsOk sigs) (hz : rows.length < 1000) (hn : NotOk rows) (hen : N en = some oe) (le : LO oe ve) (hi : IntsAre ve [x]) (h1 : Typed rows 3 x), Calls w 431 [.ref A.x, .str sApp t1, .ref en, .int 0 t2] N (r + 6) (fun v N' => ∃ t', v = .int (due rows sApp [x] 3 0).1 t' ∧ BankIn w N' A (due rows sApp [x] 3 0).2 ∧ Keep A.mut N N')
noncomputable def V : World × Hl × BnkA × Rws × List (List Int × Int) × Int × Addr × Tok × Tok × Nat := pick (aWorld 0, fun _ => none, ⟨0, 0, [], 0, 0, 0, 0, 0, 0, 0, 0, 0, 0, 0⟩, [], [], 0, 0, 0, 0, 0) fun q => P q.1 q.2.1 q.2.2.1 q.2.2.2.1 q.2.2.2.2.1 q.2.2.2.2.2.1 q.2.2.2.2.2.2.1 q.2.2.2.2.2.2.2.1 q.2.2.2.2.2.2.2.2.1 q.2.2.2.2.2.2.2.2.2
@[irreducible] noncomputable def w : World := V.1
@[irreducible] noncomputable def N : Hl := V.2.1
@[irreducible] noncomputable def A : BnkA := V.2.2.1
@[irreducible] noncomputable def rows : Rws := V.2.2.2.1
@[irreducible] noncomputable def sigs : List (List Int × Int) := V.2.2.2.2.1
@[irreducible] noncomputable def x : Int := V.2.2.2.2.2.1
@[irreducible] noncomputable def en : Addr := V.2.2.2.2.2.2.1
@[irreducible] noncomputable def t1 : Tok := V.2.2.2.2.2.2.2.1
@[irreducible] noncomputable def t2 : Tok := V.2.2.2.2.2.2.2.2.1
@[irreducible] noncomputable def r : Nat := V.2.2.2.2.2.2.2.2.2
theorem core : P w N A rows sigs x en t1 t2 r := by
  unfold P
  intro oe ve hA hF hsig hz hn hen le hi h1
  refine' enter [(Str.ofString "bank_now", .ref A.x), (Str.ofString "name", .str sApp t1), (Str.ofString "ends", .ref en), (Str.ofString "label", .int 0 t2)] [(Str.ofString "label", .int 0 t2), (Str.ofString "ends", .ref en), (Str.ofString "name", .str sApp t1), (Str.ofString "bank_now", .ref A.x)] ?ho ?hcd ?hb ?hl ?c1 ?c2 ?c3 ?c4 ?c5 ?_
  walk_at "m_ent"
  refine pickC ?_
  intro ok
  have hO := hA.o
  refine e2_2 hi.cons_inv ?_
  intro u1 vs1 hy2_ hi1
  subst hy2_
  have := hi1.nil_inv; subst this
  walk_at "m"
  refine Br.of_ff (by decide) ?_
  walk_at "m"
  refine Br.of_ff (by decide) ?_
  walk_at "m"
  refine Br.of_ff (by decide) ?_
  walk_at "m"
  refine Br.ff ?_
  walk_at "m"
  refine Br.of_ff (by decide) ?_
  walk_at "m"
  refine Br.of_ff (by decide) ?_
  walk_at "m"
  refine Br.of_ff (by decide) ?_
  walk_at "m"
  refine Br.of_ff (by decide) ?_
  walk_at "m"
  refine Br.of_ff (by decide) ?_
  walk_at "m"
  refine SP_tupleL hen le (by simp) fun q hq => ?_
  have hA1 := hA.new (o := tupObj [Value.int x u1]) hq
  have hF1 := hF.keep (N' := upd N q (tupObj [Value.int x u1])) (TupKeep.new hq) (fun a _ o e => upd_old e hq)
  have hO1 := hA1.o
  have hK1 : Keep A.mut N (upd N q (tupObj [Value.int x u1])) := Keep.new hq
  have hq1 : upd N q (tupObj [Value.int x u1]) q = some (tupObj [Value.int x u1]) := upd_self ..
  generalize upd N q (tupObj [Value.int x u1]) = N1 at hA1 hK1 hq1 hO1 hF1 ⊢
  walk_at "m"
  refine SP_use ok (app_spec r hA1 hF1 (by decide) hsig.1 hq1 h1 hz hsig.2.2) (by first | exact Nat.le_refl _ | exact leK rfl | omega) (fun v N' hz_ => ?_)
  refine e1_3 hz_ ?_
  try clear hz_
  intro t' e hB' hK'
  walk_at "m"
  exact ⟨t', e, hB', hK1.trans hK'⟩
end made_app0_c
theorem made_app0 {w : World} {N : Hl} {A : BnkA} {rows : Rws} {sigs : List (List Int × Int)} {x : Int} {en : Addr} {oe : Obj} {ve : List Value} {t1 t2 : Tok} (r : Nat) (hA : BankIn w N A rows) (hF : FunsIn N A sigs) (hsig : SigsOk sigs) (hz : rows.length < 1000) (hn : NotOk rows)
    (hen : N en = some oe) (le : LO oe ve) (hi : IntsAre ve [x]) (h1 : Typed rows 3 x) :
    Calls w 431 [.ref A.x, .str sApp t1, .ref en, .int 0 t2] N (r + 6) (fun v N' => ∃ t', v = .int (due rows sApp [x] 3 0).1 t' ∧ BankIn w N' A (due rows sApp [x] 3 0).2 ∧ Keep A.mut N N') :=
  pickAll (P := fun q : World × Hl × BnkA × Rws × List (List Int × Int) × Int × Addr × Tok × Tok × Nat => made_app0_c.P q.1 q.2.1 q.2.2.1 q.2.2.2.1 q.2.2.2.2.1 q.2.2.2.2.2.1 q.2.2.2.2.2.2.1 q.2.2.2.2.2.2.2.1 q.2.2.2.2.2.2.2.2.1 q.2.2.2.2.2.2.2.2.2) (aWorld 0, fun _ => none, ⟨0, 0, [], 0, 0, 0, 0, 0, 0, 0, 0, 0, 0, 0⟩, [], [], 0, 0, 0, 0, 0) (by with_unfolding_all exact made_app0_c.core) (w, N, A, rows, sigs, x, en, t1, t2, r) oe ve hA hF hsig hz hn hen le hi h1
namespace made_app1_c
def P (w : World) (N : Hl) (A : BnkA) (rows : Rws) (sigs : List (List Int × Int)) (x : Int) (en : Addr) (t1 : Tok) (t2 : Tok) (r : Nat) : Prop := ∀ (oe : Obj) (ve : List Value) (hA : BankIn w N A rows) (hF : FunsIn N A sigs) (hsig : SigsOk sigs) (hz : rows.length < 1000) (hn : NotOk rows) (hen : N en = some oe) (le : LO oe ve) (hi : IntsAre ve [x]) (h1 : Typed rows 3 x), Calls w 431 [.ref A.x, .str sApp t1, .ref en, .int 1 t2] N (r + 6) (fun v N' => ∃ t', v = .int (due rows sApp [x] 0 1).1 t' ∧ BankIn w N' A (due rows sApp [x] 0 1).2 ∧ Keep A.mut N N')
noncomputable def V : World × Hl × BnkA × Rws × List (List Int × Int) × Int × Addr × Tok × Tok × Nat := pick (aWorld 0, fun _ => none, ⟨0, 0, [], 0, 0, 0, 0, 0, 0, 0, 0, 0, 0, 0⟩, [], [], 0, 0, 0, 0, 0) fun q => P q.1 q.2.1 q.2.2.1 q.2.2.2.1 q.2.2.2.2.1 q.2.2.2.2.2.1 q.2.2.2.2.2.2.1 q.2.2.2.2.2.2.2.1 q.2.2.2.2.2.2.2.2.1 q.2.2.2.2.2.2.2.2.2
@[irreducible] noncomputable def w : World := V.1
@[irreducible] noncomputable def N : Hl := V.2.1
@[irreducible] noncomputable def A : BnkA := V.2.2.1
@[irreducible] noncomputable def rows : Rws := V.2.2.2.1
@[irreducible] noncomputable def sigs : List (List Int × Int) := V.2.2.2.2.1
@[irreducible] noncomputable def x : Int := V.2.2.2.2.2.1
@[irreducible] noncomputable def en : Addr := V.2.2.2.2.2.2.1
@[irreducible] noncomputable def t1 : Tok := V.2.2.2.2.2.2.2.1
@[irreducible] noncomputable def t2 : Tok := V.2.2.2.2.2.2.2.2.1
@[irreducible] noncomputable def r : Nat := V.2.2.2.2.2.2.2.2.2
theorem core : P w N A rows sigs x en t1 t2 r := by
  unfold P
  intro oe ve hA hF hsig hz hn hen le hi h1
  refine' enter [(Str.ofString "bank_now", .ref A.x), (Str.ofString "name", .str sApp t1), (Str.ofString "ends", .ref en), (Str.ofString "label", .int 1 t2)] [(Str.ofString "label", .int 1 t2), (Str.ofString "ends", .ref en), (Str.ofString "name", .str sApp t1), (Str.ofString "bank_now", .ref A.x)] ?ho ?hcd ?hb ?hl ?c1 ?c2 ?c3 ?c4 ?c5 ?_
  walk_at "m_ent"
  refine pickC ?_
  intro ok
  have hO := hA.o
  refine e2_2 hi.cons_inv ?_
  intro u1 vs1 hy2_ hi1
  subst hy2_
  have := hi1.nil_inv; subst this
  walk_at "m"
  refine Br.of_ff (by decide) ?_
  walk_at "m"
  refine Br.of_ff (by decide) ?_
  walk_at "m"
  refine Br.of_ff (by decide) ?_
  walk_at "m"
  refine Br.ff ?_
  walk_at "m"
  refine Br.of_ff (by decide) ?_
  walk_at "m"
  refine Br.of_ff (by decide) ?_
  walk_at "m"
  refine Br.of_ff (by decide) ?_
  walk_at "m"
  refine Br.of_ff (by decide) ?_
  walk_at "m"
  refine Br.of_ff (by decide) ?_
  walk_at "m"
  refine SP_tupleL hen le (by simp) fun q hq => ?_
  have hA1 := hA.new (o := tupObj [Value.int x u1]) hq
  have hF1 := hF.keep (N' := upd N q (tupObj [Value.int x u1])) (TupKeep.new hq) (fun a _ o e => upd_old e hq)
  have hO1 := hA1.o
  have hK1 : Keep A.mut N (upd N q (tupObj [Value.int x u1])) := Keep.new hq
  have hq1 : upd N q (tupObj [Value.int x u1]) q = some (tupObj [Value.int x u1]) := upd_self ..
  generalize upd N q (tupObj [Value.int x u1]) = N1 at hA1 hK1 hq1 hO1 hF1 ⊢
  walk_at "m"
  refine SP_use ok (app_spec r hA1 hF1 (by decide) hsig.2.1 hq1 h1 hz hsig.2.2) (by first | exact Nat.le_refl _ | exact leK rfl | omega) (fun v N' hz_ => ?_)
  refine e1_3 hz_ ?_
  try clear hz_
  intro t' e hB' hK'
  walk_at "m"
  exact ⟨t', e, hB', hK1.trans hK'⟩
end made_app1_c
theorem made_app1 {w : World} {N : Hl} {A : BnkA} {rows : Rws} {sigs : List (List Int × Int)} {x : Int} {en : Addr} {oe : Obj} {ve : List Value} {t1 t2 : Tok} (r : Nat) (hA : BankIn w N A rows) (hF : FunsIn N A sigs) (hsig : SigsOk sigs) (hz : rows.length < 1000) (hn : NotOk rows)
    (hen : N en = some oe) (le : LO oe ve) (hi : IntsAre ve [x]) (h1 : Typed rows 3 x) :
    Calls w 431 [.ref A.x, .str sApp t1, .ref en, .int 1 t2] N (r + 6) (fun v N' => ∃ t', v = .int (due rows sApp [x] 0 1).1 t' ∧ BankIn w N' A (due rows sApp [x] 0 1).2 ∧ Keep A.mut N N') :=
  pickAll (P := fun q : World × Hl × BnkA × Rws × List (List Int × Int) × Int × Addr × Tok × Tok × Nat => made_app1_c.P q.1 q.2.1 q.2.2.1 q.2.2.2.1 q.2.2.2.2.1 q.2.2.2.2.2.1 q.2.2.2.2.2.2.1 q.2.2.2.2.2.2.2.1 q.2.2.2.2.2.2.2.2.1 q.2.2.2.2.2.2.2.2.2) (aWorld 0, fun _ => none, ⟨0, 0, [], 0, 0, 0, 0, 0, 0, 0, 0, 0, 0, 0⟩, [], [], 0, 0, 0, 0, 0) (by with_unfolding_all exact made_app1_c.core) (w, N, A, rows, sigs, x, en, t1, t2, r) oe ve hA hF hsig hz hn hen le hi h1
theorem made_spec {w : World} {N : Hl} {A : BnkA} {rows : Rws} {sigs : List (List Int × Int)} {name : Str} {ends : List Int} {kind label : Int} {en : Addr} {oe : Obj} {ve : List Value} {t1 t2 : Tok} (r : Nat) (hA : BankIn w N A rows) (hF : FunsIn N A sigs) (hsig : SigsOk sigs) (hz : rows.length < 1000) (hn : NotOk rows)
    (hen : N en = some oe) (le : LO oe ve) (hi : IntsAre ve ends) (hd : DrawOk rows name ends kind label) :
    Calls w 431 [.ref A.x, .str name t1, .ref en, .int label t2] N (r + 6) (fun v N' => ∃ t', v = .int (due rows name ends kind label).1 t' ∧ BankIn w N' A (due rows name ends kind label).2 ∧ Keep A.mut N N') := by
  cases hd with
  | not h1 => exact made_not r hA hF hsig hz hn hen le hi h1
  | and h1 h2 => exact made_and r hA hF hsig hz hn hen le hi h1 h2
  | or h1 h2 => exact made_or r hA hF hsig hz hn hen le hi h1 h2
  | xor h1 h2 => exact made_xor r hA hF hsig hz hn hen le hi h1 h2
  | imp h1 h2 => exact made_imp r hA hF hsig hz hn hen le hi h1 h2
  | eq h1 h2 => exact made_eq r hA hF hsig hz hn hen le hi h1 h2
  | dis h1 h2 h3 => exact made_dis r hA hF hsig hz hn hen le hi h1 h2 h3
  | ite h1 h2 h3 _ => exact made_ite r hA hF hsig hz hn hen le hi h1 h2 h3
  | app0 h1 => exact made_app0 r hA hF hsig hz hn hen le hi h1
  | app1 h1 => exact made_app1 r hA hF hsig hz hn hen le hi h1

end
/-! part Fn10 -/
section
set_option linter.unusedVariables false
/-- the law's own going down, with fuel -/
def down (rows : Rws) : Nat → Int → List Int → List Int
  | 0, _, seen => seen
  | f + 1, t, seen => if t ∈ seen then seen else ((match rowOf rows t with | some k => k.args | none => []).foldl (fun s x => down rows f x s) seen) ++ [t]
def Dag (rows : Rws) : Prop := ∀ t k, 1 ≤ t → rowOf rows t = some k → ∀ x ∈ k.args, 1 ≤ x ∧ x < t
theorem down_le (rows : Rws) : ∀ (f : Nat) (t : Int) (seen : List Int), seen.length ≤ (down rows f t seen).length
  | 0, _, _ => Nat.le_refl _
  | f + 1, t, seen => by
    unfold down
    split
    · exact Nat.le_refl _
    · have : ∀ (l : List Int) (s : List Int), s.length ≤ (l.foldl (fun s x => down rows f x s) s).length := by
        intro l
        induction l with
        | nil => intro s; exact Nat.le_refl _
        | cons x l ih => intro s; exact Nat.le_trans (down_le rows f x s) (ih _)
      rw [List.length_append]
      exact Nat.le_trans (this _ _) (Nat.le_add_right _ _)
theorem downs_le (rows : Rws) (f : Nat) (l : List Int) : ∀ (s : List Int), s.length ≤ (l.foldl (fun s x => down rows f x s) s).length := by
  induction l with
  | nil => intro s; exact Nat.le_refl _
  | cons x l ih => intro s; exact Nat.le_trans (down_le rows f x s) (ih _)

theorem down_spec {w : World} {B : BkA} {rows : Rws} (hz : rows.length < 1000) (hdag : Dag rows) : ∀ (f : Nat) (N : Hl) (t : Int) (tt : Tok) (se : Addr) (vs : List Value) (n : Nat) (ns : List Int),
    BookIn w N B rows → 1 ≤ t → t ≤ f → t ≤ rows.length → N se = some (lst vs n) → IntsAre vs ns → se ≠ B.r → (down rows f t ns).length ≤ 4096 →
    Calls w 443 [.ref B.b, .int t tt, .ref se] N (f + 1) (fun v N' => v = .none ∧ Keep [se] N N' ∧ ∃ vs' n', N' se = some (lst vs' n') ∧ IntsAre vs' (down rows f t ns))
  | 0, N, t, tt, se, vs, n, ns, hB, h1, hf, h2, hse, hi, hne, hsz => by omega
  | f + 1, N, t, tt, se, vs, n, ns, hB, h1, hf, h2, hse, hi, hne, hsz => by
    refine' enter [(Str.ofString "book_now", .ref B.b), (Str.ofString "t", .int t tt), (Str.ofString "seen", .ref se)] [(Str.ofString "seen", .ref se), (Str.ofString "t", .int t tt), (Str.ofString "book_now", .ref B.b)] ?ho ?hcd ?hb ?hl ?c1 ?c2 ?c3 ?c4 ?c5 ?_
    walk_at "m_ent"
    intro C ok
    walk_at "m"
    refine SP_notInInts hse (LO.lst _ _) hi ?_
    walk_at "m"
    by_cases hm : t ∈ ns
    · refine Br.of_ff (by first | exact nm1 hm | exact nm1 (Ne.symm hm) | simpa using hm) ?_
      walk_at "m"
      unfold down
      rw [if_pos hm]
      exact ⟨rfl, Keep.refl _ _, vs, n, hse, hi⟩
    · refine Br.of_tt (by first | exact nm1 hm | exact nm1 (Ne.symm hm) | simpa using hm) ?_
      walk_at "m"
      refine e2_3 hB.row ?_
      intro nr ks hr hlen hks
      have hlt : (t - 1).toNat < rows.length := by omega
      refine e1_3 (hks _ _ (List.getElem?_eq_getElem hlt)) ?_
      intro a ha hka hoa
      have hrow : rowOf rows t = some rows[(t - 1).toNat] := List.getElem?_eq_getElem hlt
      generalize rows[(t - 1).toNat] = k at ha hka hoa hrow
      refine e4_2 hka ?_
      try clear hka
      intro u1 b u2 u3 hat hab
      refine SP_For ok (by walk_at "m_rfl") ?_ (fun _ => rfl)
      walk_at "m"
      refine SP_sItem hB.dicB (bookF_rows B) ?_ (by walk_at "m_rfl")
      walk_at "m"
      refine SP_itemL hr (LO.lst _ _) (by first | exact Nat.le_refl _ | exact leK rfl | omega) (by first | exact Nat.le_refl _ | exact leK rfl | omega) ha ?_ (by walk_at "m_rfl")
      walk_at "m"
      refine SP_itemT hat (by decide) (by decide) rfl ?_ (by walk_at "m_rfl")
      have hdn : down rows (f + 1) t ns = (k.args.foldl (fun s x => down rows f x s) ns) ++ [t] := by
        rw [down, if_neg hm, hrow]
      have tk0 : ∀ N', Keep [se] N N' → TupKeep N N' := fun N' hK => hK.tup (by simp only [List.mem_singleton]; rintro _ rfl; exact ⟨_, hse, lst_nt _ _⟩)
      have bk0 : ∀ N', Keep [se] N N' → BookIn w N' B rows := fun N' hK => hB.keep fun a o e h => by
        refine hK a o e ?_
        simp only [List.mem_singleton]
        rintro rfl
        rw [hse] at e; cases e
        rcases h with h | h | h | h
        · exact lst_nt _ _ h
        · refine e1_2 hB.dicB.get ?_
          intro o' h1 h2
          rw [← h, hse] at h1; cases h1; exact lst_nd h2
        · exact hne h
        · refine e1_2 hB ?_
          try clear hB
          intro xs hy1_ _
          obtain ⟨_, _, _, hd, _⟩ := hy1_
          refine e1_3 hd.get ?_
          intro o' h1 h2 _
          rw [← h, hse] at h1; cases h1; exact lst_nd h2
      refine SP_iterS ok [(Str.ofString "seen", .ref se), (Str.ofString "t", .int t tt), (Str.ofString "book_now", .ref B.b)]
        (fun i N' => Keep [se] N N' ∧ ∃ vs' n', N' se = some (lst vs' n') ∧ IntsAre vs' ((k.args.take i).foldl (fun s x => down rows f x s) ns)) (.inr hab) (by walk_at "m_has") (by exact rfl) ⟨Keep.refl _ _, vs, n, hse, hi⟩ ?_ ?_ ?_ ?_
      · intro I hI i N₁ N₂ ho hz_
        refine e0_2 hz_ ?_
        try clear hz_
        intro hK hz0_
        refine e2_2 hz0_ ?_
        try clear hz0_
        intro vs' n' e hi'
        refine ⟨fun a o ea hna => ho.2 a o (hK a o ea hna) ?_, vs', n', ho.2 _ _ e ?_, hi'⟩
        · (first | exact neH ea hI (by intro e_; cases e_) | exact Ne.symm (neH ea hI (by intro e_; cases e_)) | (rintro rfl; rw [hI] at ea; cases ea))
        · (first | exact neH hse hI (by intro e_; cases e_) | exact Ne.symm (neH hse hI (by intro e_; cases e_)) | (rintro rfl; rw [hI] at hse; cases hse))
      · rintro i N' ⟨hK, _⟩ o e
        refine e1_2 hab ?_
        try clear hab
        intro vb hvb _
        rw [hvb] at e; cases e
        exact tk0 N' hK _ _ hvb
      · intro I o i x tx N₁ hI hx ie hIo hz_
        refine e0_2 hz_ ?_
        try clear hz_
        intro hK hz0_
        refine e2_2 hz0_ ?_
        try clear hz0_
        intro vs' n' e hi'
        have hxm := List.mem_of_getElem? hx
        refine e0_2 (hdag t k h1 hrow x hxm) ?_
        intro x1 x2
        have hB1 := bk0 N₁ hK
        have hstep : (k.args.take (i + 1)).foldl (fun s x => down rows f x s) ns = down rows f x ((k.args.take i).foldl (fun s x => down rows f x s) ns) := by
          rw [List.take_add_one, hx]; simp
        have hsz' : (down rows f x ((k.args.take i).foldl (fun s x => down rows f x s) ns)).length ≤ 4096 := by
          rw [← hstep]
          refine Nat.le_trans ?_ hsz
          rw [hdn, List.length_append]
          refine Nat.le_trans ?_ (Nat.le_add_right _ _)
          have := downs_le rows f (k.args.drop (i + 1)) ((k.args.take (i + 1)).foldl (fun s x => down rows f x s) ns)
          rw [← List.foldl_append, List.take_append_drop] at this
          exact this
        walk_at "m"
        refine SP_use ok (down_spec hz hdag f N₁ x tx se vs' n' _ hB1 x1 (by first | exact Nat.le_refl _ | exact leK rfl | omega) (by first | exact Nat.le_refl _ | exact leK rfl | omega) e hi' hne hsz') (Nat.le_refl _) (fun v N' hz_ => ?_)
        refine e0_3 hz_ ?_
        try clear hz_
        intro ev hK' hz0_
        refine e2_2 hz0_ ?_
        try clear hz0_
        intro vs2 n2 e2 hi2
        subst ev
        refine ⟨trivial, ?_⟩
        walk_at "m"
        refine TurnEnd.next ?_ ⟨by walk_at "m_has", hK.trans hK', vs2, n2, e2, by rw [hstep]; exact hi2⟩
        refine hK' I o hIo ?_
        simp only [List.mem_singleton]
        (first | exact neH hse hI (by intro e_; cases e_) | exact Ne.symm (neH hse hI (by intro e_; cases e_)) | (rintro rfl; rw [hI] at hse; cases hse))
      · intro l' N' hl' hz_
        refine e0_2 hz_ ?_
        try clear hz_
        intro hK hz0_
        refine e2_2 hz0_ ?_
        try clear hz0_
        intro vs' n' e hi'
        rw [List.take_length] at hi'
        refine Nx.next (SP.has hl' ?_)
        walk_at "m"
        refine SP_mAppend e ?_
        dsimp only
        walk_at "m"
        have hl2 : vs'.length ≤ 4096 := by
          rw [hi'.length]
          refine Nat.le_trans (Nat.le_succ _) ?_
          rw [hdn] at hsz
          simpa using hsz
        refine SP_append e (sz hl2) ⟨trivial, ?_⟩
        walk_at "m"
        refine ⟨rfl, hK.trans (Keep.chg (by simp)), _, _, upd_self .., ?_⟩
        rw [hdn]
        exact ints_snoc hi' t tt

end
/-! part Fn11 -/
section
set_option linter.unusedVariables false
/-- the feed: a list [X, spot], X a list of ints -/
def FeedIn (N : Hl) (feed X : Addr) (len : Nat) (spot : Int) : Prop := ∃ o t ox vs ns, N feed = some o ∧ LO o [.ref X, .int spot t] ∧ N X = some ox ∧ LO ox vs ∧ IntsAre vs ns ∧ vs.length = len ∧ len < 1000
theorem LO.inj {o : Obj} {vs us : List Value} (h : LO o vs) (h' : LO o us) : vs = us := by
  refine e0_2 h ?_
  try clear h
  intro _ hz0_
  refine e1_1 hz0_ ?_
  try clear hz0_
  intro n e
  refine e0_2 h' ?_
  try clear h'
  intro _ hz0_
  refine e1_1 hz0_ ?_
  try clear hz0_
  intro m e'
  rw [e] at e'
  cases e'
  rfl
theorem FeedIn.ne {N : Hl} {feed X : Addr} {len : Nat} {spot : Int} (h : FeedIn N feed X len spot) : X ≠ feed := by
  rintro rfl
  refine e5_6 h ?_
  try clear h
  intro o t ox vs ns h1 h2 h3 h4 h5 _
  rw [h1] at h3; cases h3
  have := LO.inj h2 h4
  subst this
  cases h5
theorem FeedIn.keep {N N' : Hl} {feed X : Addr} {len : Nat} {spot : Int} (h : FeedIn N feed X len spot) (hk : ∀ a o, N a = some o → (a = feed ∨ a = X) → N' a = some o) : FeedIn N' feed X len spot := by
  refine e5_5 h ?_
  try clear h
  intro o t ox vs ns h1 h2 h3 h4 h5
  exact ⟨o, t, ox, vs, ns, hk _ _ h1 (.inl rfl), h2, hk _ _ h3 (.inr rfl), h4, h5⟩
theorem fmod_box (a b : Int) (hb : 0 < b) : 0 ≤ a.fmod b ∧ a.fmod b < b := ⟨Int.fmod_nonneg_of_pos _ hb, Int.fmod_lt_of_pos _ hb⟩
namespace dip_spec_c
def P (w : World) (N : Hl) (feed : Addr) (X : Addr) (len : Nat) (spot : Int) (many : Int) (tm : Tok) (r : Nat) : Prop := ∀ (hf : FeedIn N feed X len spot) (h0 : 0 ≤ spot) (h1 : spot < 1000000) (hm : 0 < many), Calls w 396 [.ref feed, .int many tm] N (r + 1) (fun v N' => ∃ res t1, v = .int res t1 ∧ 0 ≤ res ∧ res < many ∧ FeedIn N' feed X len (spot + 1) ∧ Keep [feed] N N')
noncomputable def V : World × Hl × Addr × Addr × Nat × Int × Int × Tok × Nat := pick (aWorld 0, fun _ => none, 0, 0, 0, 0, 0, 0, 0) fun q => P q.1 q.2.1 q.2.2.1 q.2.2.2.1 q.2.2.2.2.1 q.2.2.2.2.2.1 q.2.2.2.2.2.2.1 q.2.2.2.2.2.2.2.1 q.2.2.2.2.2.2.2.2
@[irreducible] noncomputable def w : World := V.1
@[irreducible] noncomputable def N : Hl := V.2.1
@[irreducible] noncomputable def feed : Addr := V.2.2.1
@[irreducible] noncomputable def X : Addr := V.2.2.2.1
@[irreducible] noncomputable def len : Nat := V.2.2.2.2.1
@[irreducible] noncomputable def spot : Int := V.2.2.2.2.2.1
@[irreducible] noncomputable def many : Int := V.2.2.2.2.2.2.1
@[irreducible] noncomputable def tm : Tok := V.2.2.2.2.2.2.2.1
@[irreducible] noncomputable def r : Nat := V.2.2.2.2.2.2.2.2
theorem core : P w N feed X len spot many tm r := by
  unfold P
  intro hf h0 h1 hm
  have hne := hf.ne
  refine e5_7 hf ?_
  try clear hf
  intro o t ox vs ns hf lf hX lX hi hlen hl1
  refine' enter [(Str.ofString "feed", .ref feed), (Str.ofString "many", .int many tm)] [(Str.ofString "many", .int many tm), (Str.ofString "feed", .ref feed)] ?ho ?hcd ?hb ?hl ?c1 ?c2 ?c3 ?c4 ?c5 ?_
  walk_at "m_ent"
  refine pickC ?_
  intro ok
  walk_at "m"
  refine SP_itemL hf lf (by decide) (by decide) (by exact rfl) ?_ (by walk_at "m_rfl")
  walk_at "m"
  refine SP_setL hf lf (by decide) (by decide) (by simp) fun o' lo' => ?_
  have hX' : upd N feed o' X = some ox := by rw [upd_ne hne]; exact hX
  have hK : Keep [feed] N (upd N feed o') := Keep.chg (by simp)
  walk_at "m"
  refine SP_itemL (upd_self ..) lo' (by decide) (by decide) (by exact rfl) ?_ (by walk_at "m_rfl")
  walk_at "m"
  refine SP_lenL hX' lX (by first | exact Nat.le_refl _ | exact leK rfl | omega) fun tl => ?_
  walk_at "m"
  refine Br.dec (fun hlt => ?_) (fun hge => ?_)
  · walk_at "m"
    refine SP_itemL (upd_self ..) lo' (by decide) (by decide) (by exact rfl) ?_ (by walk_at "m_rfl")
    have hlt' : spot.toNat < vs.length := by omega
    have hv := List.getElem?_eq_getElem hlt'
    refine e2_1 (hi.all _ (List.getElem_mem hlt')) ?_
    intro x tx hx
    rw [hx] at hv
    walk_at "m"
    refine SP_itemL hX' lX h0 (by first | exact Nat.le_refl _ | exact leK rfl | omega) hv ?_ (by walk_at "m_rfl")
    walk_at "m"
    refine SP_mod (by first | exact Nat.le_refl _ | exact leK rfl | omega) fun t1 => ?_
    walk_at "m"
    exact ⟨_, t1, rfl, (fmod_box _ _ hm).1, (fmod_box _ _ hm).2, ⟨_, _, _, _, _, upd_self .., lo', hX', lX, hi, hlen, hl1⟩, hK⟩
  · walk_at "m"
    refine SP_mul (.of_left (intBits_le_64 (by first | exact Nat.le_refl _ | exact leK rfl | omega) (by first | exact Nat.le_refl _ | exact leK rfl | omega))) fun t1 => ?_
    walk_at "m"
    refine SP_mul (.of_right (intBits_le_64 (by first | exact Nat.le_refl _ | exact leK rfl | omega) (by first | exact Nat.le_refl _ | exact leK rfl | omega))) fun t2 => ?_
    walk_at "m"
    refine SP_mul (.of_left (intBits_le_64 (by first | exact Nat.le_refl _ | exact leK rfl | omega) (by first | exact Nat.le_refl _ | exact leK rfl | omega))) fun t3 => ?_
    walk_at "m"
    refine SP_itemL (upd_self ..) lo' (by decide) (by decide) (by exact rfl) ?_ (by walk_at "m_rfl")
    walk_at "m"
    refine SP_lenL hX' lX (by first | exact Nat.le_refl _ | exact leK rfl | omega) fun tl => ?_
    walk_at "m"
    refine SP_mod (by decide) fun t4 => ?_
    walk_at "m"
    refine SP_mod (by first | exact Nat.le_refl _ | exact leK rfl | omega) fun t5 => ?_
    walk_at "m"
    exact ⟨_, t5, rfl, (fmod_box _ _ hm).1, (fmod_box _ _ hm).2, ⟨_, _, _, _, _, upd_self .., lo', hX', lX, hi, hlen, hl1⟩, hK⟩
end dip_spec_c
theorem dip_spec {w : World} {N : Hl} {feed X : Addr} {len : Nat} {spot many : Int} {tm : Tok} (r : Nat)
    (hf : FeedIn N feed X len spot) (h0 : 0 ≤ spot) (h1 : spot < 1000000) (hm : 0 < many) :
    Calls w 396 [.ref feed, .int many tm] N (r + 1) (fun v N' => ∃ res t1, v = .int res t1 ∧ 0 ≤ res ∧ res < many ∧ FeedIn N' feed X len (spot + 1) ∧ Keep [feed] N N') :=
  pickAll (P := fun q : World × Hl × Addr × Addr × Nat × Int × Int × Tok × Nat => dip_spec_c.P q.1 q.2.1 q.2.2.1 q.2.2.2.1 q.2.2.2.2.1 q.2.2.2.2.2.1 q.2.2.2.2.2.2.1 q.2.2.2.2.2.2.2.1 q.2.2.2.2.2.2.2.2) (aWorld 0, fun _ => none, 0, 0, 0, 0, 0, 0, 0) (by with_unfolding_all exact dip_spec_c.core) (w, N, feed, X, len, spot, many, tm, r) hf h0 h1 hm
end
/-! part Pd -/
section
theorem down_sub (rows : Rws) : ∀ (f : Nat) (t : Int) (s : List Int), ∀ y ∈ s, y ∈ down rows f t s
  | 0, _, _ => fun y h => h
  | f + 1, t, s => fun y h => by
    unfold down
    split
    · exact h
    · have : ∀ (l : List Int) (s : List Int), y ∈ s → y ∈ l.foldl (fun s x => down rows f x s) s := by
        intro l
        induction l with
        | nil => intro s h; exact h
        | cons x l ih => intro s h; exact ih _ (down_sub rows f x s y h)
      exact List.mem_append.mpr (.inl (this _ _ h))
theorem downs_sub (rows : Rws) (f : Nat) {y : Int} : ∀ (l : List Int) (s : List Int), y ∈ s → y ∈ l.foldl (fun s x => down rows f x s) s := by
  intro l
  induction l with
  | nil => intro s h; exact h
  | cons x l ih => intro s h; exact ih _ (down_sub rows f x s y h)
theorem down_mem {rows : Rws} (hd : Dag rows) : ∀ (f : Nat) (t : Int) (s : List Int), 1 ≤ t → ∀ y ∈ down rows f t s, y ∈ s ∨ (1 ≤ y ∧ y ≤ t)
  | 0, _, _, _ => fun y h => .inl h
  | f + 1, t, s, h1 => fun y h => by
    unfold down at h
    split at h
    · exact .inl h
    · rcases List.mem_append.mp h with h | h
      · have : ∀ (l : List Int) (s : List Int), (∀ x ∈ l, 1 ≤ x ∧ x < t) → y ∈ l.foldl (fun s x => down rows f x s) s → y ∈ s ∨ (1 ≤ y ∧ y < t) := by
          intro l
          induction l with
          | nil => intro s _ h; exact .inl h
          | cons x l ih =>
            intro s hl h
            rcases ih _ (fun z hz => hl z (.tail _ hz)) h with h | h
            · rcases down_mem hd f x s (hl x (.head _)).1 y h with h | h
              · exact .inl h
              · exact .inr ⟨h.1, by have := (hl x (.head _)).2; omega⟩
            · exact .inr h
        have key := this _ s (by
          cases hr : rowOf rows t with
          | none => intro x hx; cases hx
          | some k => intro x hx; exact hd t k h1 hr x hx) h
        rcases key with h | h
        · exact .inl h
        · exact .inr ⟨h.1, by omega⟩
      · rw [List.mem_singleton] at h; subst h; exact .inr ⟨h1, by omega⟩
theorem downs_mem {rows : Rws} (hd : Dag rows) (f : Nat) {t : Int} {y : Int} : ∀ (l : List Int) (s : List Int), (∀ x ∈ l, 1 ≤ x ∧ x < t) → y ∈ l.foldl (fun s x => down rows f x s) s → y ∈ s ∨ (1 ≤ y ∧ y < t) := by
  intro l
  induction l with
  | nil => intro s _ h; exact .inl h
  | cons x l ih =>
    intro s hl h
    rcases ih _ (fun z hz => hl z (.tail _ hz)) h with h | h
    · rcases down_mem hd f x s (hl x (.head _)).1 y h with h | h
      · exact .inl h
      · exact .inr ⟨h.1, by have := (hl x (.head _)).2; omega⟩
    · exact .inr h
theorem foldl_congr {α β : Type} {f g : α → β → α} : ∀ (l : List β) (s : α), (∀ x ∈ l, ∀ s, f s x = g s x) → l.foldl f s = l.foldl g s := by
  intro l
  induction l with
  | nil => intro s _; rfl
  | cons x l ih => intro s h; rw [List.foldl_cons, List.foldl_cons, h x (.head _), ih _ fun y hy => h y (.tail _ hy)]
theorem down_fuel {rows : Rws} (hd : Dag rows) : ∀ (f g : Nat) (t : Int) (s : List Int), 1 ≤ t → t ≤ f → t ≤ g → down rows f t s = down rows g t s
  | 0, _, t, s, h1, h2, h3 => by omega
  | f + 1, 0, t, s, h1, h2, h3 => by omega
  | f + 1, g + 1, t, s, h1, h2, h3 => by
    unfold down
    split
    · rfl
    · congr 1
      cases hr : rowOf rows t with
      | none => rfl
      | some k =>
        refine foldl_congr _ _ fun x hx s => ?_
        have := hd t k h1 hr x hx
        exact down_fuel hd f g x s this.1 (by first | exact Nat.le_refl _ | exact leK rfl | omega) (by first | exact Nat.le_refl _ | exact leK rfl | omega)
/-- going down with fuel enough -/
def dn (rows : Rws) (t : Int) (s : List Int) : List Int := down rows t.toNat t s
theorem dn_in {rows : Rws} {t : Int} {s : List Int} (h1 : 1 ≤ t) (h : t ∈ s) : dn rows t s = s := by
  unfold dn
  obtain ⟨f, hf⟩ : ∃ f, t.toNat = f + 1 := ⟨t.toNat - 1, by omega⟩
  rw [hf, down, if_pos h]
theorem dn_out {rows : Rws} (hd : Dag rows) {t : Int} {s : List Int} {k : Sh} (h1 : 1 ≤ t) (h : t ∉ s) (hk : rowOf rows t = some k) : dn rows t s = k.args.foldl (fun s x => dn rows x s) s ++ [t] := by
  unfold dn
  obtain ⟨f, hf⟩ : ∃ f, t.toNat = f + 1 := ⟨t.toNat - 1, by omega⟩
  rw [hf, down, if_neg h, hk]
  congr 1
  refine foldl_congr _ _ fun x hx s => ?_
  have := hd t k h1 hk x hx
  exact down_fuel hd _ _ x s this.1 (by first | exact Nat.le_refl _ | exact leK rfl | omega) (by first | exact Nat.le_refl _ | exact leK rfl | omega)
theorem dn_sub {rows : Rws} {t : Int} {s : List Int} : ∀ y ∈ s, y ∈ dn rows t s := down_sub rows _ t s
theorem dn_mem {rows : Rws} (hd : Dag rows) {t : Int} {s : List Int} (h1 : 1 ≤ t) : ∀ y ∈ dn rows t s, y ∈ s ∨ (1 ≤ y ∧ y ≤ t) := down_mem hd _ t s h1
theorem dns_filter {rows : Rws} : ∀ (l : List Int) (s s₀ : List Int), (∀ x ∈ l, 1 ≤ x) → (∀ y ∈ s₀, y ∈ s) → (l.filter fun x => !(s₀.contains x)).foldl (fun s x => dn rows x s) s = l.foldl (fun s x => dn rows x s) s := by
  intro l
  induction l with
  | nil => intro s s₀ _ _; rfl
  | cons x l ih =>
    intro s s₀ hl hs
    by_cases h : x ∈ s₀
    · rw [List.filter_cons_of_neg (by first | exact nm1 h | exact nm1 (Ne.symm h) | simpa using h), List.foldl_cons, dn_in (hl x (.head _)) (hs x h)]
      exact ih s s₀ (fun y hy => hl y (.tail _ hy)) hs
    · rw [List.filter_cons_of_pos (by first | exact nm1 h | exact nm1 (Ne.symm h) | simpa using h), List.foldl_cons, List.foldl_cons]
      exact ih _ s₀ (fun y hy => hl y (.tail _ hy)) fun y hy => dn_sub _ (hs y hy)

/-- what a stack is worth -/
def evS (rows : Rws) : List (Int × Bool) → List Int → List Int
  | [], s => s
  | (t, false) :: r, s => evS rows r (dn rows t s)
  | (t, true) :: r, s => evS rows r (if t ∈ s then s else s ++ [t])
theorem evS_in {rows : Rws} {t : Int} {b : Bool} {r : List (Int × Bool)} {s : List Int} (h1 : 1 ≤ t) (h : t ∈ s) : evS rows ((t, b) :: r) s = evS rows r s := by
  cases b
  · show evS rows r (dn rows t s) = _; rw [dn_in h1 h]
  · show evS rows r (if t ∈ s then s else s ++ [t]) = _; rw [if_pos h]
theorem evS_open {rows : Rws} {t : Int} {r : List (Int × Bool)} {s : List Int} (h : t ∉ s) : evS rows ((t, true) :: r) s = evS rows r (s ++ [t]) := by
  show evS rows r (if t ∈ s then s else s ++ [t]) = _; rw [if_neg h]
theorem evS_app {rows : Rws} : ∀ (l : List Int) (r : List (Int × Bool)) (s : List Int), evS rows (l.map (·, false) ++ r) s = evS rows r (l.foldl (fun s x => dn rows x s) s) := by
  intro l
  induction l with
  | nil => intro r s; rfl
  | cons x l ih => intro r s; exact ih r _
theorem dns_out {rows : Rws} (hd : Dag rows) {t : Int} : ∀ (l : List Int) (s : List Int), (∀ x ∈ l, 1 ≤ x ∧ x < t) → t ∉ s → t ∉ l.foldl (fun s x => dn rows x s) s := by
  intro l
  induction l with
  | nil => intro s _ h; exact h
  | cons x l ih =>
    intro s hl h
    refine ih _ (fun y hy => hl y (.tail _ hy)) fun hm => ?_
    have := hl x (.head _)
    rcases dn_mem hd this.1 t hm with h' | h'
    · exact h h'
    · omega
theorem evS_split {rows : Rws} (hd : Dag rows) {t : Int} {r : List (Int × Bool)} {s : List Int} {k : Sh} (h1 : 1 ≤ t) (h : t ∉ s) (hk : rowOf rows t = some k) :
    evS rows ((k.args.filter fun x => !(s.contains x)).map (·, false) ++ (t, true) :: r) s = evS rows ((t, false) :: r) s := by
  have ha := hd t k h1 hk
  rw [evS_app, dns_filter _ _ _ (fun x hx => (ha x hx).1) fun y hy => hy, evS_open (dns_out hd _ _ ha h)]
  show _ = evS rows r (dn rows t s)
  rw [dn_out hd h1 h hk]

def mu : List (Int × Bool) → Nat
  | [] => 0
  | (t, false) :: r => 5 ^ t.toNat + mu r
  | (t, true) :: r => 1 + mu r
theorem pow5 (n : Nat) : 1 ≤ 5 ^ n := Nat.pos_of_ne_zero (by simp)
theorem mu_pos {t : Int} {b : Bool} {r : List (Int × Bool)} : mu r < mu ((t, b) :: r) := by
  cases b
  · show mu r < 5 ^ t.toNat + mu r; have := pow5 t.toNat; omega
  · show mu r < 1 + mu r; omega
theorem mu_app (m : Nat) : ∀ (l : List Int) (r : List (Int × Bool)), (∀ x ∈ l, x.toNat ≤ m) → mu (l.map (·, false) ++ r) ≤ l.length * 5 ^ m + mu r := by
  intro l
  induction l with
  | nil => intro r _; simp
  | cons x l ih =>
    intro r hl
    have h1 := ih r fun y hy => hl y (.tail _ hy)
    have h2 : 5 ^ x.toNat ≤ 5 ^ m := Nat.pow_le_pow_right (by decide) (hl x (.head _))
    show 5 ^ x.toNat + mu (l.map (·, false) ++ r) ≤ (l.length + 1) * 5 ^ m + mu r
    rw [Nat.add_mul]; omega
theorem mu_split {t : Int} {r : List (Int × Bool)} {l : List Int} (h1 : 1 ≤ t) (hl : ∀ x ∈ l, 1 ≤ x ∧ x < t) (h3 : l.length ≤ 3) : mu (l.map (·, false) ++ (t, true) :: r) < mu ((t, false) :: r) := by
  obtain ⟨f, hf⟩ : ∃ f, t.toNat = f + 1 := ⟨t.toNat - 1, by omega⟩
  have h := mu_app f l ((t, true) :: r) fun x hx => by have := hl x hx; omega
  have h4 : l.length * 5 ^ f ≤ 3 * 5 ^ f := Nat.mul_le_mul_right _ h3
  have h5 := pow5 f
  have h6 : mu ((t, true) :: r) = 1 + mu r := rfl
  have h7 : mu ((t, false) :: r) = 5 ^ t.toNat + mu r := rfl
  rw [h7, hf, Nat.pow_succ]; omega
/-- how high a stack is -/
def Stk (n : Int) : List (Int × Bool) → Prop
  | [] => True
  | (t, _) :: r => (r.length : Int) ≤ 4 * (n - t) + 3 ∧ 1 ≤ t ∧ t ≤ n ∧ Stk n r
theorem Stk.len {n : Int} {st : List (Int × Bool)} (h0 : 0 ≤ n) (h : Stk n st) : (st.length : Int) ≤ 4 * n + 4 := by
  cases st with
  | nil => simp; omega
  | cons p r => obtain ⟨a, b, c, _⟩ := h; simp; omega
theorem Stk.split {n t : Int} {r : List (Int × Bool)} : ∀ {l : List Int}, Stk n ((t, false) :: r) → (∀ x ∈ l, 1 ≤ x ∧ x < t) → l.length ≤ 3 → Stk n (l.map (·, false) ++ (t, true) :: r)
  | [], h, _, _ => h
  | x :: l, h, hl, h3 => by
    have hx := hl x (.head _)
    have h3' : l.length + 1 ≤ 3 := h3
    refine ⟨?_, hx.1, ?_, Stk.split h (fun y hy => hl y (.tail _ hy)) (by first | exact Nat.le_refl _ | exact leK rfl | omega)⟩
    · refine e0_4 h ?_
      try clear h
      intro a b c _
      show (((l.map (·, false) ++ (t, true) :: r).length : Nat) : Int) ≤ _
      rw [List.length_append, List.length_map, List.length_cons]; omega
    · obtain ⟨a, b, c, _⟩ := h; omega

/-- a list without double numbers from 1 to n is no longer than n -/
theorem nodup_len : ∀ {n : Nat} {l : List Int}, l.Nodup → (∀ x ∈ l, 1 ≤ x ∧ x ≤ n) → l.length ≤ n
  | 0, l, hn, h => by
    cases l with
    | nil => exact Nat.le_refl _
    | cons x l => have := h x (.head _); omega
  | n + 1, l, hn, h => by
    by_cases hm : ((n : Int) + 1) ∈ l
    · have h1 := nodup_len (n := n) (hn.erase ((n : Int) + 1)) fun x hx => by
        have h2 := (List.Nodup.mem_erase_iff hn).mp hx
        have h3 := h x h2.2
        have h4 := h2.1
        omega
      rw [List.length_erase_of_mem hm] at h1
      omega
    · have := nodup_len (n := n) hn fun x hx => by
        have h3 := h x hx
        refine ⟨h3.1, ?_⟩
        by_cases e : x = (n : Int) + 1
        · subst e; exact absurd hx hm
        · omega
      omega
theorem down_nodup {rows : Rws} (hd : Dag rows) : ∀ (f : Nat) (t : Int) (s : List Int), 1 ≤ t → s.Nodup → (down rows f t s).Nodup
  | 0, _, _, _, h => h
  | f + 1, t, s, h1, h => by
    unfold down
    split
    · exact h
    · rename_i hm
      have : ∀ (l : List Int) (s : List Int), (∀ x ∈ l, 1 ≤ x ∧ x < t) → t ∉ s → s.Nodup → (l.foldl (fun s x => down rows f x s) s).Nodup ∧ t ∉ l.foldl (fun s x => down rows f x s) s := by
        intro l
        induction l with
        | nil => intro s _ a b; exact ⟨b, a⟩
        | cons x l ih =>
          intro s hl a b
          have hx := hl x (.head _)
          refine ih _ (fun z hz => hl z (.tail _ hz)) (fun hm => ?_) (down_nodup hd f x s hx.1 b)
          rcases down_mem hd f x s hx.1 t hm with q | q
          · exact a q
          · omega
      have key := this (match rowOf rows t with | some k => k.args | none => []) s (by
        cases hr : rowOf rows t with
        | none => intro x hx; cases hx
        | some k => intro x hx; exact hd t k h1 hr x hx) hm h
      rw [List.nodup_append]
      exact ⟨key.1, by simp, by
        intro a ha b hb; rw [List.mem_singleton] at hb; subst b; rintro rfl; exact key.2 ha⟩
theorem dn_nodup {rows : Rws} (hd : Dag rows) {t : Int} {s : List Int} (h1 : 1 ≤ t) (h : s.Nodup) : (dn rows t s).Nodup := down_nodup hd _ t s h1 h
end
/-! part Fn12 -/
section
set_option linter.unusedVariables false
/-- a stack in the ledger, its top last; as a list its top first -/
inductive Stks (N : Hl) : List Value → List (Int × Bool) → Prop
  | nil : Stks N [] []
  | push {vs : List Value} {st : List (Int × Bool)} {q : Addr} {t : Int} {tk : Tok} {o : Bool} : Stks N vs st → N q = some (tupObj [.int t tk, .bool o]) → Stks N (vs ++ [.ref q]) ((t, o) :: st)
theorem Stks.keep {N N' : Hl} {vs : List Value} {st : List (Int × Bool)} (h : Stks N vs st) (k : TupKeep N N') : Stks N' vs st := by
  induction h with
  | nil => exact .nil
  | push _ e ih => exact ih.push (k _ _ e)
theorem Stks.len {N : Hl} {vs : List Value} {st : List (Int × Bool)} (h : Stks N vs st) : vs.length = st.length := by
  induction h with
  | nil => rfl
  | push _ e ih => simp [ih]
theorem Stks.pop {N : Hl} {vs : List Value} {t : Int} {o : Bool} {st : List (Int × Bool)} (h : Stks N vs ((t, o) :: st)) : ∃ vs' q tk, vs = vs' ++ [.ref q] ∧ Stks N vs' st ∧ N q = some (tupObj [.int t tk, .bool o]) := by
  cases h with
  | push a e => exact ⟨_, _, _, rfl, a, e⟩
/-- what found and done hold -/
structure Fnd (w : World) (n : Nat) (F D : Addr) (N : Hl) (s : List Int) : Prop where
  f : ∃ vs m, N F = some (lst vs m) ∧ IntsAre vs s
  d : DicI w N D s
  nd : s.Nodup
  box : ∀ y ∈ s, 1 ≤ y ∧ y ≤ n
theorem Fnd.keep {w : World} {n : Nat} {F D : Addr} {N N' : Hl} {s : List Int} (h : Fnd w n F D N s) (k : ∀ a o, N a = some o → (a = F ∨ a = D) → N' a = some o) : Fnd w n F D N' s :=
  ⟨let ⟨vs, m, e, i⟩ := h.f; ⟨vs, m, k _ _ e (.inl rfl), i⟩, h.d.keep fun o e => k _ _ e (.inr rfl), h.nd, h.box⟩
theorem Fnd.len {w : World} {n : Nat} {F D : Addr} {N : Hl} {s : List Int} (h : Fnd w n F D N s) : s.length ≤ n := nodup_len h.nd h.box
theorem Stks.nil_inv {N : Hl} {vs : List Value} {st : List (Int × Bool)} (h : Stks N vs st) (e : vs.length = 0) : st = [] := by
  have := h.len; rw [e] at this; exact List.length_eq_zero_iff.mp this.symm
theorem tupNe {N : Hl} {a b : Addr} {vs us : List Value} {n : Nat} (h : N a = some (lst vs n)) (h' : N b = some (tupObj us)) : b ≠ a := by
  rintro rfl
  rw [h] at h'
  exact lst_nt vs n (congrArg Obj.cls (Option.some.inj h'))
theorem rev_take {l : List Int} {i : Nat} {x : Int} (h : l.reverse[i]? = some x) : (l.reverse.take (i + 1)).reverse = x :: (l.reverse.take i).reverse := by
  rw [List.take_add_one, h]; simp
namespace parts_of_all_spec_c
def P (w : World) (N : Hl) (A : BnkA) (rows : Rws) (a : Addr) (roots : List Int) (r : Nat) : Prop := ∀ (hA : BankIn w N A rows) (ha : SeqI N a roots) (hr : ∀ t ∈ roots, 1 ≤ t ∧ t ≤ rows.length) (hd : Dag rows) (h3 : ∀ k ∈ rows, k.args.length ≤ 3) (hz : rows.length < 1000), Calls w 279 [.ref A.x, .ref a] N (r + 1) (fun v N' => ∃ q vs n, v = .ref q ∧ N q = none ∧ N' q = some (lst vs n) ∧ IntsAre vs (roots.foldl (fun s t => dn rows t s) []) ∧ Keep [] N N')
noncomputable def V : World × Hl × BnkA × Rws × Addr × List Int × Nat := pick (aWorld 0, fun _ => none, ⟨0, 0, [], 0, 0, 0, 0, 0, 0, 0, 0, 0, 0, 0⟩, [], 0, [], 0) fun q => P q.1 q.2.1 q.2.2.1 q.2.2.2.1 q.2.2.2.2.1 q.2.2.2.2.2.1 q.2.2.2.2.2.2
@[irreducible] noncomputable def w : World := V.1
@[irreducible] noncomputable def N : Hl := V.2.1
@[irreducible] noncomputable def A : BnkA := V.2.2.1
@[irreducible] noncomputable def rows : Rws := V.2.2.2.1
@[irreducible] noncomputable def a : Addr := V.2.2.2.2.1
@[irreducible] noncomputable def roots : List Int := V.2.2.2.2.2.1
@[irreducible] noncomputable def r : Nat := V.2.2.2.2.2.2
theorem core : P w N A rows a roots r := by
  unfold P
  intro hA ha hr hd h3 hz
  refine' enter [(Str.ofString "self", .ref A.x), (Str.ofString "some", .ref a)] [(Str.ofString "some", .ref a), (Str.ofString "self", .ref A.x)] ?ho ?hcd ?hb ?hl ?c1 ?c2 ?c3 ?c4 ?c5 ?_
  walk_at "m_ent"
  refine pickC ?_
  intro ok
  walk_at "m"
  refine SP_AssignSwap2 ok (x := Str.ofString "found") (y := Str.ofString "done") (by walk_at "m_rfl") (by walk_at "m_rfl") ?_ (by walk_at "m_rfl") (by walk_at "m_rfl")
  walk_at "m"
  refine SP_newList (fun F hF => ?_) (sz (by simp))
  walk_at "m"
  refine SP_newDict fun D oD hD iD _ cD _ => ?_
  walk_at "m"
  refine SP_newTuple (fun q hq => ?_) (sz (by simp))
  refine ⟨q, _, _, rfl, upd_self .., ?_⟩
  walk_at "m"
  have hFD : D ≠ F := by (first | exact neH hD (upd_self ..) (by intro e_; cases e_) | exact Ne.symm (neH hD (upd_self ..) (by intro e_; cases e_)) | (rintro rfl; rw [upd_self] at hD; cases hD))
  have hqD : D ≠ q := by (first | exact neH hq (upd_self ..) (by intro e_; cases e_) | exact Ne.symm (neH hq (upd_self ..) (by intro e_; cases e_)) | (rintro rfl; rw [upd_self] at hq; cases hq))
  have hqF : F ≠ q := by rintro rfl; rw [upd_ne hFD.symm, upd_self] at hq; cases hq
  have k0 : Keep [] N (upd (upd (upd N F (lst [] 0)) D oD) q (tupObj [.ref F, .ref D])) := ((Keep.new hF).trans (Keep.new hD)).trans (Keep.new hq)
  have f1 : upd (upd (upd N F (lst [] 0)) D oD) q (tupObj [.ref F, .ref D]) F = some (lst [] 0) := by rw [upd_ne hqF, upd_ne hFD.symm, upd_self]
  have d1 : DicI w (upd (upd (upd N F (lst [] 0)) D oD) q (tupObj [.ref F, .ref D])) D [] := ⟨oD, [], by rw [upd_ne hqD, upd_self], iD, rfl⟩
  generalize upd (upd (upd N F (lst [] 0)) D oD) q (tupObj [.ref F, .ref D]) = N1 at k0 f1 d1
  have hA1 := hA.le k0
  have hD0 : N D = none := by
    rw [upd_ne hFD] at hD; exact hD
  have ha1 : SeqI N1 a roots := ha.keep fun o e => k0 _ _ e (by first | exact nm0 | simp)
  refine SP_For ok (by walk_at "m_rfl") ?_ (fun _ => rfl)
  walk_at "m"
  have F1 : Fnd w rows.length F D N1 [] := ⟨⟨_, _, f1, .nil⟩, d1, List.nodup_nil, by simp⟩
  refine e1_2 d1.get ?_
  intro oD1 dD1 dC1
  refine SP_iterS ok [(Str.ofString "found", .ref F), (Str.ofString "done", .ref D), (Str.ofString "some", .ref a), (Str.ofString "self", .ref A.x)]
    (fun i N' => Keep [F, D] N1 N' ∧ Fnd w rows.length F D N' ((roots.take i).foldl (fun s t => dn rows t s) [])) ha1 (by walk_at "m_has") (by exact rfl) ⟨Keep.refl _ _, F1⟩ ?_ ?_ ?_ ?_
  · intro I hI i N₁ N₂ ho hz_
    refine e0_2 hz_ ?_
    try clear hz_
    intro hK hF
    refine ⟨fun a o ea hna => ho.2 a o (hK a o ea hna) ?_, hF.keep fun a o ea h => ho.2 a o ea ?_⟩
    · (first | exact neH ea hI (by intro e_; cases e_) | exact Ne.symm (neH ea hI (by intro e_; cases e_)) | (rintro rfl; rw [hI] at ea; cases ea))
    · rcases h with h | h <;> subst a
      · exact neH f1 hI (by intro e_; cases e_)
      · exact neH dD1 hI (by intro e_; cases e_)
  · rintro i N' ⟨hK, _⟩ o e
    refine hK _ _ e ?_
    simp only [List.mem_cons, List.not_mem_nil, or_false, not_or]
    refine ⟨?_, ?_⟩
    · rintro rfl
      rcases ha with ⟨_, _, e, _⟩ | ⟨_, e, _⟩ <;> (rw [hF] at e; cases e)
    · rintro rfl
      rcases ha with ⟨_, _, e, _⟩ | ⟨_, e, _⟩ <;> (rw [hD0] at e; cases e)
  · intro I oI i root tr N₂ hI hx ie hIo hz_
    refine e0_2 hz_ ?_
    try clear hz_
    intro hK hFn
    have hroot := hr root (List.mem_of_getElem? hx)
    have hstep : (roots.take (i + 1)).foldl (fun s t => dn rows t s) [] = dn rows root ((roots.take i).foldl (fun s t => dn rows t s) []) := by
      rw [List.take_add_one, hx]; simp
    rw [hstep]
    generalize (roots.take i).foldl (fun s t => dn rows t s) [] = s0 at hFn
    walk_at "m"
    refine SP_newTuple (fun q1 hq1 => ?_) (sz (by simp))
    walk_at "m"
    refine SP_newList (fun S hS => ?_) (sz (by simp))
    walk_at "m"
    have hqS : q1 ≠ S := by (first | exact neH hS (upd_self ..) (by intro e_; cases e_) | exact Ne.symm (neH hS (upd_self ..) (by intro e_; cases e_)) | (rintro rfl; rw [upd_self] at hS; cases hS))
    have hS0 : N₂ S = none := by rw [upd_ne hqS.symm] at hS; exact hS
    have kS : Keep [] N₂ (upd (upd N₂ q1 (tupObj [.int root tr, .bool false])) S (lst [.ref q1] 0)) := (Keep.new hq1).trans (Keep.new hS)
    have s1 : upd (upd N₂ q1 (tupObj [.int root tr, .bool false])) S (lst [.ref q1] 0) S = some (lst [.ref q1] 0) := upd_self ..
    have t1 : upd (upd N₂ q1 (tupObj [.int root tr, .bool false])) S (lst [.ref q1] 0) q1 = some (tupObj [.int root tr, .bool false]) := by rw [upd_ne hqS, upd_self]
    generalize upd (upd N₂ q1 (tupObj [.int root tr, .bool false])) S (lst [.ref q1] 0) = N3 at kS s1 t1
    have F3 : Fnd w rows.length F D N3 s0 := hFn.keep fun a o e _ => kS a o e (by first | exact nm0 | simp)
    refine e2_2 hFn.f ?_
    intro vF0 mF0 eF0 _
    refine e1_2 hFn.d.get ?_
    intro oD0 eD0 cD0
    have hSF : S ≠ F := by (first | exact neH hS0 eF0 (by intro e_; cases e_) | exact Ne.symm (neH hS0 eF0 (by intro e_; cases e_)) | (rintro rfl; rw [eF0] at hS0; cases hS0))
    have hSD : S ≠ D := by (first | exact neH hS0 eD0 (by intro e_; cases e_) | exact Ne.symm (neH hS0 eD0 (by intro e_; cases e_)) | (rintro rfl; rw [eD0] at hS0; cases hS0))
    have st1 : Stks N3 [.ref q1] [(root, false)] := .push (vs := []) .nil t1
    have nt3 : ∀ a ∈ [F, D, S], ∃ o, N3 a = some o ∧ o.cls ≠ .type "tuple" := by
      intro a ha
      simp only [List.mem_cons, List.not_mem_nil, or_false] at ha
      (rcases ha with ha | ha | ha <;> subst a)
      · exact ⟨_, kS _ _ eF0 (by first | exact nm0 | simp), lst_nt _ _⟩
      · exact ⟨_, kS _ _ eD0 (by first | exact nm0 | simp), dic_nt cD0⟩
      · exact ⟨_, s1, lst_nt _ _⟩
    have kb3 : Keep [F, D] N1 N3 := hK.trans (kS.sub (by simp))
    have bank : ∀ N', Keep [F, D, S] N3 N' → BankIn w N' A rows := fun N' k => by
      have k' : ∀ a o, N a = some o → N' a = some o := fun a o e => by
        have nF : a ≠ F := by (first | exact neH e hF (by intro e_; cases e_) | exact Ne.symm (neH e hF (by intro e_; cases e_)) | (rintro rfl; rw [hF] at e; cases e))
        have nD : a ≠ D := by (first | exact neH e hD0 (by intro e_; cases e_) | exact Ne.symm (neH e hD0 (by intro e_; cases e_)) | (rintro rfl; rw [hD0] at e; cases e))
        have e3 : N3 a = some o := kb3 a o (k0 a o e (by first | exact nm0 | simp)) (by simp [nF, nD])
        refine k a o e3 ?_
        have nS : a ≠ S := by
          intro q_
          have := hK a o (k0 a o e (by first | exact nm0 | simp)) (by simp [nF, nD])
          rw [q_, hS0] at this; cases this
        simp [nF, nD, nS]
      exact hA.le fun a o e _ => k' a o e
    have ev1 : evS rows [(root, false)] s0 = dn rows root s0 := rfl
    refine SP_While (fun n l' N' => Has [(Str.ofString "stack", .ref S), (Str.ofString "found", .ref F), (Str.ofString "done", .ref D), (Str.ofString "some", .ref a), (Str.ofString "self", .ref A.x)] l' ∧ Keep [F, D, S] N3 N' ∧
      ∃ vs m st s, N' S = some (lst vs m) ∧ Stks N' vs st ∧ mu st = n ∧ Stk rows.length st ∧ evS rows st s = dn rows root s0 ∧ Fnd w rows.length F D N' s) (mu [(root, false)]) ⟨by walk_at "m_has", Keep.refl _ _, _, _, _, _, s1, st1, rfl, ⟨by simp; omega, hroot.1, hroot.2, trivial⟩, ev1, F3⟩ ?_
    intro n l' N4 hz_
    refine e0_3 hz_ ?_
    try clear hz_
    intro hl' hK4 hz0_
    refine e4_6 hz0_ ?_
    try clear hz0_
    intro vs m st s e4 hst hy6_ hstk hev hF4
    subst hy6_
    refine SP.has hl' ?_
    have hl4 := hstk.len (by first | exact Nat.le_refl _ | exact leK rfl | omega)
    have hl5 := hst.len
    walk_at "m"
    refine SP_lenL e4 (LO.lst _ _) (by first | exact Nat.le_refl _ | exact leK rfl | omega) fun tl => ?_
    walk_at "m"
    have tk4 : TupKeep N3 N4 := hK4.tup nt3
    have hA4 := bank N4 hK4
    have hO4 := hA4.o
    cases st with
    | nil =>
      refine Br.of_ff (by rw [hl5]; rfl) ?_
      refine Nx.next ?_
      walk_at "m"
      refine TurnEnd.next ?_ ⟨by walk_at "m_has", ?_, ?_⟩
      · refine hK4 _ _ (kS _ _ hIo (by first | exact nm0 | simp)) ?_
        simp only [List.mem_cons, List.not_mem_nil, or_false, not_or]
        refine ⟨?_, ?_, ?_⟩
        · (first | exact neH hI f1 (by intro e_; cases e_) | exact Ne.symm (neH hI f1 (by intro e_; cases e_)) | (rintro rfl; rw [f1] at hI; cases hI))
        · (first | exact neH hI dD1 (by intro e_; cases e_) | exact Ne.symm (neH hI dD1 (by intro e_; cases e_)) | (rintro rfl; rw [dD1] at hI; cases hI))
        · (first | exact neH hS0 hIo (by intro e_; cases e_) | exact Ne.symm (neH hS0 hIo (by intro e_; cases e_)) | (rintro rfl; rw [hIo] at hS0; cases hS0))
      · intro a o e hn
        have := kb3 a o e hn
        refine hK4 a o this ?_
        simp only [List.mem_cons, List.not_mem_nil, or_false, not_or] at hn ⊢
        refine ⟨hn.1, hn.2, ?_⟩
        intro q_
        have := hK a o e (by simp [hn.1, hn.2])
        rw [q_, hS0] at this; cases this
      · have : s = dn rows root s0 := hev
        rw [← this]; exact hF4
    | cons p st =>
      obtain ⟨t, o⟩ := p
      refine Br.of_tt (by rw [hl5]; simp) ?_
      refine e3_3 hst.pop ?_
      intro vs' q tk hy3_ hst' hq
      subst hy3_
      refine e0_4 hstk ?_
      try clear hstk
      intro hs1 hs2 hs3 hs4
      refine SP_cons (SP_AssignTuple ?_ (by walk_at "m_rfl") (by walk_at "m_rfl"))
      walk_at "m"
      refine SP_mPop e4 ?_
      dsimp only
      walk_at "m"
      refine SP_pop e4 (Nat.lt_of_lt_of_le (by simp : vs'.length < (vs' ++ [Value.ref q]).length) (sz (by first | exact Nat.le_refl _ | exact leK rfl | omega))) ?_
      have nSq : q ≠ S := tupNe e4 hq
      have k5 : Keep [F, D, S] N3 (upd N4 S (lst vs' (m + 1))) := hK4.trans (Keep.chg (by simp))
      have tk5 : TupKeep N4 (upd N4 S (lst vs' (m + 1))) := TupKeep.chg e4 (lst_nt _ _)
      have s5 : upd N4 S (lst vs' (m + 1)) S = some (lst vs' (m + 1)) := upd_self ..
      have F5 : Fnd w rows.length F D (upd N4 S (lst vs' (m + 1))) s := hF4.keep fun a o e h => by
        rw [upd_ne]; exact e
        intro q_; rcases h with h | h
        · exact hSF (q_.symm.trans h)
        · exact hSD (q_.symm.trans h)
      have hq5 := tk5 _ _ hq
      have st5 := hst'.keep tk5
      generalize upd N4 S (lst vs' (m + 1)) = N5 at k5 tk5 s5 F5 hq5 st5
      walk_at "m"
      refine SP_unpackT ok hq5 rfl (by walk_at "m_rfl") rfl ?_
      simp only [bindAll]
      walk_at "m"
      refine SP_kIn F5.d ?_
      walk_at "m"
      by_cases hts : t ∈ s
      · refine Br.of_tt (by first | exact nm1 hts | exact nm1 (Ne.symm hts) | simpa using hts) ?_
        walk_at "m"
        refine WhEnd.cont (mu st) mu_pos ⟨by walk_at "m_has", k5, vs', _, st, s, s5, st5, rfl, hs4, ?_, F5⟩
        rw [← hev, evS_in hs2 hts]
      · refine Br.of_ff (by first | exact nm1 hts | exact nm1 (Ne.symm hts) | simpa using hts) ?_
        walk_at "m"
        refine SP_isTrue ?_ (by walk_at "m_rfl")
        walk_at "m"
        cases o with
        | true =>
          refine Br.tt ?_
          walk_at "m"
          have hsl := F5.len
          refine SP_kSet F5.d hts (sz (by first | exact Nat.le_refl _ | exact leK rfl | omega)) fun oD' cD' hD' => ?_
          refine e2_2 F5.f ?_
          intro vF mF eF iF
          refine e1_2 F5.d.get ?_
          intro oD5 eD5 cD5
          have k6 : Keep [F, D, S] N3 (upd N5 D oD') := k5.trans (Keep.chg (by simp))
          have eF6 : upd N5 D oD' F = some (lst vF mF) := by rw [upd_ne hFD.symm]; exact eF
          have s6 : upd N5 D oD' S = some (lst vs' (m + 1)) := by rw [upd_ne hSD]; exact s5
          have st6 := st5.keep (TupKeep.chg (o' := oD') eD5 (dic_nt cD5))
          generalize upd N5 D oD' = N6 at k6 eF6 s6 st6 hD'
          walk_at "m"
          refine SP_mAppend eF6 ?_
          dsimp only
          walk_at "m"
          refine SP_append eF6 (sz (by rw [iF.length]; omega)) ⟨trivial, ?_⟩
          walk_at "m"
          refine WhEnd.cont (mu st) mu_pos ⟨by walk_at "m_has", k6.trans (Keep.chg (by simp)), vs', m + 1, st, s ++ [t], by rw [upd_ne hSF]; exact s6, st6.keep (TupKeep.chg eF6 (lst_nt _ _)), rfl, hs4, ?_, ⟨⟨_, _, upd_self .., ints_snoc iF t tk⟩, hD'.keep fun o e => by rw [upd_ne hFD]; exact e, ?_, ?_⟩⟩
          · rw [← hev, evS_open hts]
          · rw [List.nodup_append]
            exact ⟨F5.nd, by simp, by intro a ha b hb; rw [List.mem_singleton] at hb; subst b; rintro rfl; exact hts ha⟩
          · intro y hy
            rcases List.mem_append.mp hy with hy | hy
            · exact F5.box y hy
            · rw [List.mem_singleton] at hy; subst hy; exact ⟨hs2, hs3⟩
        | false =>
          refine Br.ff ?_
          walk_at "m"
          refine SP_mAppend s5 ?_
          dsimp only
          walk_at "m"
          refine SP_newTuple (fun q2 hq2 => ?_) (sz (by simp))
          have nq2 : S ≠ q2 := by (first | exact neH hq2 s5 (by intro e_; cases e_) | exact Ne.symm (neH hq2 s5 (by intro e_; cases e_)) | (rintro rfl; rw [s5] at hq2; cases hq2))
          walk_at "m"
          refine SP_append (by rw [upd_ne nq2]; exact s5) (sz (by simp at hl5 hl4; omega)) ⟨trivial, ?_⟩
          have k6 : Keep [F, D, S] N3 (upd (upd N5 q2 (tupObj [.int t tk, .bool true])) S (lst (vs' ++ [.ref q2]) (m + 1 + 1))) := (k5.trans (Keep.new hq2)).trans (Keep.chg (by simp))
          have s6 : upd (upd N5 q2 (tupObj [.int t tk, .bool true])) S (lst (vs' ++ [.ref q2]) (m + 1 + 1)) S = some (lst (vs' ++ [.ref q2]) (m + 1 + 1)) := upd_self ..
          have st6 : Stks (upd (upd N5 q2 (tupObj [.int t tk, .bool true])) S (lst (vs' ++ [.ref q2]) (m + 1 + 1))) (vs' ++ [.ref q2]) ((t, true) :: st) :=
            .push (st5.keep ((TupKeep.new hq2).trans (TupKeep.chg (o := lst vs' (m + 1)) (by rw [upd_ne nq2]; exact s5) (lst_nt _ _)))) (by rw [upd_ne nq2.symm, upd_self])
          have F6 : Fnd w rows.length F D (upd (upd N5 q2 (tupObj [.int t tk, .bool true])) S (lst (vs' ++ [.ref q2]) (m + 1 + 1))) s := F5.keep fun a o e h => by
            rw [upd_ne, upd_old e hq2]
            intro q_; rcases h with h | h
            · exact hSF (q_.symm.trans h)
            · exact hSD (q_.symm.trans h)
          generalize upd (upd N5 q2 (tupObj [.int t tk, .bool true])) S (lst (vs' ++ [.ref q2]) (m + 1 + 1)) = N6 at k6 s6 st6 F6
          have hA6 := bank N6 k6
          have hO6 := hA6.o
          obtain ⟨k, hk⟩ : ∃ k, rowOf rows t = some k := ⟨_, List.getElem?_eq_getElem (show (t - 1).toNat < rows.length by omega)⟩
          have hks := h3 k (List.mem_of_getElem? hk)
          refine e3_3 (hA6.argAt hs2 hk) ?_
          intro va na b hav hvb hz0_
          refine e1_2 hz0_ ?_
          try clear hz0_
          intro vb hb ib
          have hkd := hd t k hs2 hk
          walk_at "m"
          refine SP_For ok (by walk_at "m_rfl") ?_ (fun _ => rfl)
          walk_at "m"
          refine SP_itemL hav (LO.lst _ _) (by first | exact Nat.le_refl _ | exact leK rfl | omega) (by first | exact Nat.le_refl _ | exact leK rfl | omega) hvb ?_ (by walk_at "m_rfl")
          walk_at "m"
          refine SP_revT hb (by rw [ib.length]; omega) fun R hR => ?_
          refine SP_iterRev ok [(Str.ofString "stack", .ref S), (Str.ofString "found", .ref F), (Str.ofString "done", .ref D), (Str.ofString "some", .ref a), (Str.ofString "self", .ref A.x)]
            (fun i N' => Keep [S] N6 N' ∧ ∃ vs m, N' S = some (lst vs m) ∧ Stks N' vs ((((k.args.reverse.take i).reverse).filter fun x => !(s.contains x)).map (·, false) ++ (t, true) :: st)) hb ib (by rw [ib.length]; omega) hR (by walk_at "m_has") (by exact rfl) ⟨Keep.refl _ _, _, _, s6, st6⟩ ?_ ?_ ?_ ?_
          · intro i N₁ N₂ ho hz_
            refine e0_2 hz_ ?_
            try clear hz_
            intro hK hz0_
            refine e2_2 hz0_ ?_
            try clear hz0_
            intro vs m e hs
            refine ⟨fun a o ea hna => ho.2 a o (hK a o ea hna) ?_, vs, m, ho.2 _ _ e ?_, hs.keep ho.1.tup⟩
            · (first | exact neH ea hR (by intro e_; cases e_) | exact Ne.symm (neH ea hR (by intro e_; cases e_)) | (rintro rfl; rw [hR] at ea; cases ea))
            · (first | exact neH s6 hR (by intro e_; cases e_) | exact Ne.symm (neH s6 hR (by intro e_; cases e_)) | (rintro rfl; rw [hR] at s6; cases s6))
          · intro i N' hz_
            refine e0_2 hz_ ?_
            try clear hz_
            intro hK _
            exact hK _ _ hb (by simp only [List.mem_singleton]; exact tupNe s6 hb)
          · intro oR i x tx N7 hx ieR hRo hz_
            refine e0_2 hz_ ?_
            try clear hz_
            intro hK7 hz0_
            refine e2_2 hz0_ ?_
            try clear hz0_
            intro vs7 m7 e7 hs7
            have F7 : Fnd w rows.length F D N7 s := F6.keep fun a o e h => hK7 a o e (by
              simp only [List.mem_singleton]
              intro q_; rcases h with h | h
              · exact hSF (q_.symm.trans h)
              · exact hSD (q_.symm.trans h))
            walk_at "m"
            refine SP_kNotIn F7.d ?_
            walk_at "m"
            have nRS : R ≠ S := by (first | exact neH s6 hR (by intro e_; cases e_) | exact Ne.symm (neH s6 hR (by intro e_; cases e_)) | (rintro rfl; rw [hR] at s6; cases s6))
            have hl7 := hs7.len
            have hl8 : ((k.args.reverse.take i).reverse.filter fun x => !(s.contains x)).length ≤ 3 := Nat.le_trans (List.length_filter_le _ _) (by simp; omega)
            by_cases hxs : x ∈ s
            · refine Br.of_ff (by first | exact nm1 hxs | exact nm1 (Ne.symm hxs) | simpa using hxs) ?_
              walk_at "m"
              refine TurnEnd.next hRo ⟨by walk_at "m_has", hK7, vs7, m7, e7, ?_⟩
              rw [rev_take hx, List.filter_cons_of_neg (by first | exact nm1 hxs | exact nm1 (Ne.symm hxs) | simpa using hxs)]
              exact hs7
            · refine Br.of_tt (by first | exact nm1 hxs | exact nm1 (Ne.symm hxs) | simpa using hxs) ?_
              walk_at "m"
              refine SP_mAppend e7 ?_
              dsimp only
              walk_at "m"
              refine SP_newTuple (fun q3 hq3 => ?_) (sz (by simp))
              have nq3 : S ≠ q3 := by (first | exact neH hq3 e7 (by intro e_; cases e_) | exact Ne.symm (neH hq3 e7 (by intro e_; cases e_)) | (rintro rfl; rw [e7] at hq3; cases hq3))
              have nR3 : R ≠ q3 := by (first | exact neH hq3 hRo (by intro e_; cases e_) | exact Ne.symm (neH hq3 hRo (by intro e_; cases e_)) | (rintro rfl; rw [hRo] at hq3; cases hq3))
              walk_at "m"
              refine SP_append (by rw [upd_ne nq3]; exact e7) (sz (by rw [hl7, List.length_append, List.length_map, List.length_cons]; rw [List.length_cons] at hl4; omega)) ⟨trivial, ?_⟩
              walk_at "m"
              refine TurnEnd.next (by rw [upd_ne nRS, upd_ne nR3]; exact hRo) ⟨by walk_at "m_has", (hK7.trans (Keep.new hq3)).trans (Keep.chg (by simp)), _, _, upd_self .., ?_⟩
              rw [rev_take hx, List.filter_cons_of_pos (by first | exact nm1 hxs | exact nm1 (Ne.symm hxs) | simpa using hxs)]
              refine .push (hs7.keep ((TupKeep.new hq3).trans (TupKeep.chg (o := lst vs7 m7) (by rw [upd_ne nq3]; exact e7) (lst_nt _ _)))) (tk := tx) (by rw [upd_ne nq3.symm, upd_self])
          · intro l'' N7 hl'' hz_
            refine e0_2 hz_ ?_
            try clear hz_
            intro hK7 hz0_
            refine e2_2 hz0_ ?_
            try clear hz0_
            intro vs7 m7 e7 hs7
            refine Nx.next (SP.has hl'' ?_)
            walk_at "m"
            have ea : (k.args.reverse.take k.args.length).reverse = k.args := by rw [← List.length_reverse, List.take_length, List.reverse_reverse]
            rw [ea] at hs7
            have hfl : ∀ x ∈ k.args.filter (fun x => !(s.contains x)), 1 ≤ x ∧ x < t := fun x hx => hkd x (List.mem_filter.mp hx).1
            have hf3 : (k.args.filter fun x => !(s.contains x)).length ≤ 3 := Nat.le_trans (List.length_filter_le _ _) hks
            refine WhEnd.next _ (mu_split hs2 hfl hf3) ⟨by walk_at "m_has", k6.trans (hK7.sub (by simp)), vs7, m7, _, s, e7, hs7, rfl, Stk.split ⟨hs1, hs2, hs3, hs4⟩ hfl hf3, ?_, F6.keep fun a o e h => hK7 a o e (by
              simp only [List.mem_singleton]
              intro q_; rcases h with h | h
              · exact hSF (q_.symm.trans h)
              · exact hSD (q_.symm.trans h))⟩
            rw [evS_split hd hs2 hts hk, hev]
  · intro l' N' hl' hz_
    refine e0_2 hz_ ?_
    try clear hz_
    intro hK hFn
    refine Nx.next (SP.has hl' ?_)
    walk_at "m"
    rw [List.take_length] at hFn
    refine e2_2 hFn.f ?_
    intro vs n e hi
    refine ⟨F, vs, n, rfl, hF, e, hi, fun a' o e' _ => hK a' o (k0 a' o e' (by simp)) ?_⟩
    simp only [List.mem_cons, List.not_mem_nil, or_false, not_or]
    refine ⟨?_, ?_⟩
    · exact neH e' hF (by intro e_; cases e_)
    · exact neH e' hD0 (by intro e_; cases e_)
end parts_of_all_spec_c
theorem parts_of_all_spec {w : World} {N : Hl} {A : BnkA} {rows : Rws} {a : Addr} {roots : List Int} (r : Nat) (hA : BankIn w N A rows) (ha : SeqI N a roots) (hr : ∀ t ∈ roots, 1 ≤ t ∧ t ≤ rows.length) (hd : Dag rows) (h3 : ∀ k ∈ rows, k.args.length ≤ 3) (hz : rows.length < 1000) :
    Calls w 279 [.ref A.x, .ref a] N (r + 1) (fun v N' => ∃ q vs n, v = .ref q ∧ N q = none ∧ N' q = some (lst vs n) ∧ IntsAre vs (roots.foldl (fun s t => dn rows t s) []) ∧ Keep [] N N') :=
  pickAll (P := fun q : World × Hl × BnkA × Rws × Addr × List Int × Nat => parts_of_all_spec_c.P q.1 q.2.1 q.2.2.1 q.2.2.2.1 q.2.2.2.2.1 q.2.2.2.2.2.1 q.2.2.2.2.2.2) (aWorld 0, fun _ => none, ⟨0, 0, [], 0, 0, 0, 0, 0, 0, 0, 0, 0, 0, 0⟩, [], 0, [], 0) (by with_unfolding_all exact parts_of_all_spec_c.core) (w, N, A, rows, a, roots, r) hA ha hr hd h3 hz
end
/-! part Fn13 -/
section
set_option linter.unusedVariables false
theorem BookIn.le {w : World} {N N' : Hl} {B : BkA} {rows : Rws} (h : BookIn w N B rows) (k : Keep [] N N') : BookIn w N' B rows := h.keep fun a o e _ => k a o e (by first | exact nm0 | simp)
theorem parts_spec {w : World} {N : Hl} {A : BnkA} {rows : Rws} {t : Int} {tt : Tok} (r : Nat) (hA : BankIn w N A rows) (h1 : 1 ≤ t) (h2 : t ≤ rows.length) (hd : Dag rows) (h3 : ∀ k ∈ rows, k.args.length ≤ 3) (hz : rows.length < 1000) :
    Calls w 272 [.ref A.x, .int t tt] N (r + 2) (fun v N' => ∃ q vs n, v = .ref q ∧ N' q = some (lst vs n) ∧ IntsAre vs (dn rows t []) ∧ Keep [] N N') := by
  refine' enter [(Str.ofString "self", .ref A.x), (Str.ofString "t", .int t tt)] [(Str.ofString "t", .int t tt), (Str.ofString "self", .ref A.x)] ?ho ?hcd ?hb ?hl ?c1 ?c2 ?c3 ?c4 ?c5 ?_
  walk_at "m_ent"
  intro C ok
  have hO := hA.o
  walk_at "m"
  refine SP_newTuple (fun q hq => ?_) (sz (by simp))
  have hA1 : BankIn w (upd N q (tupObj [.int t tt])) A rows := hA.new hq
  have hT : SeqI (upd N q (tupObj [.int t tt])) q [t] := .inr ⟨_, upd_self .., .cons t tt .nil⟩
  walk_at "m"
  refine SP_use ok (parts_of_all_spec r hA1 hT (by intro t ht; rw [List.mem_singleton] at ht; subst t; exact ⟨h1, h2⟩) hd h3 hz) (by first | exact Nat.le_refl _ | exact leK rfl | omega) (fun v N' hz_ => ?_)
  refine e3_5 hz_ ?_
  try clear hz_
  intro q' vs n e _ e1 hi hK
  walk_at "m"
  exact ⟨q', vs, n, e, e1, hi, (Keep.new hq).trans hK⟩

namespace is_found_spec_c
def P (w : World) (N : Hl) (A : BnkA) (B : BkA) (k : Sh) (a : Addr) (b : Addr) (t1 : Tok) (t2 : Tok) (t3 : Tok) (r : Nat) : Prop := ∀ (rows : Rws) (hA : BankIn w N A rows) (hB : BookIn w N B rows) (hk : N a = some (tupObj [.str k.op t1, .ref b, .int k.kind t2, .int k.data t3])) (hb : TupI N b k.args) (ho : OpOk k) (hz : rows.length < 1000), Calls w 450 [.ref A.x, .ref B.b, .ref a] N (r + 2) (fun v N' => v = .bool true ∧ Keep [] N N')
noncomputable def V : World × Hl × BnkA × BkA × Sh × Addr × Addr × Tok × Tok × Tok × Nat := pick (aWorld 0, fun _ => none, ⟨0, 0, [], 0, 0, 0, 0, 0, 0, 0, 0, 0, 0, 0⟩, ⟨0, 0, 0⟩, ⟨Str.empty, [], 0, 0⟩, 0, 0, 0, 0, 0, 0) fun q => P q.1 q.2.1 q.2.2.1 q.2.2.2.1 q.2.2.2.2.1 q.2.2.2.2.2.1 q.2.2.2.2.2.2.1 q.2.2.2.2.2.2.2.1 q.2.2.2.2.2.2.2.2.1 q.2.2.2.2.2.2.2.2.2.1 q.2.2.2.2.2.2.2.2.2.2
@[irreducible] noncomputable def w : World := V.1
@[irreducible] noncomputable def N : Hl := V.2.1
@[irreducible] noncomputable def A : BnkA := V.2.2.1
@[irreducible] noncomputable def B : BkA := V.2.2.2.1
@[irreducible] noncomputable def k : Sh := V.2.2.2.2.1
@[irreducible] noncomputable def a : Addr := V.2.2.2.2.2.1
@[irreducible] noncomputable def b : Addr := V.2.2.2.2.2.2.1
@[irreducible] noncomputable def t1 : Tok := V.2.2.2.2.2.2.2.1
@[irreducible] noncomputable def t2 : Tok := V.2.2.2.2.2.2.2.2.1
@[irreducible] noncomputable def t3 : Tok := V.2.2.2.2.2.2.2.2.2.1
@[irreducible] noncomputable def r : Nat := V.2.2.2.2.2.2.2.2.2.2
theorem core : P w N A B k a b t1 t2 t3 r := by
  unfold P
  intro rows hA hB hk hb ho hz
  refine' enter [(Str.ofString "bank_now", .ref A.x), (Str.ofString "book_now", .ref B.b), (Str.ofString "shape", .ref a)] [(Str.ofString "shape", .ref a), (Str.ofString "book_now", .ref B.b), (Str.ofString "bank_now", .ref A.x)] ?ho ?hcd ?hb ?hl ?c1 ?c2 ?c3 ?c4 ?c5 ?_
  walk_at "m_ent"
  refine pickC ?_
  intro ok
  have hO := hA.o
  walk_at "m"
  refine SP_use ok (size_spec r hA hz) (by first | exact Nat.le_refl _ | exact leK rfl | omega) (fun v N' hz_ => ?_)
  refine e0_2 hz_ ?_
  try clear hz_
  intro hy0_ eN
  obtain ⟨tb, e⟩ := hy0_
  subst e eN
  walk_at "m"
  refine SP_itemT hk (by decide) (by decide) rfl ?_ (by walk_at "m_rfl")
  walk_at "m"
  refine SP_itemT hk (by decide) (by decide) rfl ?_ (by walk_at "m_rfl")
  walk_at "m"
  refine SP_itemT hk (by decide) (by decide) rfl ?_ (by walk_at "m_rfl")
  walk_at "m"
  refine SP_itemT hk (by decide) (by decide) rfl ?_ (by walk_at "m_rfl")
  walk_at "m"
  refine SP_use ok (find_spec r hA hb ho hz) (by first | exact Nat.le_refl _ | exact leK rfl | omega) (fun v N' hz_ => ?_)
  refine e0_2 hz_ ?_
  try clear hz_
  intro hy0_ hK
  obtain ⟨tf, e⟩ := hy0_
  subst e
  have hB1 := hB.le hK
  have hA1 := hA.le hK
  have hO1 := hA1.o
  have hkT : KeyT N' a k := ⟨t1, b, t2, t3, hK _ _ hk (by first | exact nm0 | simp), hb.keep (hK.tup (by simp))⟩
  walk_at "m"
  refine SP_sItem hB1.dicB (bookF_nums B) ?_ (by walk_at "m_rfl")
  walk_at "m"
  refine e1_2 hB1 ?_
  try clear hB1
  intro xs hy1_ hkeys
  obtain ⟨_, _, _, hd, hn⟩ := hy1_
  refine SP_mGet hd ?_
  dsimp only
  walk_at "m"
  refine SP_dGet ok hd hkT ho ?_
  have key : ∀ t0 : Tok, ∃ u, ((atKey xs k).map (·.2)).getD (.int 0 t0) = .int (if k ∈ rows then num rows k else 0) u := fun t0 => by
    subst hkeys
    refine e3_6 hd ?_
    try clear hd
    intro _ _ _ _ _ _ _ _ hnd
    by_cases hm : k ∈ xs.map (·.1)
    · refine e2_1 (atKey_idx hn hnd hm) ?_
      intro a' t' e
      rw [e, if_pos hm]; exact ⟨t', rfl⟩
    · rw [atKey_out hm, if_neg hm]; exact ⟨t0, rfl⟩
  obtain ⟨u, hu⟩ := key _
  rw [hu]
  walk_at "m"
  refine Br.of_tt (by simp) ?_
  walk_at "m"
  refine SP_use ok (size_spec r hA1 hz) (by first | exact Nat.le_refl _ | exact leK rfl | omega) (fun v N' hz_ => ?_)
  refine e0_2 hz_ ?_
  try clear hz_
  intro hy0_ eN
  obtain ⟨tb2, e⟩ := hy0_
  subst e eN
  walk_at "m"
  rw [beq_self_eq_true]
  exact ⟨rfl, hK⟩
end is_found_spec_c
theorem is_found_spec {w : World} {N : Hl} {A : BnkA} {B : BkA} {rows : Rws} {k : Sh} {a b : Addr} {t1 t2 t3 : Tok} (r : Nat) (hA : BankIn w N A rows) (hB : BookIn w N B rows) (hk : N a = some (tupObj [.str k.op t1, .ref b, .int k.kind t2, .int k.data t3])) (hb : TupI N b k.args) (ho : OpOk k) (hz : rows.length < 1000) :
    Calls w 450 [.ref A.x, .ref B.b, .ref a] N (r + 2) (fun v N' => v = .bool true ∧ Keep [] N N') :=
  pickAll (P := fun q : World × Hl × BnkA × BkA × Sh × Addr × Addr × Tok × Tok × Tok × Nat => is_found_spec_c.P q.1 q.2.1 q.2.2.1 q.2.2.2.1 q.2.2.2.2.1 q.2.2.2.2.2.1 q.2.2.2.2.2.2.1 q.2.2.2.2.2.2.2.1 q.2.2.2.2.2.2.2.2.1 q.2.2.2.2.2.2.2.2.2.1 q.2.2.2.2.2.2.2.2.2.2) (aWorld 0, fun _ => none, ⟨0, 0, [], 0, 0, 0, 0, 0, 0, 0, 0, 0, 0, 0⟩, ⟨0, 0, 0⟩, ⟨Str.empty, [], 0, 0⟩, 0, 0, 0, 0, 0, 0) (by with_unfolding_all exact is_found_spec_c.core) (w, N, A, B, k, a, b, t1, t2, t3, r) rows hA hB hk hb ho hz
end
/-! part Sp15 -/
section
section
variable {w : World} {C : Cx} {α β : Type} {l : Ls} {N N' : Hl} {env : Env} {r : Nat}
abbrev emptyD : Obj := { cls := .type "dict", data := .dict #[] }
theorem SP_Dict2S {x y : Str} {n1 n2 : Nat} {p1 p2 pos : Pos} {v1 v2 : Expr} {Q : Value → Ls → Hl → Prop} (hxy : x ≠ y)
    (h : ∀ d, N d = none → SP w C (eval v1 env) l (upd N d emptyD) (fun u1 l1 N1 => SP w C (eval v2 env) l1 N1 (fun u2 l2 N2 => N2 d = some emptyD ∧ ∀ o, o.IsDictOf (SK w) [(x, u1), (y, u2)] → Q (.ref d) l2 (upd N2 d o)))) :
    SP w C (eval (.Dict [some (.Constant (.str x) n1 p1), some (.Constant (.str y) n2 p2)] [v1, v2] pos) env) l N Q := fun s hl hN => by
  refine wpAny_Dict_walk (knd := SK w) rfl rfl (by simp) (by simp) ?_
  refine pairTrees_cons_walk (Constant_str ?_)
  refine (h _ hN.fresh).run (s := { s with heap := s.heap.push emptyD, toks := s.toks + 1 }) (hl.push _) (hN.push hl _) fun u1 h1 tk1 l1 N1 x1 y1 z1 => ?_
  refine pairTrees_cons_walk (Constant_str ?_)
  refine z1.run (s := { s with heap := h1, toks := tk1 + 1 }) x1 y1 fun u2 h2 tk2 l2 N2 x2 y2 z2 => ?_
  refine pairTrees_nil_walk ?_
  refine e0_2 z2 ?_
  try clear z2
  intro e hq
  have ye := y2 _ _ e
  refine ⟨[(x, u1), (y, u2)], ⟨strKind_is PG w x _, rfl, strKind_is PG w y _, rfl, trivial⟩, ?_, fun h' hm hs => ?_⟩
  · refine e1_2 (Heap.dictOf_iff.mp (Heap.DictOf.new (knd := SK w) s.heap)) ?_
    intro o ho hd
    rw [Heap.get?_push_size _ rfl] at ho
    have e0 := Option.some.inj ho
    rw [← e0] at hd
    exact Heap.dictOf_iff.mpr ⟨_, ye.1, hd⟩
  · have em : merged [] [(x, u1), (y, u2)] = [(x, u1), (y, u2)] := by
      have hb : (decide (x = y)) = false := decide_eq_false hxy
      simp [merged, stored, hxy]
    rw [em] at hm
    refine e1_2 (Heap.dictOf_iff.mp hm) ?_
    intro o' ho' hd'
    exact Po.intro (x2.same hs ye.2.1 ye.2.2.1) (y2.upd e hs ho') (hq o' hd')
theorem DicF.ofS {d : Addr} {o : Obj} {kvs : List (Str × Value)} (e : N d = some o) (h : o.IsDictOf (SK w) kvs) (hz : kvs.length ≤ 4096) : DicF (SK w) N d (valueAt kvs) := by
  refine e2_5 h ?_
  try clear h
  intro es ep hc hd hk hp hn
  refine ⟨o, es, ep, e, hc, hd, hk, fun k => ?_, ?_⟩
  · rw [← hp.find k]
    obtain ⟨l⟩ := es
    simp [findBy]
  · have e1 := hp.length
    have e2 : es.toList.length = es.size := by simp
    omega
/-- stores into two names of any kind -/
theorem SP_unpack2 (ok : Ok w C env r) {x y : Str} {px py : Pos} {k : Nat} {pos : Pos} {a : Addr} {u v : Value} {Q : Unit → Ls → Hl → Prop} (e : N a = some (tupObj [u, v]))
    (h : SP w C (storeName env x u) l N (fun _ l' N' => SP w C (storeName env y v) l' N' Q)) : SP w C (assign (.Tuple [.Name x px, .Name y py] k pos) env (.ref a)) l N Q := by
  intro s hl hN
  rw [PyProof.Rows.assign_Tuple]
  refine wpAny_bind (wpAny_standAt ?_)
  unfold PySem.unpack
  refine wpAny_bind (wpAny_holding ?_)
  refine unpackItems_tuple (items := #[u, v]) ok.hh (isTup_at (hN _ _ e).1) fun h' hs' => ?_
  show wpAny _ _ (assignInOrder [assign (.Name x px) env, assign (.Name y py) env] [u, v]) _ _ _
  refine assignInOrder_cons (assign_Name (h.run (s := { s with heap := h' }) (hl.fresh hs') (hN.fresh' hs') fun _ h₁ tk₁ l₁ N₁ x₁ y₁ z₁ => ?_))
  refine assignInOrder_cons (assign_Name (z₁.run x₁ y₁ fun _ h₂ tk₂ l₂ N₂ x₂ y₂ z₂ => ?_))
  exact assignInOrder_nil (Po.intro x₂ y₂ z₂)
/-- a slice of a list that stood before the call -/
theorem SP_sliceBase {a : Addr} {vs : List Value} {value upper : Expr} {p pos : Pos} {Q : Value → Ls → Hl → Prop} (hb : C.h₀.IsList a vs.toArray) (hz : vs.length ≤ 4096)
    (h : SP w C (eval value env) l N (fun o l' N' => o = .ref a ∧ SP w C (eval upper env) l' N' (fun u l'' N'' => ∃ k tu, u = .int k tu ∧ 0 ≤ k ∧ ∀ q N3, Keep [] N'' N3 → N'' q = none → N3 q = some (lst (vs.take k.toNat) 0) → Q (.ref q) l'' N3)))
    (ht : ∀ o r, letTemporaryGo value o r = pure () := by intro _ _; rfl) : SP w C (eval (.Subscript value (.Slice none (some upper) none p) pos) env) l N Q := fun s hl hN => by
  refine wpAny_Subscript_list_slice (h.run hl hN fun o h₁ tk₁ l₁ N₁ x₁ y₁ z₁ => wpAny_evalPart_none (wpAny_evalPart_some (z₁.2.run x₁ y₁ fun u h₂ tk₂ l₂ N₂ x₂ y₂ z₂ => ?_))) ht
  refine e2_3 z₂ ?_
  intro k tu hy2_ h0 hq
  subst hy2_
  refine e1_3 hb ?_
  try clear hb
  intro ob eb hcb hz0_
  refine e1_1 hz0_ ?_
  try clear hz0_
  intro nb hdb
  refine ⟨a, vs.toArray, none, some k, z₁.1, ⟨ob, x₂.keep eb, hcb, nb, hdb⟩, by simpa using sz hz, .none, .int k tu, ?_⟩
  have hk : slicePick vs.toArray none (some k) none = (vs.take k.toNat).toArray := by
    have := slicePick_upto' vs.toArray k.toNat
    rw [Int.toNat_of_nonneg h0] at this
    simpa using this
  rw [hk]
  have x3 := x₂.push ({ cls := .type "slice", data := .fields #[.none, .int k tu, .none] } : Obj)
  have y3 := y₂.push x₂ ({ cls := .type "slice", data := .fields #[.none, .int k tu, .none] } : Obj)
  have f3 := y₂.fresh
  have f4 := y3.fresh
  have e1 : (h₂.push ({ cls := .type "slice", data := .fields #[.none, .int k tu, .none] } : Obj)).objs.size = h₂.objs.size + 1 := Heap.size_push ..
  have y4 := y3.push x3 ({ cls := .type "list", data := .seq (vs.take k.toNat).toArray } : Obj)
  have x4 := x3.push ({ cls := .type "list", data := .seq (vs.take k.toNat).toArray } : Obj)
  rw [← e1]
  refine Po.intro x4 y4 (hq _ _ (((Keep.new f3).trans (Keep.new f4))) ?_ (upd_self ..))
  rw [upd_ne (by rw [e1]; exact Nat.succ_ne_self _)] at f4
  exact f4
end
end
/-! part Pw -/
section
abbrev sTrue : Str := Str.ofString "true"
abbrev sFalse : Str := Str.ofString "false"
def RowOk (rows : Rws) (i : Nat) (k : Sh) : Prop :=
  OpOk k ∧ (k.kind = 0 ∨ k.kind = 3) ∧ k.args.length ≤ 3 ∧ (∀ x ∈ k.args, 1 ≤ x ∧ x ≤ i) ∧ (k.op = sNot → ∃ x, k.args = [x] ∧ Typed rows 0 x) ∧ (k.op = sEq → ∃ x y s, k.args = [x, y] ∧ Typed rows s x ∧ Typed rows s y)
structure WF (rows : Rws) : Prop where
  one : rows[0]? = some ⟨sTrue, [], 0, 0⟩
  two : rows[1]? = some ⟨sFalse, [], 0, 0⟩
  nd : rows.Nodup
  rk : ∀ i k, rows[i]? = some k → RowOk rows i k
/-- rows' goes on from rows -/
def Ext (rows rows' : Rws) : Prop := ∃ e, rows' = rows ++ e ∧ e.length ≤ 1
theorem Ext.refl (rows : Rws) : Ext rows rows := ⟨[], by simp, by simp⟩
theorem Ext.get {rows rows' : Rws} (h : Ext rows rows') {i : Nat} {k : Sh} (e : rows[i]? = some k) : rows'[i]? = some k := by
  refine e1_2 h ?_
  try clear h
  intro x hy1_ _
  subst hy1_
  rw [List.getElem?_append_left (List.getElem?_eq_some_iff.mp e).1]; exact e
theorem Ext.row {rows rows' : Rws} (h : Ext rows rows') {t : Int} {k : Sh} (e : rowOf rows t = some k) : rowOf rows' t = some k := h.get e
theorem Ext.len {rows rows' : Rws} (h : Ext rows rows') : rows.length ≤ rows'.length ∧ rows'.length ≤ rows.length + 1 := by
  refine e1_2 h ?_
  try clear h
  intro x hy1_ hx
  subst hy1_
  rw [List.length_append]; omega
theorem Typed.ext {rows rows' : Rws} {s t : Int} (h : Typed rows s t) (e : Ext rows rows') : Typed rows' s t := ⟨h.1, let ⟨k, a, b⟩ := h.2; ⟨k, e.row a, b⟩⟩
theorem Typed.le {rows : Rws} {s t : Int} (h : Typed rows s t) : t ≤ rows.length := by
  refine e0_2 h ?_
  try clear h
  intro h1 hz0_
  refine e1_2 hz0_ ?_
  try clear hz0_
  intro k hk _
  have := row_lt hk; omega
theorem Ext.ent {rows : Rws} {k : Sh} : Ext rows (ent rows k) := by
  unfold Mine.ent
  split
  · exact .refl _
  · exact ⟨[k], rfl, by simp⟩
theorem mem_ent {rows : Rws} {k : Sh} : k ∈ ent rows k := by
  unfold Mine.ent
  split
  · assumption
  · simp
theorem ent_ent {rows : Rws} {k : Sh} : ent (ent rows k) k = ent rows k := if_pos mem_ent
theorem row_num {rows : Rws} {k : Sh} (h : k ∈ rows) : rowOf rows (num rows k) = some k := by
  unfold rowOf num
  have h1 := List.idxOf_lt_length_iff.mpr h
  rw [show ((rows.idxOf k : Int) + 1 - 1).toNat = rows.idxOf k by omega, List.getElem?_eq_getElem h1, List.getElem_idxOf h1]
theorem num_row {rows : Rws} (hn : rows.Nodup) {i : Nat} {k : Sh} (h : rows[i]? = some k) : num rows k = (i : Int) + 1 := by
  unfold num
  have h1 := List.idxOf_lt_length_iff.mpr (List.mem_of_getElem? h)
  have h2 : rows[rows.idxOf k]? = some k := by rw [List.getElem?_eq_getElem h1, List.getElem_idxOf h1]
  obtain ⟨h3, h4⟩ := List.getElem?_eq_some_iff.mp h
  obtain ⟨h5, h6⟩ := List.getElem?_eq_some_iff.mp h2
  have : rows.idxOf k = i := (List.getElem_inj hn).mp (h6.trans h4.symm)
  rw [this]
theorem num_ge (rows : Rws) (k : Sh) : 1 ≤ num rows k := by unfold num; omega
theorem RowOk.ext {rows rows' : Rws} {i : Nat} {k : Sh} (h : RowOk rows i k) (e : Ext rows rows') : RowOk rows' i k := by
  refine e0_6 h ?_
  try clear h
  intro a b c d f g
  exact ⟨a, b, c, d, fun q => let ⟨x, h1, h2⟩ := f q; ⟨x, h1, h2.ext e⟩, fun q => let ⟨x, y, s, h1, h2, h3⟩ := g q; ⟨x, y, s, h1, h2.ext e, h3.ext e⟩⟩
theorem WF.ent {rows : Rws} (h : WF rows) {k : Sh} (hk : RowOk rows rows.length k) : WF (ent rows k) := by
  have e : Ext rows (Mine.ent rows k) := .ent
  by_cases hm : k ∈ rows
  · unfold Mine.ent; rw [if_pos hm]; exact h
  · have he : Mine.ent rows k = rows ++ [k] := if_neg hm
    refine ⟨e.get h.one, e.get h.two, ?_, fun i k' hi => ?_⟩
    · rw [he, List.nodup_append]
      exact ⟨h.nd, by simp, by intro a ha b hb; rw [List.mem_singleton] at hb; subst b; rintro rfl; exact hm ha⟩
    · by_cases hlt : i < rows.length
      · rw [he, List.getElem?_append_left hlt] at hi
        exact (h.rk i k' hi).ext e
      · have : i = rows.length := by
          have := (List.getElem?_eq_some_iff.mp hi).1
          rw [he] at this; simp at this; omega
        subst this
        rw [he] at hi
        simp at hi
        subst hi
        exact hk.ext e
/-- what may be asked for -/
structure DueOk (rows : Rws) (name : Str) (ends : List Int) (kind : Int) : Prop where
  op : PyData.strOk name = true
  kd : kind = 0 ∨ kind = 3
  len : ends.length ≤ 3
  box : ∀ x ∈ ends, 1 ≤ x ∧ x ≤ rows.length
  not : name = sNot → kind = 0 ∧ ∃ x, ends = [x] ∧ Typed rows 0 x
  eq : name = sEq → kind = 0 ∧ ∃ x y s, ends = [x, y] ∧ Typed rows s x ∧ Typed rows s y
  ao : name = sAnd ∨ name = sOr → kind = 0 ∧ ∀ e ∈ ends, Typed rows 0 e
theorem WF.t1 {rows : Rws} (h : WF rows) : Typed rows 0 1 := ⟨by decide, _, h.one, rfl⟩
theorem WF.t2 {rows : Rws} (h : WF rows) : Typed rows 0 2 := ⟨by decide, _, h.two, rfl⟩
structure DueGood (rows : Rws) (name : Str) (ends : List Int) (kind label : Int) (r : Int × Rws) : Prop where
  wf : WF r.2
  ty : Typed r.2 kind r.1
  ext : Ext rows r.2
  again : due r.2 name ends kind label = r
theorem ent1_typed {rows : Rws} {k : Sh} : Typed (ent1 rows k).2 k.kind (ent1 rows k).1 := ⟨num_ge _ _, k, row_num mem_ent, rfl⟩
theorem ent1_again {rows : Rws} {k : Sh} : ent1 (ent1 rows k).2 k = ent1 rows k := by
  show (num (ent (ent rows k) k) k, ent (ent rows k) k) = (num (ent rows k) k, ent rows k)
  rw [ent_ent]
namespace due_good_c
def P (rows : Rws) (name : Str) (label : Int) : Prop := ∀ (h : WF rows) (ends : List Int) (kind : Int) (d : DueOk rows name ends kind), DueGood rows name ends kind label (due rows name ends kind label)
noncomputable def V : Rws × Str × Int := pick ([], Str.empty, 0) fun q => P q.1 q.2.1 q.2.2
@[irreducible] noncomputable def rows : Rws := V.1
@[irreducible] noncomputable def name : Str := V.2.1
@[irreducible] noncomputable def label : Int := V.2.2
theorem core : P rows name label := by
  unfold P
  intro h ends kind d
  by_cases h1 : name = sNot
  · refine e0_2 (d.not h1) ?_
    intro hy0_ hz0_
    subst hy0_
    refine e1_2 hz0_ ?_
    try clear hz0_
    intro x hy1_ hx
    subst hy1_
    have e : ∀ rows, due rows name [x] 0 label = denied rows x := fun rows => by unfold due; rw [if_pos h1]; rfl
    have key : ∀ r, r = denied rows x → WF r.2 ∧ Typed r.2 0 r.1 ∧ Ext rows r.2 ∧ denied r.2 x = r := by
      rintro r rfl
      unfold denied
      by_cases h3 : x < 3
      · rw [if_pos h3]
        refine ⟨h, ?_, .refl _, by rw [if_pos h3]⟩
        have hx1 := hx.1
        obtain rfl | rfl : x = 1 ∨ x = 2 := by omega
        · exact h.t2
        · exact h.t1
      · rw [if_neg h3]
        refine e1_2 hx.2 ?_
        intro k hk hk0
        have hrk := h.rk _ _ hk
        rw [hk]
        dsimp only
        by_cases h4 : k.op = sNot
        · rw [if_pos h4]
          refine e1_2 (hrk.2.2.2.2.1 h4) ?_
          intro y hy ty
          refine ⟨h, ?_, .refl _, ?_⟩
          · rw [hy]; exact ty
          · dsimp only
            rw [if_neg h3, hk]
            dsimp only
            rw [if_pos h4]
        · rw [if_neg h4]
          have hR : RowOk rows rows.length ⟨sNot, [x], 0, 0⟩ := by
            refine ⟨okNot, .inl rfl, by simp, ?_, fun _ => ⟨x, rfl, hx⟩, fun q => ?_⟩
            · intro y hy
              simp only [List.mem_singleton] at hy
              subst hy
              exact ⟨hx.1, hx.le⟩
            · exact absurd (show sNot = sEq from q) (by decide)
          refine ⟨h.ent hR, ent1_typed, .ent, ?_⟩
          rw [if_neg h3]
          have : rowOf (ent1 rows ⟨sNot, [x], 0, 0⟩).2 x = some k := Ext.ent.row hk
          rw [this]
          dsimp only
          rw [if_neg h4]
          exact ent1_again
    refine e0_4 (key _ rfl) ?_
    intro a b c f
    exact ⟨by rw [e]; exact a, by rw [e]; exact b, by rw [e]; exact c, by rw [e, e]; exact f⟩
  · by_cases h2 : (name = sAnd ∨ name = sOr) ∧ ends.length < 2
    · have e : ∀ rows, due rows name ends kind label = (few name ends, rows) := fun rows => by unfold due; rw [if_neg h1, if_pos h2]
      refine e0_2 (d.ao h2.1) ?_
      intro hy0_ tys
      subst hy0_
      refine ⟨by rw [e]; exact h, ?_, by rw [e]; exact .refl _, by rw [e, e]⟩
      rw [e]
      match ends, h2.2, tys with
      | [], _, _ =>
        show Typed rows 0 (if name = sAnd then 1 else 2)
        split
        · exact h.t1
        · exact h.t2
      | [x], _, tys => exact tys x (by simp)
    · by_cases h3 : name = sEq
      · refine e0_2 (d.eq h3) ?_
        intro hy0_ hz0_
        subst hy0_
        refine e3_3 hz0_ ?_
        try clear hz0_
        intro x y s hy3_ hx hy
        subst hy3_
        have e : ∀ rows, due rows name [x, y] 0 label = alike rows x y := fun rows => by unfold due; rw [if_neg h1, if_neg h2, if_pos h3]; rfl
        have key : ∀ r, r = alike rows x y → WF r.2 ∧ Typed r.2 0 r.1 ∧ Ext rows r.2 ∧ alike r.2 x y = r := by
          rintro r rfl
          unfold alike
          by_cases q : x = y
          · rw [if_pos q]
            exact ⟨h, h.t1, .refl _, by rw [if_pos q]⟩
          · rw [if_neg q]
            have hm : Typed rows s (min x y) ∧ Typed rows s (max x y) := by
              rcases Int.le_total x y with hle | hle
              · rw [Int.min_eq_left hle, Int.max_eq_right hle]; exact ⟨hx, hy⟩
              · rw [Int.min_eq_right hle, Int.max_eq_left hle]; exact ⟨hy, hx⟩
            have hR : RowOk rows rows.length ⟨sEq, [min x y, max x y], 0, 0⟩ := by
              refine ⟨okEq, .inl rfl, by simp, ?_, fun q => absurd (show sEq = sNot from q) (by decide), fun _ => ⟨_, _, s, rfl, hm.1, hm.2⟩⟩
              intro z hz
              simp only [List.mem_cons, List.not_mem_nil, or_false] at hz
              (rcases hz with hz | hz <;> subst z)
              · exact ⟨hm.1.1, hm.1.le⟩
              · exact ⟨hm.2.1, hm.2.le⟩
            exact ⟨h.ent hR, ent1_typed, .ent, by rw [if_neg q]; exact ent1_again⟩
        refine e0_4 (key _ rfl) ?_
        intro a b c f
        exact ⟨by rw [e]; exact a, by rw [e]; exact b, by rw [e]; exact c, by rw [e, e]; exact f⟩
      · have e : ∀ rows, due rows name ends kind label = ent1 rows ⟨name, ends, kind, label⟩ := fun rows => by unfold due; rw [if_neg h1, if_neg h2, if_neg h3]
        have hR : RowOk rows rows.length ⟨name, ends, kind, label⟩ := ⟨d.op, d.kd, d.len, d.box, fun q => absurd q h1, fun q => absurd q h3⟩
        exact ⟨by rw [e]; exact h.ent hR, by rw [e]; exact ent1_typed, by rw [e]; exact .ent, by rw [e, e]; exact ent1_again⟩
end due_good_c
theorem due_good {rows : Rws} (h : WF rows) {name : Str} {ends : List Int} {kind label : Int} (d : DueOk rows name ends kind) : DueGood rows name ends kind label (due rows name ends kind label) :=
  pickAll (P := fun q : Rws × Str × Int => due_good_c.P q.1 q.2.1 q.2.2) ([], Str.empty, 0) (by with_unfolding_all exact due_good_c.core) (rows, name, label) h ends kind d
theorem WF.dag {rows : Rws} (h : WF rows) : Dag rows := fun t k h1 hk x hx => by
  have := (h.rk _ _ hk).2.2.2.1 x hx
  omega
theorem WF.len3 {rows : Rws} (h : WF rows) : ∀ k ∈ rows, k.args.length ≤ 3 := fun k hk => by
  refine e1_1 (List.mem_iff_getElem?.mp hk) ?_
  intro i hi
  exact (h.rk _ _ hi).2.2.1
theorem WF.notOk {rows : Rws} (h : WF rows) : NotOk rows where
  one := fun k hk => by
    have : some k = some (⟨sTrue, [], 0, 0⟩ : Sh) := hk.symm.trans h.one
    cases this; show sTrue ≠ sNot; decide
  two := fun k hk => by
    have : some k = some (⟨sFalse, [], 0, 0⟩ : Sh) := hk.symm.trans h.two
    cases this; show sFalse ≠ sNot; decide
  args := fun t k hk q => by
    refine e1_2 ((h.rk _ _ hk).2.2.2.2.1 q) ?_
    intro x hx _
    rw [hx]; simp
theorem box_of {rows : Rws} {s : Int} {l : List Int} (h : ∀ x ∈ l, Typed rows s x) : ∀ x ∈ l, 1 ≤ x ∧ x ≤ rows.length := fun x hx => ⟨(h x hx).1, (h x hx).le⟩
theorem DrawOk.due {rows : Rws} {name : Str} {ends : List Int} {kind label : Int} (d : DrawOk rows name ends kind label) : DueOk rows name ends kind := by
  cases d with
  | not h1 => exact ⟨by decide +kernel, .inl rfl, by simp, box_of (s := 0) (by first | exact nm1 h1 | exact nm1 (Ne.symm h1) | simpa using h1), fun _ => ⟨rfl, _, rfl, h1⟩, fun q => absurd q (by decide), fun q => absurd q (by decide)⟩
  | and h1 h2 => exact ⟨by decide +kernel, .inl rfl, h2, box_of h1, fun q => absurd q (by decide), fun q => absurd q (by decide), fun _ => ⟨rfl, h1⟩⟩
  | or h1 h2 => exact ⟨by decide +kernel, .inl rfl, h2, box_of h1, fun q => absurd q (by decide), fun q => absurd q (by decide), fun _ => ⟨rfl, h1⟩⟩
  | xor h1 h2 => exact ⟨by decide +kernel, .inl rfl, by simp, box_of (s := 0) (by simp; exact ⟨h1, h2⟩), fun q => absurd q (by decide), fun q => absurd q (by decide), fun q => absurd q (by decide)⟩
  | imp h1 h2 => exact ⟨by decide +kernel, .inl rfl, by simp, box_of (s := 0) (by simp; exact ⟨h1, h2⟩), fun q => absurd q (by decide), fun q => absurd q (by decide), fun q => absurd q (by decide)⟩
  | eq h1 h2 => exact ⟨by decide +kernel, .inl rfl, by simp, box_of (s := _) (by simp; exact ⟨h1, h2⟩), fun q => absurd q (by decide), fun _ => ⟨rfl, _, _, _, rfl, h1, h2⟩, fun q => absurd q (by decide)⟩
  | dis h1 h2 h3 => exact ⟨by decide +kernel, .inl rfl, by simp, box_of (s := 3) (by simp; exact ⟨h1, h2, h3⟩), fun q => absurd q (by decide), fun q => absurd q (by decide), fun q => absurd q (by decide)⟩
  | ite h1 h2 h3 h4 => exact ⟨by decide +kernel, h4, by simp, by
      intro x hx
      simp only [List.mem_cons, List.not_mem_nil, or_false] at hx
      (rcases hx with hx | hx | hx <;> subst x)
      · exact ⟨h1.1, h1.le⟩
      · exact ⟨h2.1, h2.le⟩
      · exact ⟨h3.1, h3.le⟩, fun q => absurd q (by decide), fun q => absurd q (by decide), fun q => absurd q (by decide)⟩
  | app0 h1 => exact ⟨by decide +kernel, .inr rfl, by simp, box_of (s := 3) (by first | exact nm1 h1 | exact nm1 (Ne.symm h1) | simpa using h1), fun q => absurd q (by decide), fun q => absurd q (by decide), fun q => absurd q (by decide)⟩
  | app1 h1 => exact ⟨by decide +kernel, .inl rfl, by simp, box_of (s := 3) (by first | exact nm1 h1 | exact nm1 (Ne.symm h1) | simpa using h1), fun q => absurd q (by decide), fun q => absurd q (by decide), fun q => absurd q (by decide)⟩
end
/-! part Fn14 -/
section
set_option linter.unusedVariables false
theorem SP.gen1 {w : World} {C : Cx} {α : Type} {t : Sem α} {l : Ls} {N : Hl} {Q : α → Ls → Hl → Prop} {q : Addr} {o : Obj} (hq : N q = none) (h : ∀ N', Keep [] N N' → N' q = some o → SP w C t l N' Q) : SP w C t l (upd N q o) Q :=
  h _ (Keep.new hq) (upd_self ..)
theorem SP.gen2 {w : World} {C : Cx} {α : Type} {t : Sem α} {l : Ls} {N : Hl} {Q : α → Ls → Hl → Prop} {q q2 : Addr} {o o2 : Obj} (hq : N q = none) (hq2 : upd N q o q2 = none) (h : ∀ N', Keep [] N N' → N' q = some o → N' q2 = some o2 → SP w C t l N' Q) : SP w C t l (upd (upd N q o) q2 o2) Q :=
  h _ ((Keep.new hq).trans (Keep.new hq2)) (upd_old (upd_self ..) hq2) (upd_self ..)
theorem nin3 {N : Hl} {I D Cc x : Addr} {o : Obj} (hI : N I = none) (hD : N D = none) (hC : N Cc = none) (e : N x = some o) : x ∉ [I, D, Cc] := by
  simp only [List.mem_cons, List.not_mem_nil, or_false, not_or]
  refine ⟨?_, ?_, ?_⟩
  · (first | exact neH e hI (by intro e_; cases e_) | exact Ne.symm (neH e hI (by intro e_; cases e_)) | (rintro rfl; rw [hI] at e; cases e))
  · (first | exact neH e hD (by intro e_; cases e_) | exact Ne.symm (neH e hD (by intro e_; cases e_)) | (rintro rfl; rw [hD] at e; cases e))
  · (first | exact neH e hC (by intro e_; cases e_) | exact Ne.symm (neH e hC (by intro e_; cases e_)) | (rintro rfl; rw [hC] at e; cases e))
theorem neN {N : Hl} {a b : Addr} {o : Obj} (ha : N a = none) (hb : N b = some o) : a ≠ b := by (first | exact neH hb ha (by intro e_; cases e_) | exact Ne.symm (neH hb ha (by intro e_; cases e_)) | (rintro rfl; rw [ha] at hb; cases hb))
theorem FeedIn.cast {N : Hl} {feed X : Addr} {len : Nat} {a b : Int} (h : FeedIn N feed X len a) (e : a = b) : FeedIn N feed X len b := e ▸ h
theorem FeedIn.some {N : Hl} {feed X : Addr} {len : Nat} {a : Int} (h : FeedIn N feed X len a) : ∃ o ox, N feed = some o ∧ N X = some ox := by
  obtain ⟨o, _, ox, _, _, h1, _, h2, _⟩ := h; exact ⟨o, ox, h1, h2⟩
def DrawPost (rows : Rws) (N : Hl) (feed X : Addr) (len : Nat) (spot : Int) (v : Value) (N' : Hl) : Prop :=
  ∃ q name t1 en vs n ends isT label t2 spot', v = .ref q ∧ N' q = some (tupObj [.str name t1, .ref en, .bool isT, .int label t2]) ∧ N' en = some (lst vs n) ∧ N en = none ∧ IntsAre vs ends ∧
      DrawOk rows name ends (if isT then 0 else 3) label ∧ FeedIn N' feed X len spot' ∧ spot ≤ spot' ∧ spot' ≤ spot + 20 ∧ Keep [feed] N N'
theorem draw_fin {rows : Rws} {way : Int} {cnt : Nat} {nm : Str} {es : List Int} (w0 : 0 ≤ way) (w8 : way ≤ 8) (w6 : way ≠ 6) (ecnt : [1, 3, 3, 2, 2, 2, 3, 2, 3, 1, 1][way.toNat]? = some cnt)
    (enm : [sNot, sAnd, sOr, sXor, sImp, sEq, Str.ofString "", sEq, sIte][way.toNat]? = some nm) (les : if way = 1 ∨ way = 2 then es.length ≤ 3 else es.length = cnt) (tes : ∀ e ∈ es, Typed rows (if way ∈ [5, 6, 9, 10] then 3 else 0) e) : DrawOk rows nm es 0 0 := by
  obtain rfl | rfl | rfl | rfl | rfl | rfl | rfl | rfl : way = 0 ∨ way = 1 ∨ way = 2 ∨ way = 3 ∨ way = 4 ∨ way = 5 ∨ way = 7 ∨ way = 8 := by omega
  · cases ecnt; cases enm
    match es, les, tes with
    | [x], _, tes => exact .not (tes x (by simp))
    | [], h, _ => simp at h
    | _ :: _ :: _, h, _ => simp at h
  · cases ecnt; cases enm
    exact .and tes les
  · cases ecnt; cases enm
    exact .or tes les
  · cases ecnt; cases enm
    match es, les, tes with
    | [x, y], _, tes => exact .xor (tes x (by simp)) (tes y (by simp))
    | [], h, _ => simp at h
    | [_], h, _ => simp at h
    | _ :: _ :: _ :: _, h, _ => simp at h
  · cases ecnt; cases enm
    match es, les, tes with
    | [x, y], _, tes => exact .imp (tes x (by simp)) (tes y (by simp))
    | [], h, _ => simp at h
    | [_], h, _ => simp at h
    | _ :: _ :: _ :: _, h, _ => simp at h
  · cases ecnt; cases enm
    match es, les, tes with
    | [x, y], _, tes => exact .eq (tes x (by simp)) (tes y (by simp))
    | [], h, _ => simp at h
    | [_], h, _ => simp at h
    | _ :: _ :: _ :: _, h, _ => simp at h
  · cases ecnt; cases enm
    match es, les, tes with
    | [x, y], _, tes => exact .eq (tes x (by simp)) (tes y (by simp))
    | [], h, _ => simp at h
    | [_], h, _ => simp at h
    | _ :: _ :: _ :: _, h, _ => simp at h
  · cases ecnt; cases enm
    match es, les, tes with
    | [x, y, z], _, tes => exact .ite (tes x (by simp)) (tes y (by simp)) (tes z (by simp)) (.inl rfl)
    | [], h, _ => simp at h
    | [_], h, _ => simp at h
    | [_, _], h, _ => simp at h
    | _ :: _ :: _ :: _ :: _, h, _ => simp at h
theorem fresh_kp {N N' : Hl} {feed D : Addr} {o : Obj} (k : Keep [feed] N N') (h : N' D = none) (hf : N' feed = some o) : N D = none := by
  cases e : N D with
  | none => rfl
  | some x =>
    have nf : D ≠ feed := neN h hf
    have := k _ _ e (by first | exact nm1 nf | exact nm1 (Ne.symm nf) | simpa using nf)
    rw [h] at this; cases this
theorem neI_feed {N : Hl} {feed X T : Addr} {len : Nat} {spot : Int} {vT : List Value} {nT : Nat} {Ts : List Int} (hf : FeedIn N feed X len spot) (hT : N T = some (lst vT nT)) (iT : IntsAre vT Ts) : T ≠ feed := by
  refine e5_3 hf ?_
  try clear hf
  intro o t _ _ _ h lo _
  rintro rfl
  rw [hT] at h; cases h
  have := LO.inj lo (LO.lst _ _)
  subst this
  cases iT
theorem neK_feed {N : Hl} {feed X K : Addr} {len : Nat} {spot : Int} {i j : Int} {t0 t1 : Tok} {nK : Nat} (hf : FeedIn N feed X len spot) (hK : N K = some (lst [.int i t0, .int j t1] nK)) : K ≠ feed := by
  refine e5_3 hf ?_
  try clear hf
  intro o t _ _ _ h lo _
  rintro rfl
  rw [hK] at h; cases h
  have := LO.inj lo (LO.lst _ _)
  cases this
namespace drawn_spec_c
def P (w : World) (N : Hl) (feed : Addr) (X : Addr) (T : Addr) (G : Addr) (K : Addr) (len : Nat) (spot : Int) (rows : Rws) (vT : List Value) (vG : List Value) (nT : Nat) (nG : Nat) (nK : Nat) (Ts : List Int) (Gs : List Int) (tk0 : Tok) (tk1 : Tok) (r : Nat) : Prop := ∀ (hf : FeedIn N feed X len spot) (h0 : 0 ≤ spot) (h1 : spot < 900000) (hT : N T = some (lst vT nT)) (iT : IntsAre vT Ts) (tT : ∀ t ∈ Ts, Typed rows 0 t) (hG : N G = some (lst vG nG)) (iG : IntsAre vG Gs) (tG : ∀ t ∈ Gs, Typed rows 3 t) (pT : 0 < Ts.length) (pG : 0 < Gs.length) (qT : Ts.length < 1000) (qG : Gs.length < 1000) (hK : N K = some (lst [.int 0 tk0, .int 1 tk1] nK)) (hX : X ≠ feed), Calls w 436 [.ref feed, .ref T, .ref G, .ref K] N (r + 2) (DrawPost rows N feed X len spot)
noncomputable def V : World × Hl × Addr × Addr × Addr × Addr × Addr × Nat × Int × Rws × List Value × List Value × Nat × Nat × Nat × List Int × List Int × Tok × Tok × Nat := pick (aWorld 0, fun _ => none, 0, 0, 0, 0, 0, 0, 0, [], [], [], 0, 0, 0, [], [], 0, 0, 0) fun q => P q.1 q.2.1 q.2.2.1 q.2.2.2.1 q.2.2.2.2.1 q.2.2.2.2.2.1 q.2.2.2.2.2.2.1 q.2.2.2.2.2.2.2.1 q.2.2.2.2.2.2.2.2.1 q.2.2.2.2.2.2.2.2.2.1 q.2.2.2.2.2.2.2.2.2.2.1 q.2.2.2.2.2.2.2.2.2.2.2.1 q.2.2.2.2.2.2.2.2.2.2.2.2.1 q.2.2.2.2.2.2.2.2.2.2.2.2.2.1 q.2.2.2.2.2.2.2.2.2.2.2.2.2.2.1 q.2.2.2.2.2.2.2.2.2.2.2.2.2.2.2.1 q.2.2.2.2.2.2.2.2.2.2.2.2.2.2.2.2.1 q.2.2.2.2.2.2.2.2.2.2.2.2.2.2.2.2.2.1 q.2.2.2.2.2.2.2.2.2.2.2.2.2.2.2.2.2.2.1 q.2.2.2.2.2.2.2.2.2.2.2.2.2.2.2.2.2.2.2
@[irreducible] noncomputable def w : World := V.1
@[irreducible] noncomputable def N : Hl := V.2.1
@[irreducible] noncomputable def feed : Addr := V.2.2.1
@[irreducible] noncomputable def X : Addr := V.2.2.2.1
@[irreducible] noncomputable def T : Addr := V.2.2.2.2.1
@[irreducible] noncomputable def G : Addr := V.2.2.2.2.2.1
@[irreducible] noncomputable def K : Addr := V.2.2.2.2.2.2.1
@[irreducible] noncomputable def len : Nat := V.2.2.2.2.2.2.2.1
@[irreducible] noncomputable def spot : Int := V.2.2.2.2.2.2.2.2.1
@[irreducible] noncomputable def rows : Rws := V.2.2.2.2.2.2.2.2.2.1
@[irreducible] noncomputable def vT : List Value := V.2.2.2.2.2.2.2.2.2.2.1
@[irreducible] noncomputable def vG : List Value := V.2.2.2.2.2.2.2.2.2.2.2.1
@[irreducible] noncomputable def nT : Nat := V.2.2.2.2.2.2.2.2.2.2.2.2.1
@[irreducible] noncomputable def nG : Nat := V.2.2.2.2.2.2.2.2.2.2.2.2.2.1
@[irreducible] noncomputable def nK : Nat := V.2.2.2.2.2.2.2.2.2.2.2.2.2.2.1
@[irreducible] noncomputable def Ts : List Int := V.2.2.2.2.2.2.2.2.2.2.2.2.2.2.2.1
@[irreducible] noncomputable def Gs : List Int := V.2.2.2.2.2.2.2.2.2.2.2.2.2.2.2.2.1
@[irreducible] noncomputable def tk0 : Tok := V.2.2.2.2.2.2.2.2.2.2.2.2.2.2.2.2.2.1
@[irreducible] noncomputable def tk1 : Tok := V.2.2.2.2.2.2.2.2.2.2.2.2.2.2.2.2.2.2.1
@[irreducible] noncomputable def r : Nat := V.2.2.2.2.2.2.2.2.2.2.2.2.2.2.2.2.2.2.2
theorem core : P w N feed X T G K len spot rows vT vG nT nG nK Ts Gs tk0 tk1 r := by
  unfold P
  intro hf h0 h1 hT iT tT hG iG tG pT pG qT qG hK hX
  refine' enterC [(Str.ofString "feed", .ref feed), (Str.ofString "truths", .ref T), (Str.ofString "things", .ref G), (Str.ofString "calls", .ref K)] [(Str.ofString "calls", .ref K), (Str.ofString "things", .ref G), (Str.ofString "truths", .ref T)] ?ho ?hcd ?hb ?hkind ?hnd ?c1 ?c2 ?c3 ?hl ?_
  case ho => k_is
  case hcd => k_is
  case hb => exact fun s => BindsTo.of_eq rfl
  case hkind =>
    intro n x hx
    simp only [List.mem_cons, List.not_mem_nil, or_false] at hx
    rcases hx with rfl | rfl | rfl | rfl
    · exact .inr ⟨rfl, rfl⟩
    · exact .inl rfl
    · exact .inl rfl
    · exact .inl rfl
  case hnd => decide
  case c1 => exact rfl
  case c2 => exact rfl
  case c3 => exact rfl
  case hl => exact rfl
  intro C N₁ cells ok kN cN cF Y
  refine e2_3 (CellsAre.two (show CellsAre _ [(Str.ofString "some", _), (Str.ofString "feed", _)] _ from Y)) ?_
  intro cs cf hy2_ ds df
  subst hy2_
  replace df : cf.data = .cell (some (.ref feed)) := df
  replace ds : cs.data = .cell none := ds
  have e1 := cN _ (.head _)
  have e2 := cN _ (.tail _ (.head _))
  have f1 := cF _ (.head _)
  have f2 := cF _ (.tail _ (.head _))
  dsimp only at e1 e2 f1 f2
  have hf1 : FeedIn N₁ feed X len spot := hf.keep fun a o e _ => kN a o e (by first | exact nm0 | simp)
  clear Y
  have nfs : feed ≠ C.L + 1 + 1 := by
    refine e5_2 hf ?_
    try clear hf
    intro o _ _ _ _ h _
    (first | exact neH h f1 (by intro e_; cases e_) | exact Ne.symm (neH h f1 (by intro e_; cases e_)) | (rintro rfl; rw [f1] at h; cases h))
  have nff : feed ≠ C.L + 1 := by
    refine e5_2 hf ?_
    try clear hf
    intro o _ _ _ _ h _
    (first | exact neH h f2 (by intro e_; cases e_) | exact Ne.symm (neH h f2 (by intro e_; cases e_)) | (rintro rfl; rw [f2] at h; cases h))
  have nXs : X ≠ C.L + 1 + 1 := by
    refine e5_4 hf ?_
    try clear hf
    intro _ _ o _ _ _ _ h _
    (first | exact neH h f1 (by intro e_; cases e_) | exact Ne.symm (neH h f1 (by intro e_; cases e_)) | (rintro rfl; rw [f1] at h; cases h))
  have nTs : T ≠ C.L + 1 + 1 := by (first | exact neH hT f1 (by intro e_; cases e_) | exact Ne.symm (neH hT f1 (by intro e_; cases e_)) | (rintro rfl; rw [f1] at hT; cases hT))
  have nGs : G ≠ C.L + 1 + 1 := by (first | exact neH hG f1 (by intro e_; cases e_) | exact Ne.symm (neH hG f1 (by intro e_; cases e_)) | (rintro rfl; rw [f1] at hG; cases hG))
  have nTf : T ≠ feed := neI_feed hf hT iT
  have nGf : G ≠ feed := neI_feed hf hG iG
  have nKf : K ≠ feed := neK_feed hf hK
  refine SP_cons ?_
  walk_at "n"
  refine SP_use ok (dip_spec r hf1 h0 (by first | exact Nat.le_refl _ | exact leK rfl | omega) (by decide)) (by first | exact Nat.le_refl _ | exact leK rfl | omega) (fun v N2 hz_ => ?_)
  refine e2_5 hz_ ?_
  try clear hz_
  intro way tw e w0 w1 hf2 hK2
  subst e
  walk_at "n"
  have c2 : N2 (C.L + 1) = some cf := hK2 _ _ e2 (by first | exact nm1 nff.symm | exact nm1 (Ne.symm nff.symm) | simpa using nff.symm)
  have s2 : N2 (C.L + 1 + 1) = some cs := hK2 _ _ e1 (by first | exact nm1 nfs.symm | exact nm1 (Ne.symm nfs.symm) | simpa using nfs.symm)
  have hT2 : N2 T = some (lst vT nT) := hK2 _ _ (kN _ _ hT (by first | exact nm0 | simp)) (by first | exact nm1 nTf | exact nm1 (Ne.symm nTf) | simpa using nTf)
  have hG2 : N2 G = some (lst vG nG) := hK2 _ _ (kN _ _ hG (by first | exact nm0 | simp)) (by first | exact nm1 nGf | exact nm1 (Ne.symm nGf) | simpa using nGf)
  have hKK2 : N2 K = some (lst [.int 0 tk0, .int 1 tk1] nK) := hK2 _ _ (kN _ _ hK (by first | exact nm0 | simp)) (by first | exact nm1 nKf | exact nm1 (Ne.symm nKf) | simpa using nKf)
  refine SP_cons (SP.mono (Q := fun f l' N' => f = .next ∧ l' = [(Str.ofString "way", .int way tw), (Str.ofString "calls", .ref K), (Str.ofString "things", .ref G), (Str.ofString "truths", .ref T)] ∧ Keep [C.L + 1 + 1] N2 N' ∧
    ∃ S vS nS Ss oS, N' (C.L + 1 + 1) = some oS ∧ oS.data = .cell (some (.ref S)) ∧ N' S = some (lst vS nS) ∧ IntsAre vS Ss ∧ 0 < Ss.length ∧ Ss.length < 1000 ∧ S ≠ feed ∧ ∀ t ∈ Ss, Typed rows (if way ∈ [5, 6, 9, 10] then 3 else 0) t) ?_ ?_)
  · walk_at "n"
    refine SP_newTuple (fun q hq => ?_) (sz (by simp))
    walk_at "n"
    refine SP_inIntsT (upd_self ..) (.cons 5 _ (.cons 6 _ (.cons 9 _ (.cons 10 _ .nil)))) ?_
    walk_at "n"
    have nq : C.L + 1 + 1 ≠ q := by (first | exact neH hq s2 (by intro e_; cases e_) | exact Ne.symm (neH hq s2 (by intro e_; cases e_)) | (rintro rfl; rw [s2] at hq; cases hq))
    by_cases hw : way ∈ [5, 6, 9, 10]
    · refine Br.of_tt (by first | exact nm1 hw | exact nm1 (Ne.symm hw) | simpa using hw) ?_
      walk_at "n"
      refine SP_storeCell ok (by walk_at "m_rfl") (by walk_at "m_rfl") (upd_old s2 hq) ds (fun o' ho' => ?_)
      exact ⟨rfl, rfl, (Keep.new hq).trans (Keep.chg (by simp)), G, vG, nG, Gs, o', upd_self .., ho', by rw [upd_ne nGs]; exact upd_old hG2 hq, iG, pG, qG, nGf, by rw [if_pos hw]; exact tG⟩
    · refine Br.of_ff (by first | exact nm1 hw | exact nm1 (Ne.symm hw) | simpa using hw) ?_
      walk_at "n"
      refine SP_storeCell ok (by walk_at "m_rfl") (by walk_at "m_rfl") (upd_old s2 hq) ds (fun o' ho' => ?_)
      exact ⟨rfl, rfl, (Keep.new hq).trans (Keep.chg (by simp)), T, vT, nT, Ts, o', upd_self .., ho', by rw [upd_ne nTs]; exact upd_old hT2 hq, iT, pT, qT, nTf, by rw [if_neg hw]; exact tT⟩
  intro f l3 N3 hz_
  refine e0_4 hz_ ?_
  try clear hz_
  intro hy0_ hy1_ hK3 hz0_
  subst hy0_
  subst hy1_
  refine e5_8 hz0_ ?_
  try clear hz0_
  intro S vS nS Ss oS s3 ds3 hS3 iS pS qS nSf tS
  refine Nx.next ?_
  have c3 : N3 (C.L + 1) = some cf := hK3 _ _ c2 (by first | exact nm0 | simp)
  have hf3 : FeedIn N3 feed X len (spot + 1) := hf2.keep fun a o e h => hK3 a o e (by rcases h with rfl | rfl; simpa using nfs; simpa using nXs)
  have hG3 : N3 G = some (lst vG nG) := hK3 _ _ hG2 (by first | exact nm1 nGs | exact nm1 (Ne.symm nGs) | simpa using nGs)
  have hKK3 : N3 K = some (lst [.int 0 tk0, .int 1 tk1] nK) := hK3 _ _ hKK2 (by simp; (first | exact neH hK f1 (by intro e_; cases e_) | exact Ne.symm (neH hK f1 (by intro e_; cases e_)) | (rintro rfl; rw [f1] at hK; cases hK)))
  obtain ⟨cnt, ecnt⟩ : ∃ cnt : Nat, [1, 3, 3, 2, 2, 2, 3, 2, 3, 1, 1][way.toNat]? = some cnt := by
    have : way.toNat < [1, 3, 3, 2, 2, 2, 3, 2, 3, 1, 1].length := by simp; omega
    exact ⟨_, List.getElem?_eq_getElem this⟩
  have hcnt : cnt ≤ 3 := by
    have := List.mem_of_getElem? ecnt
    simp at this; omega
  refine SP_cons ?_
  refine SP_AssignComp ok ?_ (by walk_at "m_rfl") (by walk_at "m_rfl") (by decide) rfl (by decide) rfl (by walk_at "m_rfl") (fun _ => rfl)
  walk_at "n"
  refine SP_newTuple (fun q hq => ?_) (sz (by simp))
  walk_at "n"
  have hci : ∀ (a b c d e f g h i j k : Tok), ∃ u, [Value.int 1 a, .int 3 b, .int 3 c, .int 2 d, .int 2 e, .int 2 f, .int 3 g, .int 2 h, .int 3 i, .int 1 j, .int 1 k][way.toNat]? = some (.int cnt u) := by
    intro a b c d e f g h i j k
    generalize way.toNat = z at ecnt
    match z, ecnt with
    | 0, e => cases e; exact ⟨_, rfl⟩
    | 1, e => cases e; exact ⟨_, rfl⟩
    | 2, e => cases e; exact ⟨_, rfl⟩
    | 3, e => cases e; exact ⟨_, rfl⟩
    | 4, e => cases e; exact ⟨_, rfl⟩
    | 5, e => cases e; exact ⟨_, rfl⟩
    | 6, e => cases e; exact ⟨_, rfl⟩
    | 7, e => cases e; exact ⟨_, rfl⟩
    | 8, e => cases e; exact ⟨_, rfl⟩
    | 9, e => cases e; exact ⟨_, rfl⟩
    | 10, e => cases e; exact ⟨_, rfl⟩
    | n + 11, e => cases e
  obtain ⟨uc, huc⟩ := hci _ _ _ _ _ _ _ _ _ _ _
  refine SP_itemT (upd_self ..) w0 (by first | exact Nat.le_refl _ | exact leK rfl | omega) huc ?_ (by walk_at "m_rfl")
  walk_at "n"
  refine SP_range fun q2 u2 v2 hq2 => ?_
  refine SP.gen2 hq hq2 fun N4 k4 _ r4 => ?_
  have c4 := k4 _ _ c3 (by first | exact nm0 | simp)
  have s4 := k4 _ _ s3 (by first | exact nm0 | simp)
  have hS4 := k4 _ _ hS3 (by first | exact nm0 | simp)
  have hG4 := k4 _ _ hG3 (by first | exact nm0 | simp)
  have hKK4 := k4 _ _ hKK3 (by first | exact nm0 | simp)
  have hf4 : FeedIn N4 feed X len (spot + 1) := hf3.keep fun a o e _ => k4 a o e (by first | exact nm0 | simp)
  refine e2_2 hf4.some ?_
  intro of4 oX4 ef4 eX4
  have kk : Keep [feed] N N4 := fun a o e hn => k4 _ _ (hK3 _ _ (hK2 _ _ (kN _ _ e (by first | exact nm0 | simp)) hn) (by simp; (first | exact neH e f1 (by intro e_; cases e_) | exact Ne.symm (neH e f1 (by intro e_; cases e_)) | (rintro rfl; rw [f1] at e; cases e)))) (by simp)
  refine SP_compR ok (fun i ys N' => Keep [feed] N4 N' ∧ FeedIn N' feed X len (spot + 1 + i) ∧ ∃ es, IntsAre ys es ∧ es.length = i ∧ ∀ e ∈ es, Typed rows (if way ∈ [5, 6, 9, 10] then 3 else 0) e) r4 (by first | exact Nat.le_refl _ | exact leK rfl | omega) ⟨Keep.refl _ _, hf4.cast (by simp), [], .nil, rfl, by simp⟩ ?_ ?_ ?_
  · intro I D Cc hI hD hC i ys N₁ N₂ hk hz_
    refine e0_3 hz_ ?_
    try clear hz_
    intro a b c
    refine ⟨fun x o e hn => hk x o (a x o e hn) (nin3 hI hD hC e), b.keep fun x o e h => hk x o e ?_, c⟩
    rcases h with rfl | rfl
    · exact nin3 hI hD hC ef4
    · exact nin3 hI hD hC eX4
  · intro I D Cc i t ys N5 oI oC m hI hD hC nD nC nDC hi eI eD eC hm hmx hz_
    refine e0_3 hz_ ?_
    try clear hz_
    intro hk hf5 hz0_
    refine e1_3 hz0_ ?_
    try clear hz0_
    intro es ies les tes
    refine SP_tests0 ⟨rfl, Br.tt ?_⟩
    have c5 := hk _ _ c4 (by first | exact nm1 nff.symm | exact nm1 (Ne.symm nff.symm) | simpa using nff.symm)
    have s5 := hk _ _ s4 (by first | exact nm1 nfs.symm | exact nm1 (Ne.symm nfs.symm) | simpa using nfs.symm)
    have hS5 := hk _ _ hS4 (by first | exact nm1 nSf | exact nm1 (Ne.symm nSf) | simpa using nSf)
    have lS := iS.length
    walk_at "mc"
    refine SP_lenL hS5 (LO.lst _ _) (by first | exact Nat.le_refl _ | exact leK rfl | omega) fun tl => ?_
    walk_at "mc"
    refine SP_use ok (dip_spec r hf5 (by first | exact Nat.le_refl _ | exact leK rfl | omega) (by first | exact Nat.le_refl _ | exact leK rfl | omega) (by first | exact Nat.le_refl _ | exact leK rfl | omega)) (by first | exact Nat.le_refl _ | exact leK rfl | omega) (fun v N6 hz_ => ?_)
    refine e2_5 hz_ ?_
    try clear hz_
    intro res tr e r0 r1 hf6 hK6
    subst e
    have hS6 := hK6 _ _ hS5 (by first | exact nm1 nSf | exact nm1 (Ne.symm nSf) | simpa using nSf)
    have hlt : res.toNat < vS.length := by omega
    refine e2_2 (iS.at _ _ (List.getElem?_eq_getElem hlt)) ?_
    intro x tx ex hx
    have hv := List.getElem?_eq_getElem hlt
    rw [ex] at hv
    walk_at "mc"
    refine SP_itemL hS6 (LO.lst _ _) r0 (by first | exact Nat.le_refl _ | exact leK rfl | omega) hv ?_ (by walk_at "m_rfl")
    refine ⟨rfl, hK6 _ _ eI (by simpa using neN hI ef4), hK6 _ _ eD (by simpa using neN hD ef4), hK6 _ _ eC (by simpa using neN hC ef4), hk.trans hK6, hf6.cast (by first | exact Nat.le_refl _ | exact leK rfl | omega), es ++ [x], ints_snoc ies x tx, by simp [les], ?_⟩
    intro e he
    rcases List.mem_append.mp he with he | he
    · exact tes e he
    · rw [List.mem_singleton] at he; subst he; exact tS _ (List.mem_of_getElem? hx)
  rintro D ys N6 hD ⟨hk, hf6, es, ies, les, tes⟩ eD
  refine Nx.next ?_
  have c6 := hk _ _ c4 (by first | exact nm1 nff.symm | exact nm1 (Ne.symm nff.symm) | simpa using nff.symm)
  have hG6 := hk _ _ hG4 (by first | exact nm1 nGf | exact nm1 (Ne.symm nGf) | simpa using nGf)
  have hKK6 := hk _ _ hKK4 (by first | exact nm1 nKf | exact nm1 (Ne.symm nKf) | simpa using nKf)
  have kk6 : Keep [feed] N N6 := kk.trans hk
  refine e2_2 hf6.some ?_
  intro of6 oX6 ef6 eX6
  have nDf : D ≠ feed := neN hD ef4
  have lys := ies.length
  refine SP_cons (SP.mono (Q := fun f l' N' => f = .next ∧ ∃ D' ys' n' es' spot', Has [(Str.ofString "ends", .ref D'), (Str.ofString "way", .int way tw), (Str.ofString "calls", .ref K), (Str.ofString "things", .ref G)] l' ∧ N' D' = some (lst ys' n') ∧ IntsAre ys' es' ∧
    (∀ e ∈ es', Typed rows (if way ∈ [5, 6, 9, 10] then 3 else 0) e) ∧ (if way = 1 ∨ way = 2 then es'.length ≤ 3 else es'.length = cnt) ∧ FeedIn N' feed X len spot' ∧ spot ≤ spot' ∧ spot' ≤ spot + 10 ∧ Keep [feed] N6 N' ∧ D' ≠ feed ∧ N D' = none) ?_ ?_)
  · walk_at "n"
    refine SP_newTuple (fun q hq => ?_) (sz (by simp))
    walk_at "n"
    refine SP.gen1 hq fun N7 k7 e7 => ?_
    refine SP_inIntsT e7 (.cons 1 _ (.cons 2 _ .nil)) ?_
    walk_at "n"
    have c7 := k7 _ _ c6 (by first | exact nm0 | simp)
    have eD7 := k7 _ _ eD (by first | exact nm0 | simp)
    have hf7 : FeedIn N7 feed X len (spot + 1 + cnt) := hf6.keep fun a o e _ => k7 a o e (by first | exact nm0 | simp)
    by_cases hw : way = 1 ∨ way = 2
    · refine Br.of_tt (by rcases hw with rfl | rfl <;> rfl) ?_
      refine SP_cons ?_
      walk_at "n"
      refine SP_use ok (dip_spec r hf7 (by first | exact Nat.le_refl _ | exact leK rfl | omega) (by first | exact Nat.le_refl _ | exact leK rfl | omega) (by decide)) (by first | exact Nat.le_refl _ | exact leK rfl | omega) (fun v N8 hz_ => ?_)
      refine e2_5 hz_ ?_
      try clear hz_
      intro res tr e r0 r1 hf8 hK8
      subst e
      refine ⟨D, _, ys, res, tr, rfl, rfl, hK8 _ _ eD7 (by first | exact nm1 nDf | exact nm1 (Ne.symm nDf) | simpa using nDf), LO.lst _ _, r0, by omega, fun q3 N9 k9 hq3 e9 => ?_⟩
      walk_at "n"
      refine ⟨rfl, q3, _, _, es.take res.toNat, _, by walk_at "m_has", e9, PyProof.Rows.IntsAre.take ies _, fun e he => tes e (List.mem_of_mem_take he), ?_, hf8.keep fun a o e _ => k9 a o e (by first | exact nm0 | simp), by omega, by omega, fun a o e hn => k9 _ _ (hK8 _ _ (k7 _ _ e (by first | exact nm0 | simp)) hn) (by simp), ?_⟩
      · rw [if_pos hw, List.length_take]; omega
      · refine e2_2 hf8.some ?_
        intro o8 _ e8 _
        exact ⟨neN hq3 e8, fresh_kp ((kk6.trans (k7.sub (by simp))).trans hK8) hq3 e8⟩
    · refine Br.of_ff (by first | exact nm1 hw | exact nm1 (Ne.symm hw) | simpa using hw) ?_
      walk_at "n"
      refine ⟨rfl, D, ys, _, es, _, by walk_at "m_has", eD7, ies, tes, by rw [if_neg hw]; exact les, hf7, by omega, by omega, k7.sub (by simp), nDf, fresh_kp kk hD ef4⟩
  clear eD ies les tes lys nDf
  intro f l7 N7 hz_
  refine e0_2 hz_ ?_
  try clear hz_
  intro hy0_ hz0_
  subst hy0_
  refine e5_11 hz0_ ?_
  try clear hz0_
  intro D' ys' n' es' spot' hl7 eD7 ies tes les hf7 b1 b2 k7 nD nD0
  refine Nx.next (SP.has hl7 ?_)
  have c7 : N7 (C.L + 1) = some cf := k7 _ _ c6 (by first | exact nm1 nff.symm | exact nm1 (Ne.symm nff.symm) | simpa using nff.symm)
  have hG7 := k7 _ _ hG6 (by first | exact nm1 nGf | exact nm1 (Ne.symm nGf) | simpa using nGf)
  have hKK7 := k7 _ _ hKK6 (by first | exact nm1 nKf | exact nm1 (Ne.symm nKf) | simpa using nKf)
  have kk7 : Keep [feed] N N7 := kk6.trans k7
  refine SP_cons ?_
  walk_at "n"
  by_cases w6 : way = 6
  · refine Br.of_tt (by first | exact nm1 w6 | exact nm1 (Ne.symm w6) | simpa using w6) ?_
    walk_at "m"
    refine SP_newTuple (fun q hq => ?_) (sz (by simp))
    walk_at "n"
    subst w6
    have lc : cnt = 3 := by cases ecnt; rfl
    rw [if_neg (by decide)] at les
    simp only [List.mem_cons, show ¬ ((6 : Int) = 5) by decide, true_or, or_true, if_true] at tes
    match es', les, tes, ies with
    | [x, y, z], _, tes, ies => exact ⟨q, sDis, _, D', ys', n', [x, y, z], true, 0, _, spot', rfl, upd_self .., upd_old eD7 hq, nD0, ies, .dis (tes x (by simp)) (tes y (by simp)) (tes z (by simp)), hf7.keep fun a o e _ => upd_old e hq, b1, by omega, kk7.trans (Keep.new hq)⟩
    | [], h, _, _ => subst lc; cases h
    | [_], h, _, _ => subst lc; cases h
    | [_, _], h, _, _ => subst lc; cases h
    | _ :: _ :: _ :: _ :: _, h, _, _ => subst lc; simp at h
  · refine Br.of_ff (by first | exact nm1 w6 | exact nm1 (Ne.symm w6) | simpa using w6) ?_
    refine SP_nil (Nx.next ?_)
    refine SP_cons (SP.mono (Q := fun f l' N' => (f = .next ∧ Has [(Str.ofString "ends", .ref D'), (Str.ofString "way", .int way tw), (Str.ofString "calls", .ref K), (Str.ofString "things", .ref G)] l' ∧ ∃ sp, FeedIn N' feed X len sp ∧ spot ≤ sp ∧ sp ≤ spot + 15 ∧ Keep [feed] N7 N') ∨
      ∃ v, f = .ret v ∧ DrawPost rows N feed X len spot v N') ?_ ?_)
    · walk_at "n"
      by_cases w8 : way = 8
      · refine Br.of_tt (by first | exact nm1 w8 | exact nm1 (Ne.symm w8) | simpa using w8) ?_
        subst w8
        have lc : cnt = 3 := by cases ecnt; rfl
        rw [if_neg (by decide)] at les
        subst lc
        walk_at "n"
        refine SP_use ok (dip_spec r hf7 (by first | exact Nat.le_refl _ | exact leK rfl | omega) (by first | exact Nat.le_refl _ | exact leK rfl | omega) (by decide)) (by first | exact Nat.le_refl _ | exact leK rfl | omega) (fun v N8 hz_ => ?_)
        refine e2_5 hz_ ?_
        try clear hz_
        intro res tr e r0 r1 hf8 hK8
        subst e
        have c8 : N8 (C.L + 1) = some cf := hK8 _ _ c7 (by first | exact nm1 nff.symm | exact nm1 (Ne.symm nff.symm) | simpa using nff.symm)
        have eD8 := hK8 _ _ eD7 (by first | exact nm1 nD | exact nm1 (Ne.symm nD) | simpa using nD)
        have hG8 := hK8 _ _ hG7 (by first | exact nm1 nGf | exact nm1 (Ne.symm nGf) | simpa using nGf)
        walk_at "n"
        by_cases hr : res = 1
        · refine Br.of_tt (by first | exact nm1 hr | exact nm1 (Ne.symm hr) | simpa using hr) ?_
          walk_at "n"
          refine Br.tt ?_
          walk_at "m"
          obtain ⟨x0, y0, z0, rfl⟩ : ∃ x y z, es' = [x, y, z] := by
            match es', les with
            | [x, y, z], _ => exact ⟨x, y, z, rfl⟩
            | [], h => cases h
            | [_], h => cases h
            | [_, _], h => cases h
            | _ :: _ :: _ :: _ :: _, h => simp at h
          refine e2_2 ies.cons_inv ?_
          intro u0 ys1 hy2_ _
          subst hy2_
          refine SP_itemL eD8 (LO.lst _ _) (by decide) (by decide) rfl ?_ (by walk_at "m_rfl")
          have lG := iG.length
          walk_at "n"
          refine SP_lenL hG8 (LO.lst _ _) (by first | exact Nat.le_refl _ | exact leK rfl | omega) fun tl => ?_
          walk_at "n"
          refine SP_use ok (dip_spec r hf8 (by first | exact Nat.le_refl _ | exact leK rfl | omega) (by first | exact Nat.le_refl _ | exact leK rfl | omega) (by first | exact Nat.le_refl _ | exact leK rfl | omega)) (by first | exact Nat.le_refl _ | exact leK rfl | omega) (fun v N9 hz_ => ?_)
          refine e2_5 hz_ ?_
          try clear hz_
          intro ra ta e ra0 ra1 hf9 hK9
          subst e
          have c9 : N9 (C.L + 1) = some cf := hK9 _ _ c8 (by first | exact nm1 nff.symm | exact nm1 (Ne.symm nff.symm) | simpa using nff.symm)
          have hG9 := hK9 _ _ hG8 (by first | exact nm1 nGf | exact nm1 (Ne.symm nGf) | simpa using nGf)
          have hlt : ra.toNat < vG.length := by omega
          refine e2_2 (iG.at _ _ (List.getElem?_eq_getElem hlt)) ?_
          intro xa txa exa hxa
          have hva := List.getElem?_eq_getElem hlt
          rw [exa] at hva
          walk_at "n"
          refine SP_itemL hG9 (LO.lst _ _) ra0 (by first | exact Nat.le_refl _ | exact leK rfl | omega) hva ?_ (by walk_at "m_rfl")
          walk_at "n"
          refine SP_lenL hG9 (LO.lst _ _) (by first | exact Nat.le_refl _ | exact leK rfl | omega) fun tl => ?_
          walk_at "n"
          refine SP_use ok (dip_spec r hf9 (by first | exact Nat.le_refl _ | exact leK rfl | omega) (by first | exact Nat.le_refl _ | exact leK rfl | omega) (by first | exact Nat.le_refl _ | exact leK rfl | omega)) (by first | exact Nat.le_refl _ | exact leK rfl | omega) (fun v N10 hz_ => ?_)
          refine e2_5 hz_ ?_
          try clear hz_
          intro rb tb e rb0 rb1 hf10 hK10
          subst e
          have hG10 := hK10 _ _ hG9 (by first | exact nm1 nGf | exact nm1 (Ne.symm nGf) | simpa using nGf)
          have hltb : rb.toNat < vG.length := by omega
          refine e2_2 (iG.at _ _ (List.getElem?_eq_getElem hltb)) ?_
          intro xb txb exb hxb
          have hvb := List.getElem?_eq_getElem hltb
          rw [exb] at hvb
          walk_at "n"
          refine SP_itemL hG10 (LO.lst _ _) rb0 (by first | exact Nat.le_refl _ | exact leK rfl | omega) hvb ?_ (by walk_at "m_rfl")
          walk_at "n"
          refine SP_newList (fun en hen => ?_) (sz (by simp))
          walk_at "n"
          refine SP_newTuple (fun q hq => ?_) (sz (by simp))
          walk_at "n"
          refine .inr ⟨_, rfl, q, sIte, _, en, _, 0, [x0, xa, xb], false, 0, _, _, rfl, upd_self .., upd_old (upd_self ..) hq, (by obtain ⟨of10, _, ef10, _⟩ := hf10.some; exact fresh_kp (((kk7.trans hK8).trans hK9).trans hK10) hen ef10), .cons x0 u0 (.cons xa txa (.cons xb txb .nil)), .ite (tes x0 (by simp)) (tG xa (List.mem_of_getElem? hxa)) (tG xb (List.mem_of_getElem? hxb)) (.inr rfl),
            hf10.keep fun a o e _ => upd_old (upd_old e hen) hq, ?_, ?_, ((((kk7.trans hK8).trans hK9).trans hK10).trans (Keep.new hen)).trans (Keep.new hq)⟩
          · omega
          · omega
        · refine Br.of_ff (by first | exact nm1 hr | exact nm1 (Ne.symm hr) | simpa using hr) ?_
          refine Br.ff ?_
          walk_at "n"
          exact .inl ⟨rfl, by walk_at "m_has", _, hf8, by omega, by omega, hK8⟩
      · refine Br.of_ff (by first | exact nm1 w8 | exact nm1 (Ne.symm w8) | simpa using w8) ?_
        refine Br.ff ?_
        walk_at "n"
        exact .inl ⟨rfl, by walk_at "m_has", _, hf7, by omega, by omega, Keep.refl _ _⟩
    rintro f l8 N8 (⟨rfl, hl8, sp, hf8, b3, b4, k8⟩ | ⟨v, rfl, hv⟩)
    · refine Nx.next (SP.has hl8 ?_)
      have eD8 := k8 _ _ eD7 (by first | exact nm1 nD | exact nm1 (Ne.symm nD) | simpa using nD)
      have hKK8 := k8 _ _ hKK7 (by first | exact nm1 nKf | exact nm1 (Ne.symm nKf) | simpa using nKf)
      refine SP_cons ?_
      walk_at "n"
      refine Br.dec (fun w8 => ?_) (fun w8 => ?_)
      · walk_at "m"
        have lc : cnt = 1 := by
          obtain rfl | rfl : way = 9 ∨ way = 10 := by omega
          · cases ecnt; rfl
          · cases ecnt; rfl
        subst lc
        have hm : way ∈ [5, 6, 9, 10] := by
          obtain rfl | rfl : way = 9 ∨ way = 10 := by omega
          · decide
          · decide
        rw [if_neg (by first | exact Nat.le_refl _ | exact leK rfl | omega)] at les
        rw [if_pos hm] at tes
        obtain ⟨x0, rfl⟩ : ∃ x, es' = [x] := by
          match es', les with
          | [x], _ => exact ⟨x, rfl⟩
          | [], h => cases h
          | _ :: _ :: _, h => simp at h
        by_cases w9 : way = 9
        · subst w9
          refine SP_itemL hKK8 (LO.lst _ _) (by decide) (by decide) (by exact rfl) ?_ (by walk_at "m_rfl")
          walk_at "n"
          refine SP_newTuple (fun q hq => ?_) (sz (by simp))
          walk_at "n"
          exact ⟨q, sApp, _, D', _, _, [x0], false, 0, _, sp, rfl, upd_self .., upd_old eD8 hq, nD0, ies, .app0 (tes x0 (by simp)), hf8.keep fun a o e _ => upd_old e hq, b3, by omega, (kk7.trans k8).trans (Keep.new hq)⟩
        · obtain rfl : way = 10 := by omega
          refine SP_itemL hKK8 (LO.lst _ _) (by decide) (by decide) (by exact rfl) ?_ (by walk_at "m_rfl")
          walk_at "n"
          refine SP_newTuple (fun q hq => ?_) (sz (by simp))
          walk_at "n"
          exact ⟨q, sApp, _, D', _, _, [x0], true, 1, _, sp, rfl, upd_self .., upd_old eD8 hq, nD0, ies, .app1 (tes x0 (by simp)), hf8.keep fun a o e _ => upd_old e hq, b3, by omega, (kk7.trans k8).trans (Keep.new hq)⟩
      · walk_at "m"
        refine SP_newTuple (fun q hq => ?_) (sz (by simp))
        refine SP.gen1 hq fun N9 k9 e9 => ?_
        walk_at "n"
        have hsn : ∀ (a b c d e f g h i : Tok), ∃ nm u, [Value.str sNot a, .str sAnd b, .str sOr c, .str sXor d, .str sImp e, .str sEq f, .str (Str.ofString "") g, .str sEq h, .str sIte i][way.toNat]? = some (.str nm u) ∧ [sNot, sAnd, sOr, sXor, sImp, sEq, Str.ofString "", sEq, sIte][way.toNat]? = some nm := by
          intro a b c d e f g h i
          have hz : way.toNat < 9 := by omega
          generalize way.toNat = z at hz
          match z, hz with
          | 0, _ => exact ⟨_, _, rfl, rfl⟩
          | 1, _ => exact ⟨_, _, rfl, rfl⟩
          | 2, _ => exact ⟨_, _, rfl, rfl⟩
          | 3, _ => exact ⟨_, _, rfl, rfl⟩
          | 4, _ => exact ⟨_, _, rfl, rfl⟩
          | 5, _ => exact ⟨_, _, rfl, rfl⟩
          | 6, _ => exact ⟨_, _, rfl, rfl⟩
          | 7, _ => exact ⟨_, _, rfl, rfl⟩
          | 8, _ => exact ⟨_, _, rfl, rfl⟩
          | n + 9, h => omega
        obtain ⟨nm, un, hnm, enm⟩ := hsn _ _ _ _ _ _ _ _ _
        refine SP_itemT e9 w0 (by first | exact Nat.le_refl _ | exact leK rfl | omega) hnm ?_ (by walk_at "m_rfl")
        walk_at "n"
        refine SP_newTuple (fun q2 hq2 => ?_) (sz (by simp))
        walk_at "n"
        exact ⟨q2, nm, _, D', _, _, es', true, 0, _, sp, rfl, upd_self .., upd_old (k9 _ _ eD8 (by first | exact nm0 | simp)) hq2, nD0, ies, draw_fin w0 (by first | exact Nat.le_refl _ | exact leK rfl | omega) w6 ecnt enm les tes, hf8.keep fun a o e _ => upd_old (k9 a o e (by first | exact nm0 | simp)) hq2, b3, by omega, ((kk7.trans k8).trans (k9.sub (by simp))).trans (Keep.new hq2)⟩
    · exact hv
end drawn_spec_c
theorem drawn_spec {w : World} {N : Hl} {feed X T G K : Addr} {len : Nat} {spot : Int} {rows : Rws} {vT vG : List Value} {nT nG nK : Nat} {Ts Gs : List Int} {tk0 tk1 : Tok} (r : Nat)
    (hf : FeedIn N feed X len spot) (h0 : 0 ≤ spot) (h1 : spot < 900000) (hT : N T = some (lst vT nT)) (iT : IntsAre vT Ts) (tT : ∀ t ∈ Ts, Typed rows 0 t) (hG : N G = some (lst vG nG)) (iG : IntsAre vG Gs) (tG : ∀ t ∈ Gs, Typed rows 3 t)
    (pT : 0 < Ts.length) (pG : 0 < Gs.length) (qT : Ts.length < 1000) (qG : Gs.length < 1000) (hK : N K = some (lst [.int 0 tk0, .int 1 tk1] nK)) (hX : X ≠ feed) :
    Calls w 436 [.ref feed, .ref T, .ref G, .ref K] N (r + 2) (DrawPost rows N feed X len spot) :=
  pickAll (P := fun q : World × Hl × Addr × Addr × Addr × Addr × Addr × Nat × Int × Rws × List Value × List Value × Nat × Nat × Nat × List Int × List Int × Tok × Tok × Nat => drawn_spec_c.P q.1 q.2.1 q.2.2.1 q.2.2.2.1 q.2.2.2.2.1 q.2.2.2.2.2.1 q.2.2.2.2.2.2.1 q.2.2.2.2.2.2.2.1 q.2.2.2.2.2.2.2.2.1 q.2.2.2.2.2.2.2.2.2.1 q.2.2.2.2.2.2.2.2.2.2.1 q.2.2.2.2.2.2.2.2.2.2.2.1 q.2.2.2.2.2.2.2.2.2.2.2.2.1 q.2.2.2.2.2.2.2.2.2.2.2.2.2.1 q.2.2.2.2.2.2.2.2.2.2.2.2.2.2.1 q.2.2.2.2.2.2.2.2.2.2.2.2.2.2.2.1 q.2.2.2.2.2.2.2.2.2.2.2.2.2.2.2.2.1 q.2.2.2.2.2.2.2.2.2.2.2.2.2.2.2.2.2.1 q.2.2.2.2.2.2.2.2.2.2.2.2.2.2.2.2.2.2.1 q.2.2.2.2.2.2.2.2.2.2.2.2.2.2.2.2.2.2.2) (aWorld 0, fun _ => none, 0, 0, 0, 0, 0, 0, 0, [], [], [], 0, 0, 0, [], [], 0, 0, 0) (by with_unfolding_all exact drawn_spec_c.core) (w, N, feed, X, T, G, K, len, spot, rows, vT, vG, nT, nG, nK, Ts, Gs, tk0, tk1, r) hf h0 h1 hT iT tT hG iG tG pT pG qT qG hK hX
end
/-! part Li -/
section
theorem nd_ne {l : List Addr} (h : l.Nodup) (i j : Nat) (hij : i ≠ j) {a b : Addr} (ha : l[i]? = some a) (hb : l[j]? = some b) : a ≠ b := by
  obtain ⟨h1, h2⟩ := List.getElem?_eq_some_iff.mp ha
  obtain ⟨h3, h4⟩ := List.getElem?_eq_some_iff.mp hb
  intro e
  exact hij ((List.getElem_inj h).mp (h2.trans (e.trans h4.symm)))
/-- all that the law's frame speaks of -/
structure LC where
  A : BnkA
  B : BkA
  feed : Addr
  X : Addr
  T : Addr
  G : Addr
  len : Nat
  sigs : List (List Int × Int)
def LC.all (K : LC) : List Addr := [K.feed, K.X, K.T, K.G, K.B.b, K.B.r, K.B.d, K.A.x, K.A.dx, K.A.ops, K.A.args, K.A.sorts, K.A.datas, K.A.nums, K.A.fnames, K.A.fargs, K.A.fres]
structure LI (w : World) (K : LC) (N : Hl) (spot : Int) (rA rB : Rws) (Ts Gs : List Int) : Prop where
  a : BankIn w N K.A rA
  f : FunsIn N K.A K.sigs
  b : BookIn w N K.B rB
  fd : FeedIn N K.feed K.X K.len spot
  t : ∃ v n, N K.T = some (lst v n) ∧ IntsAre v Ts
  g : ∃ v n, N K.G = some (lst v n) ∧ IntsAre v Gs
  sep : K.all.Nodup
section
variable {w : World} {K : LC} {N N' : Hl} {spot spot' : Int} {rA rB rA' rB' : Rws} {Ts Gs : List Int}
theorem BankIn.nt (h : BankIn w N K.A rA) : ∀ a ∈ K.A.mut, ∃ o, N a = some o ∧ o.cls ≠ .type "tuple" := by
  refine e0_2 h ?_
  try clear h
  intro _ hz0_
  refine e9_1 hz0_ ?_
  try clear hz0_
  intro vo no va na vs ns vd nd xs hL
  intro a ha
  simp only [BnkA.mut, List.mem_cons, List.not_mem_nil, or_false] at ha
  (rcases ha with ha | ha | ha | ha | ha <;> subst a)
  · exact ⟨_, hL.ops, lst_nt _ _⟩
  · exact ⟨_, hL.args, lst_nt _ _⟩
  · exact ⟨_, hL.sorts, lst_nt _ _⟩
  · exact ⟨_, hL.datas, lst_nt _ _⟩
  · refine e1_3 hL.nums.get ?_
    intro o e c _
    exact ⟨o, e, dic_nt c⟩
theorem BookIn.nt {B : BkA} (h : BookIn w N B rB) : ∀ a ∈ [B.r, B.d], ∃ o, N a = some o ∧ o.cls ≠ .type "tuple" := by
  refine e1_2 h ?_
  try clear h
  intro xs hy1_ _
  obtain ⟨_, _, ⟨n, hr⟩, hd, _⟩ := hy1_
  intro a ha
  simp only [List.mem_cons, List.not_mem_nil, or_false] at ha
  (rcases ha with ha | ha <;> subst a)
  · exact ⟨_, hr, lst_nt _ _⟩
  · refine e1_3 hd.get ?_
    intro o e c _
    exact ⟨o, e, dic_nt c⟩
theorem FeedIn.nt {feed X : Addr} {len : Nat} (h : FeedIn N feed X len spot) : ∀ a ∈ [feed], ∃ o, N a = Option.some o ∧ o.cls ≠ .type "tuple" := by
  refine e5_3 h ?_
  try clear h
  intro o t ox vs ns h1 h2 _
  intro a ha
  rw [List.mem_singleton] at ha; subst ha
  exact ⟨o, h1, by rw [h2.1]; decide⟩
/-- what is not at a changed place stays -/
theorem LI.parts (h : LI w K N spot rA rB Ts Gs) (tk : TupKeep N N') :
    ((∀ a ∈ K.A.all, ∀ o, N a = some o → N' a = some o) → BankIn w N' K.A rA) ∧ ((∀ a ∈ [K.A.fnames, K.A.fargs, K.A.fres], ∀ o, N a = some o → N' a = some o) → FunsIn N' K.A K.sigs) ∧
    ((∀ a ∈ [K.B.b, K.B.r, K.B.d], ∀ o, N a = some o → N' a = some o) → BookIn w N' K.B rB) ∧ ((∀ a ∈ [K.feed, K.X], ∀ o, N a = some o → N' a = some o) → FeedIn N' K.feed K.X K.len spot) ∧
    ((∀ o, N K.T = some o → N' K.T = some o) → ∃ v n, N' K.T = some (lst v n) ∧ IntsAre v Ts) ∧ ((∀ o, N K.G = some o → N' K.G = some o) → ∃ v n, N' K.G = some (lst v n) ∧ IntsAre v Gs) := by
  refine ⟨fun k => h.a.keep tk k, fun k => h.f.keep tk k, fun k => ?_, fun k => h.fd.keep fun a o e q => k a (by rcases q with rfl | rfl <;> simp) o e, fun k => ?_, fun k => ?_⟩
  · refine e1_2 h.b ?_
    intro xs hx e
    have hx' := hx
    refine e0_5 hx' ?_
    try clear hx'
    intro _ _ hy2_ c _
    obtain ⟨n, b⟩ := hy2_
    refine e1_2 c.get ?_
    intro o hd _
    exact ⟨xs, hx.keep tk (fun o h' => k _ (by simp) o h') ((k _ (by simp) _ b).trans b.symm) ((k _ (by simp) _ hd).trans hd.symm), e⟩
  · obtain ⟨v, n, e, i⟩ := h.t; exact ⟨v, n, k _ e, i⟩
  · obtain ⟨v, n, e, i⟩ := h.g; exact ⟨v, n, k _ e, i⟩
theorem LI.new (h : LI w K N spot rA rB Ts Gs) (k : Keep [] N N') : LI w K N' spot rA rB Ts Gs := by
  refine e0_6 (h.parts (k.tup (by simp))) ?_
  intro p1 p2 p3 p4 p5 p6
  exact ⟨p1 fun a _ o e => k a o e (by first | exact nm0 | simp), p2 fun a _ o e => k a o e (by first | exact nm0 | simp), p3 fun a _ o e => k a o e (by first | exact nm0 | simp), p4 fun a _ o e => k a o e (by first | exact nm0 | simp), p5 fun o e => k _ o e (by first | exact nm0 | simp), p6 fun o e => k _ o e (by first | exact nm0 | simp), h.sep⟩
theorem LI.at (h : LI w K N spot rA rB Ts Gs) (i j : Nat) (hij : i ≠ j) {a b : Addr} (ha : K.all[i]? = some a) (hb : K.all[j]? = some b) : a ≠ b := nd_ne h.sep i j hij ha hb
theorem LI.nin (h : LI w K N spot rA rB Ts Gs) {S : List Addr} (is : List Nat) (hS : ∀ b ∈ S, ∃ j ∈ is, K.all[j]? = some b) (i : Nat) (hi : i ∉ is) {a : Addr} (ha : K.all[i]? = some a) : a ∉ S := fun hm => by
  refine e1_2 (hS a hm) ?_
  intro j hj e
  exact h.at i j (fun q => hi (q ▸ hj)) ha e rfl
theorem mut_ix (K : LC) : ∀ b ∈ K.A.mut, ∃ j ∈ [9, 10, 11, 12, 13], K.all[j]? = some b := by
  intro b hb
  simp only [BnkA.mut, List.mem_cons, List.not_mem_nil, or_false] at hb
  (rcases hb with hb | hb | hb | hb | hb <;> subst b)
  · exact ⟨9, by simp, rfl⟩
  · exact ⟨10, by simp, rfl⟩
  · exact ⟨11, by simp, rfl⟩
  · exact ⟨12, by simp, rfl⟩
  · exact ⟨13, by simp, rfl⟩
theorem book_ix (K : LC) : ∀ b ∈ [K.B.r, K.B.d], ∃ j ∈ [5, 6], K.all[j]? = some b := by
  intro b hb
  simp only [List.mem_cons, List.not_mem_nil, or_false] at hb
  (rcases hb with hb | hb <;> subst b)
  · exact ⟨5, by simp, rfl⟩
  · exact ⟨6, by simp, rfl⟩
theorem feed_ix (K : LC) : ∀ b ∈ [K.feed], ∃ j ∈ [0], K.all[j]? = some b := by
  intro b hb
  rw [List.mem_singleton] at hb; subst hb
  exact ⟨0, by simp, rfl⟩
theorem LI.bank (h : LI w K N spot rA rB Ts Gs) (k : Keep K.A.mut N N') (a' : BankIn w N' K.A rA') : LI w K N' spot rA' rB Ts Gs := by
  have ni : ∀ i, i ∉ [9, 10, 11, 12, 13] → ∀ a, K.all[i]? = some a → ∀ o, N a = some o → N' a = some o := fun i hi a ha o e => k a o e (h.nin _ (mut_ix K) i hi ha)
  refine e0_6 (h.parts (k.tup h.a.nt)) ?_
  intro p1 p2 p3 p4 p5 p6
  refine ⟨a', p2 ?_, p3 ?_, p4 ?_, p5 (ni 2 (by decide) _ rfl), p6 (ni 3 (by decide) _ rfl), h.sep⟩
  · intro a ha
    simp only [List.mem_cons, List.not_mem_nil, or_false] at ha
    (rcases ha with ha | ha | ha <;> subst a)
    · exact ni 14 (by decide) _ rfl
    · exact ni 15 (by decide) _ rfl
    · exact ni 16 (by decide) _ rfl
  · intro a ha
    simp only [List.mem_cons, List.not_mem_nil, or_false] at ha
    (rcases ha with ha | ha | ha <;> subst a)
    · exact ni 4 (by decide) _ rfl
    · exact ni 5 (by decide) _ rfl
    · exact ni 6 (by decide) _ rfl
  · intro a ha
    simp only [List.mem_cons, List.not_mem_nil, or_false] at ha
    (rcases ha with ha | ha <;> subst a)
    · exact ni 0 (by decide) _ rfl
    · exact ni 1 (by decide) _ rfl
theorem all_ix (K : LC) : ∀ a ∈ K.A.all, ∃ j ∈ [7, 8, 9, 10, 11, 12, 13], K.all[j]? = some a := by
  intro a ha
  simp only [BnkA.all, List.mem_cons, List.not_mem_nil, or_false] at ha
  (rcases ha with ha | ha | ha | ha | ha | ha | ha <;> subst a)
  · exact ⟨7, by simp, rfl⟩
  · exact ⟨8, by simp, rfl⟩
  · exact ⟨9, by simp, rfl⟩
  · exact ⟨10, by simp, rfl⟩
  · exact ⟨11, by simp, rfl⟩
  · exact ⟨12, by simp, rfl⟩
  · exact ⟨13, by simp, rfl⟩
theorem LI.book (h : LI w K N spot rA rB Ts Gs) (k : Keep [K.B.r, K.B.d] N N') (b' : BookIn w N' K.B rB') : LI w K N' spot rA rB' Ts Gs := by
  have ni : ∀ i, i ∉ [5, 6] → ∀ a, K.all[i]? = some a → ∀ o, N a = some o → N' a = some o := fun i hi a ha o e => k a o e (h.nin _ (book_ix K) i hi ha)
  refine e0_6 (h.parts (k.tup h.b.nt)) ?_
  intro p1 p2 p3 p4 p5 p6
  refine ⟨p1 ?_, p2 ?_, b', p4 ?_, p5 (ni 2 (by decide) _ rfl), p6 (ni 3 (by decide) _ rfl), h.sep⟩
  · intro a ha
    refine e1_2 (all_ix K a ha) ?_
    intro j hj e
    exact ni j (by rintro q; simp at hj q; omega) a e
  · intro a ha
    simp only [List.mem_cons, List.not_mem_nil, or_false] at ha
    (rcases ha with ha | ha | ha <;> subst a)
    · exact ni 14 (by decide) _ rfl
    · exact ni 15 (by decide) _ rfl
    · exact ni 16 (by decide) _ rfl
  · intro a ha
    simp only [List.mem_cons, List.not_mem_nil, or_false] at ha
    (rcases ha with ha | ha <;> subst a)
    · exact ni 0 (by decide) _ rfl
    · exact ni 1 (by decide) _ rfl
theorem LI.one (h : LI w K N spot rA rB Ts Gs) (i₀ : Nat) (c : Addr) (hc : K.all[i₀]? = some c) (hi₀ : i₀ = 0 ∨ i₀ = 2 ∨ i₀ = 3) (k : Keep [c] N N') (hn : ∃ o, N c = some o ∧ o.cls ≠ .type "tuple") :
    BankIn w N' K.A rA ∧ FunsIn N' K.A K.sigs ∧ BookIn w N' K.B rB ∧ (i₀ ≠ 0 → FeedIn N' K.feed K.X K.len spot) ∧ (i₀ ≠ 2 → ∃ v n, N' K.T = some (lst v n) ∧ IntsAre v Ts) ∧ (i₀ ≠ 3 → ∃ v n, N' K.G = some (lst v n) ∧ IntsAre v Gs) := by
  have ni : ∀ i, i ≠ i₀ → ∀ a, K.all[i]? = some a → ∀ o, N a = some o → N' a = some o := fun i hi a ha o e => k a o e (by rw [List.mem_singleton]; exact h.at i i₀ hi ha hc)
  obtain ⟨p1, p2, p3, p4, p5, p6⟩ := h.parts (k.tup (by intro a ha; rw [List.mem_singleton] at ha; subst a; exact hn))
  refine ⟨p1 ?_, p2 ?_, p3 ?_, fun q => p4 ?_, fun q => p5 (ni 2 q.symm _ rfl), fun q => p6 (ni 3 q.symm _ rfl)⟩
  · intro a ha
    refine e1_2 (all_ix K a ha) ?_
    intro j hj e
    exact ni j (by simp at hj; omega) a e
  · intro a ha
    simp only [List.mem_cons, List.not_mem_nil, or_false] at ha
    (rcases ha with ha | ha | ha <;> subst a)
    · exact ni 14 (by first | exact Nat.le_refl _ | exact leK rfl | omega) _ rfl
    · exact ni 15 (by first | exact Nat.le_refl _ | exact leK rfl | omega) _ rfl
    · exact ni 16 (by first | exact Nat.le_refl _ | exact leK rfl | omega) _ rfl
  · intro a ha
    simp only [List.mem_cons, List.not_mem_nil, or_false] at ha
    (rcases ha with ha | ha | ha <;> subst a)
    · exact ni 4 (by first | exact Nat.le_refl _ | exact leK rfl | omega) _ rfl
    · exact ni 5 (by first | exact Nat.le_refl _ | exact leK rfl | omega) _ rfl
    · exact ni 6 (by first | exact Nat.le_refl _ | exact leK rfl | omega) _ rfl
  · intro a ha
    simp only [List.mem_cons, List.not_mem_nil, or_false] at ha
    (rcases ha with ha | ha <;> subst a)
    · exact ni 0 q.symm _ rfl
    · exact ni 1 (by first | exact Nat.le_refl _ | exact leK rfl | omega) _ rfl
theorem LI.feed (h : LI w K N spot rA rB Ts Gs) (k : Keep [K.feed] N N') (fd' : FeedIn N' K.feed K.X K.len spot') : LI w K N' spot' rA rB Ts Gs := by
  obtain ⟨a, b, c, _, d, e⟩ := h.one 0 _ rfl (.inl rfl) k (h.fd.nt K.feed (by simp))
  exact ⟨a, b, c, fd', d (by decide), e (by decide), h.sep⟩
theorem LI.addT (h : LI w K N spot rA rB Ts Gs) {v : List Value} {n : Nat} {x : Int} {tx : Tok} (e : N K.T = some (lst v n)) (hi : IntsAre v Ts) : LI w K (upd N K.T (lst (v ++ [.int x tx]) (n + 1))) spot rA rB (Ts ++ [x]) Gs := by
  obtain ⟨a, b, c, f, _, g⟩ := h.one 2 _ rfl (.inr (.inl rfl)) (Keep.chg (ds := [K.T]) (q := K.T) (by simp)) ⟨_, e, lst_nt _ _⟩
  exact ⟨a, b, c, f (by decide), ⟨_, _, upd_self .., ints_snoc hi x tx⟩, g (by decide), h.sep⟩
theorem LI.addG (h : LI w K N spot rA rB Ts Gs) {v : List Value} {n : Nat} {x : Int} {tx : Tok} (e : N K.G = some (lst v n)) (hi : IntsAre v Gs) : LI w K (upd N K.G (lst (v ++ [.int x tx]) (n + 1))) spot rA rB Ts (Gs ++ [x]) := by
  obtain ⟨a, b, c, f, g, _⟩ := h.one 3 _ rfl (.inr (.inr rfl)) (Keep.chg (ds := [K.G]) (q := K.G) (by simp)) ⟨_, e, lst_nt _ _⟩
  exact ⟨a, b, c, f (by decide), g (by decide), ⟨_, _, upd_self .., ints_snoc hi x tx⟩, h.sep⟩
theorem LI.keepAll (h : LI w K N spot rA rB Ts Gs) (tk : TupKeep N N') (k : ∀ a ∈ K.all, ∀ o, N a = some o → N' a = some o) : LI w K N' spot rA rB Ts Gs := by
  refine e0_6 (h.parts tk) ?_
  intro p1 p2 p3 p4 p5 p6
  refine ⟨p1 fun a ha => k a ?_, p2 fun a ha => k a ?_, p3 fun a ha => k a ?_, p4 fun a ha => k a ?_, p5 (k _ ?_), p6 (k _ ?_), h.sep⟩
  · obtain ⟨j, _, e⟩ := all_ix K a ha; exact List.mem_of_getElem? e
  · simp only [List.mem_cons, List.not_mem_nil, or_false] at ha; (rcases ha with ha | ha | ha <;> subst a) <;> simp [LC.all]
  · simp only [List.mem_cons, List.not_mem_nil, or_false] at ha; (rcases ha with ha | ha | ha <;> subst a) <;> simp [LC.all]
  · simp only [List.mem_cons, List.not_mem_nil, or_false] at ha; (rcases ha with ha | ha <;> subst a) <;> simp [LC.all]
  · simp [LC.all]
  · simp [LC.all]
theorem LI.has (h : LI w K N spot rA rB Ts Gs) : ∀ a ∈ K.all, ∃ o, N a = some o := by
  refine e0_2 h.a ?_
  intro hO hz0_
  refine e9_1 hz0_ ?_
  try clear hz0_
  intro vo no va na vs ns vd nd xs hL
  refine e7_7 h.f ?_
  intro vn nn ys va' na' vr nr g1 _ _ g2 _ g3 _
  refine e1_2 h.b ?_
  intro xs' hy1_ _
  obtain ⟨_, d1, ⟨n, hr⟩, hd, _⟩ := hy1_
  refine e2_2 h.fd.some ?_
  intro of oX ef eX
  refine e2_2 h.t ?_
  intro vT nT eT _
  refine e2_2 h.g ?_
  intro vG nG eG _
  refine e1_2 d1.get ?_
  intro ob eb _
  refine e1_2 hd.get ?_
  intro od ed _
  refine e1_2 hL.nums.get ?_
  intro om em _
  intro a ha
  simp only [LC.all, List.mem_cons, List.not_mem_nil, or_false] at ha
  (rcases ha with ha | ha | ha | ha | ha | ha | ha | ha | ha | ha | ha | ha | ha | ha | ha | ha | ha <;> subst a)
  · exact ⟨_, ef⟩
  · exact ⟨_, eX⟩
  · exact ⟨_, eT⟩
  · exact ⟨_, eG⟩
  · exact ⟨_, eb⟩
  · exact ⟨_, hr⟩
  · exact ⟨_, ed⟩
  · exact ⟨_, hO.1⟩
  · exact ⟨_, hO.2.1⟩
  · exact ⟨_, hL.ops⟩
  · exact ⟨_, hL.args⟩
  · exact ⟨_, hL.sorts⟩
  · exact ⟨_, hL.datas⟩
  · exact ⟨_, em⟩
  · exact ⟨_, g1⟩
  · exact ⟨_, g2⟩
  · exact ⟨_, g3⟩
theorem LI.fresh (h : LI w K N spot rA rB Ts Gs) {q : Addr} (hq : N q = none) : q ∉ K.all := fun hm => by
  obtain ⟨o, e⟩ := h.has q hm; rw [hq] at e; cases e
theorem LI.off (h : LI w K N spot rA rB Ts Gs) {I : Addr} (hI : I ∉ K.all) (o : Off I N N') : LI w K N' spot rA rB Ts Gs :=
  h.keepAll o.1.tup fun a ha x e => o.2 a x e fun q => hI (q ▸ ha)
theorem LI.chg (h : LI w K N spot rA rB Ts Gs) {q : Addr} (hq : q ∉ K.all) {o o' : Obj} (e : N q = some o) (hn : o.cls ≠ .type "tuple") : LI w K (upd N q o') spot rA rB Ts Gs :=
  h.keepAll (TupKeep.chg e hn) fun a ha x e' => by rw [upd_ne]; exact e'; rintro rfl; exact hq ha
end
end
/-! part Fn15 -/
section
set_option linter.unusedVariables false
/-- positionwise of one sort -/
def Same (rows : Rws) (xs ys : List Int) : Prop := ∀ (j : Nat) x y, xs[j]? = some x → ys[j]? = some y → ∃ s, (s = 0 ∨ s = 3) ∧ Typed rows s x ∧ Typed rows s y
theorem neqKind {rows : Rws} {s : Int} {x : Int} {k : Sh} (h : Typed rows s x) (hk : rowOf rows x = some k) : k.kind = s := by
  refine e0_2 h ?_
  try clear h
  intro _ hz0_
  refine e1_2 hz0_ ?_
  try clear hz0_
  intro k' a b
  rw [hk] at a; cases a; exact b
theorem same_ok {rows : Rws} {i : Nat} {k : Sh} {es : List Int} (hr : RowOk rows i k) (hao : k.op ≠ sAnd ∧ k.op ≠ sOr) (hl : es.length = k.args.length) (hs : Same rows es k.args) (h0 : (k.op = sNot ∨ k.op = sEq) → k.kind = 0) : DueOk rows k.op es k.kind := by
  refine e0_6 hr ?_
  try clear hr
  intro a b c d f g
  refine ⟨a, b, by omega, ?_, fun q => ⟨h0 (.inl q), ?_⟩, fun q => ⟨h0 (.inr q), ?_⟩, fun q => absurd q (by rintro (q | q); exact hao.1 q; exact hao.2 q)⟩
  · intro x hx
    refine e1_1 (List.mem_iff_getElem?.mp hx) ?_
    intro j hj
    have : j < k.args.length := by have := (List.getElem?_eq_some_iff.mp hj).1; omega
    refine e1_3 (hs j x _ hj (List.getElem?_eq_getElem this)) ?_
    intro s _ h1 _
    exact ⟨h1.1, h1.le⟩
  · refine e1_2 (f q) ?_
    intro x hx tx
    rw [hx] at hl hs
    match es, hl, hs with
    | [y], _, hs =>
      refine e1_3 (hs 0 y x rfl rfl) ?_
      intro s _ h1 h2
      refine e0_2 tx ?_
      try clear tx
      intro _ hz0_
      refine e1_2 hz0_ ?_
      try clear hz0_
      intro kx hkx e
      have := neqKind h2 hkx
      rw [e] at this
      subst this
      exact ⟨y, rfl, h1⟩
  · refine e3_3 (g q) ?_
    intro x y s hxy tx ty
    rw [hxy] at hl hs
    match es, hl, hs with
    | [u, v], _, hs =>
      refine e1_3 (hs 0 u x rfl rfl) ?_
      intro s1 _ h1 h2
      refine e1_3 (hs 1 v y rfl rfl) ?_
      intro s2 _ h3 h4
      refine e0_2 tx ?_
      try clear tx
      intro _ hz0_
      refine e1_2 hz0_ ?_
      try clear hz0_
      intro kx hkx e
      have e1 := neqKind h2 hkx
      refine e0_2 ty ?_
      try clear ty
      intro _ hz0_
      refine e1_2 hz0_ ?_
      try clear hz0_
      intro ky hky e'
      have e2 := neqKind h4 hky
      have : s1 = s2 := by omega
      subst this
      exact ⟨u, v, s1, rfl, h1, h3⟩
namespace is_again_spec_c
def Prp (w : World) (K : LC) (N : Hl) (spot : Int) (rows : Rws) (Ts : List Int) (Gs : List Int) (P : Addr) (k : Sh) (t1 : Tok) (t2 : Tok) (t3 : Tok) (u1 : Tok) (u2 : Tok) (u3 : Tok) (r : Nat) : Prop := ∀ (sa : Addr) (b : Addr) (hL : LI w K N spot rows rows Ts Gs) (hw : WF rows) (hz : rows.length < 900) (h0 : 0 ≤ spot) (h1 : spot < 900000) (tT : ∀ t ∈ Ts, Typed rows 0 t) (tG : ∀ t ∈ Gs, Typed rows 3 t) (pT : 0 < Ts.length) (pG : 0 < Gs.length) (qT : Ts.length < 1000) (qG : Gs.length < 1000) (hP : N P = some (tupObj [.ref sa, .str k.op u1, .ref b, .int k.kind u2, .int k.data u3, .ref K.T, .ref K.G])) (hsa : N sa = some (tupObj [.str k.op t1, .ref b, .int k.kind t2, .int k.data t3])) (hb : TupI N b k.args) (hk : k ∈ rows) (hao : k.op ≠ sAnd ∧ k.op ≠ sOr) (hk0 : (k.op = sNot ∨ k.op = sEq) → k.kind = 0), Calls w 457 [.ref K.feed, .ref K.A.x, .ref K.B.b, .ref P] N (r + 8) (fun v N' => v = .bool true ∧ ∃ rows' spot', LI w K N' spot' rows' rows' Ts Gs ∧ WF rows' ∧ Ext rows rows' ∧ spot ≤ spot' ∧ spot' ≤ spot + 3 ∧ Keep ([K.feed, K.B.r, K.B.d] ++ K.A.mut) N N')
noncomputable def Vec : World × LC × Hl × Int × Rws × List Int × List Int × Addr × Sh × Tok × Tok × Tok × Tok × Tok × Tok × Nat := pick (aWorld 0, ⟨⟨0, 0, [], 0, 0, 0, 0, 0, 0, 0, 0, 0, 0, 0⟩, ⟨0, 0, 0⟩, 0, 0, 0, 0, 0, []⟩, fun _ => none, 0, [], [], [], 0, ⟨Str.empty, [], 0, 0⟩, 0, 0, 0, 0, 0, 0, 0) fun q => Prp q.1 q.2.1 q.2.2.1 q.2.2.2.1 q.2.2.2.2.1 q.2.2.2.2.2.1 q.2.2.2.2.2.2.1 q.2.2.2.2.2.2.2.1 q.2.2.2.2.2.2.2.2.1 q.2.2.2.2.2.2.2.2.2.1 q.2.2.2.2.2.2.2.2.2.2.1 q.2.2.2.2.2.2.2.2.2.2.2.1 q.2.2.2.2.2.2.2.2.2.2.2.2.1 q.2.2.2.2.2.2.2.2.2.2.2.2.2.1 q.2.2.2.2.2.2.2.2.2.2.2.2.2.2.1 q.2.2.2.2.2.2.2.2.2.2.2.2.2.2.2
@[irreducible] noncomputable def w : World := Vec.1
@[irreducible] noncomputable def K : LC := Vec.2.1
@[irreducible] noncomputable def N : Hl := Vec.2.2.1
@[irreducible] noncomputable def spot : Int := Vec.2.2.2.1
@[irreducible] noncomputable def rows : Rws := Vec.2.2.2.2.1
@[irreducible] noncomputable def Ts : List Int := Vec.2.2.2.2.2.1
@[irreducible] noncomputable def Gs : List Int := Vec.2.2.2.2.2.2.1
@[irreducible] noncomputable def P : Addr := Vec.2.2.2.2.2.2.2.1
@[irreducible] noncomputable def k : Sh := Vec.2.2.2.2.2.2.2.2.1
@[irreducible] noncomputable def t1 : Tok := Vec.2.2.2.2.2.2.2.2.2.1
@[irreducible] noncomputable def t2 : Tok := Vec.2.2.2.2.2.2.2.2.2.2.1
@[irreducible] noncomputable def t3 : Tok := Vec.2.2.2.2.2.2.2.2.2.2.2.1
@[irreducible] noncomputable def u1 : Tok := Vec.2.2.2.2.2.2.2.2.2.2.2.2.1
@[irreducible] noncomputable def u2 : Tok := Vec.2.2.2.2.2.2.2.2.2.2.2.2.2.1
@[irreducible] noncomputable def u3 : Tok := Vec.2.2.2.2.2.2.2.2.2.2.2.2.2.2.1
@[irreducible] noncomputable def r : Nat := Vec.2.2.2.2.2.2.2.2.2.2.2.2.2.2.2
theorem core : Prp w K N spot rows Ts Gs P k t1 t2 t3 u1 u2 u3 r := by
  unfold Prp
  intro sa b hL hw hz h0 h1 tT tG pT pG qT qG hP hsa hb hk hao hk0
  refine' enter [(Str.ofString "feed", .ref K.feed), (Str.ofString "bank_now", .ref K.A.x), (Str.ofString "book_now", .ref K.B.b), (Str.ofString "pairs", .ref P)] [(Str.ofString "pairs", .ref P), (Str.ofString "book_now", .ref K.B.b), (Str.ofString "bank_now", .ref K.A.x), (Str.ofString "feed", .ref K.feed)] ?ho ?hcd ?hb ?hl ?c1 ?c2 ?c3 ?c4 ?c5 ?_
  walk_at "m_ent"
  refine pickC ?_
  intro ok
  refine e1_1 (List.mem_iff_getElem?.mp hk) ?_
  intro i hi
  have hrk := hw.rk i k hi
  have hkr := row_num hk
  refine SP_cons (SP_AssignTuple ?_ (by walk_at "m_rfl") (by walk_at "m_rfl"))
  walk_at "n"
  refine SP_unpackT ok hP rfl (by walk_at "m_rfl") rfl ?_
  simp only [bindAll]
  refine Nx.next ?_
  refine SP_cons ?_
  walk_at "n"
  refine SP_sItem hL.b.dicB (bookF_nums K.B) ?_ (by walk_at "m_rfl")
  walk_at "n"
  refine e1_2 hL.b ?_
  intro xs hy1_ hkeys
  obtain ⟨_, _, _, hdd, hnn⟩ := hy1_
  have hnd := hdd
  refine e3_6 hnd ?_
  try clear hnd
  intro _ _ _ _ _ _ _ _ hnd
  obtain ⟨ka, kt, hat⟩ := atKey_idx hnn hnd (by rw [hkeys]; exact hk)
  rw [hkeys] at hat
  refine SP_dItem ok hdd ⟨t1, b, t2, t3, hsa, hb⟩ hrk.1 hat ?_ (by walk_at "m_rfl")
  walk_at "n"
  refine SP_cons ?_
  walk_at "n"
  refine SP_newList (fun L hLn => ?_) (sz (by simp))
  walk_at "n"
  refine SP.gen1 hLn fun N2 k2 eL => ?_
  have L2 := hL.new k2
  have hsa2 := k2 _ _ hsa (by first | exact nm0 | simp)
  have hb2 := hb.keep (k2.tup (by simp))
  refine SP_cons ?_
  refine SP_For ok (by walk_at "m_rfl") ?_ (fun _ => rfl)
  walk_at "n"
  refine SP_itemT hsa2 (by decide) (by decide) rfl ?_ (by walk_at "m_rfl")
  dsimp only
  have nLall : L ∉ K.all := hL.fresh hLn
  have nfL : K.feed ≠ L := by rintro e; exact nLall (e ▸ by simp [LC.all])
  refine SP_iterS ok [(Str.ofString "late", .ref L), (Str.ofString "t", .int (num rows k) kt), (Str.ofString "things", .ref K.G), (Str.ofString "truths", .ref K.T), (Str.ofString "shape", .ref sa), (Str.ofString "book_now", .ref K.B.b), (Str.ofString "bank_now", .ref K.A.x), (Str.ofString "feed", .ref K.feed)]
    (fun i N' => Keep [K.feed, L] N2 N' ∧ LI w K N' (spot + i) rows rows Ts Gs ∧ ∃ vs n es, N' L = some (lst vs n) ∧ IntsAre vs es ∧ es.length = i ∧ Same rows es k.args) (.inr hb2) (by walk_at "m_has") (by exact rfl) ⟨Keep.refl _ _, by simpa using L2, _, _, [], eL, .nil, rfl, by intro j x y h; simp at h⟩ ?_ ?_ ?_ ?_
  · intro I hI i N₁ N₂ ho hz_
    refine e0_3 hz_ ?_
    try clear hz_
    intro hK hl hz0_
    refine e3_2 hz0_ ?_
    try clear hz0_
    intro vs n es e a
    have nI := L2.fresh hI
    refine ⟨fun a o ea hna => ho.2 a o (hK a o ea hna) ?_, hl.off nI ho, vs, n, es, ho.2 _ _ e ?_, a⟩
    · (first | exact neH ea hI (by intro e_; cases e_) | exact Ne.symm (neH ea hI (by intro e_; cases e_)) | (rintro rfl; rw [hI] at ea; cases ea))
    · (first | exact neH eL hI (by intro e_; cases e_) | exact Ne.symm (neH eL hI (by intro e_; cases e_)) | (rintro rfl; rw [hI] at eL; cases eL))
  · rintro i N' ⟨hK, _⟩ o e
    refine e1_2 hb2 ?_
    try clear hb2
    intro vb hvb _
    rw [hvb] at e; cases e
    refine hK _ _ hvb ?_
    simp only [List.mem_cons, List.not_mem_nil, or_false, not_or]
    refine ⟨?_, tupNe eL hvb⟩
    refine e1_2 (L2.fd.nt K.feed (by simp)) ?_
    intro of ef cf
    rintro rfl; rw [hvb] at ef; cases ef; exact cf rfl
  · intro I oI i y ty N3 hI hy ie hIo hz_
    refine e0_3 hz_ ?_
    try clear hz_
    intro hK3 L3 hz0_
    refine e3_4 hz0_ ?_
    try clear hz0_
    intro vs n es eL3 ies les hsame
    have nI := L2.fresh hI
    have hym := hrk.2.2.2.1 y (List.mem_of_getElem? hy)
    have hilt := (List.getElem?_eq_some_iff.mp hi).1
    refine e2_3 L3.b.row ?_
    intro nr ks hr hlen hks
    have hlt : (y - 1).toNat < rows.length := by omega
    refine e1_3 (hks _ _ (List.getElem?_eq_getElem hlt)) ?_
    intro ay hay hkay _
    have hrow : rowOf rows y = some rows[(y - 1).toNat] := List.getElem?_eq_getElem hlt
    have hryk := (hw.rk _ _ hrow).2.1
    generalize rows[(y - 1).toNat] = ky at hkay hrow hryk
    refine e4_2 hkay ?_
    try clear hkay
    intro w1 wb w2 w3 hat2 _
    refine e2_2 L3.t ?_
    intro vT nT hT iT
    refine e2_2 L3.g ?_
    intro vG nG hG iG
    have nTf : K.T ≠ K.feed := L3.at 2 0 (by decide) rfl rfl
    have nGf : K.G ≠ K.feed := L3.at 3 0 (by decide) rfl rfl
    refine SP_cons (SP.mono (Q := fun f l' N' => f = .next ∧ N' = N3 ∧ ∃ S vS nS Ss, l' = (Str.ofString "some", .ref S) :: [(Str.ofString "one", .int y ty), (Str.ofString "late", .ref L), (Str.ofString "t", .int (num rows k) kt), (Str.ofString "things", .ref K.G), (Str.ofString "truths", .ref K.T), (Str.ofString "shape", .ref sa), (Str.ofString "book_now", .ref K.B.b), (Str.ofString "bank_now", .ref K.A.x), (Str.ofString "feed", .ref K.feed)] ∧
      N3 S = some (lst vS nS) ∧ IntsAre vS Ss ∧ 0 < Ss.length ∧ Ss.length < 1000 ∧ S ≠ K.feed ∧ ∀ t ∈ Ss, Typed rows ky.kind t) ?_ ?_)
    · walk_at "n"
      refine SP_sItem L3.b.dicB (bookF_rows K.B) ?_ (by walk_at "m_rfl")
      walk_at "n"
      refine SP_itemL hr (LO.lst _ _) (by first | exact Nat.le_refl _ | exact leK rfl | omega) (by first | exact Nat.le_refl _ | exact leK rfl | omega) hay ?_ (by walk_at "m_rfl")
      walk_at "n"
      refine SP_itemT hat2 (by decide) (by decide) rfl ?_ (by walk_at "m_rfl")
      walk_at "n"
      by_cases hk0' : ky.kind = 0
      · refine Br.of_tt (by first | exact nm1 hk0' | exact nm1 (Ne.symm hk0') | simpa using hk0') ?_
        walk_at "n"
        exact ⟨rfl, rfl, K.T, vT, nT, Ts, rfl, hT, iT, pT, qT, nTf, by rw [hk0']; exact tT⟩
      · refine Br.of_ff (by first | exact nm1 hk0' | exact nm1 (Ne.symm hk0') | simpa using hk0') ?_
        walk_at "n"
        have : ky.kind = 3 := by rcases hryk with h | h; exact absurd h hk0'; exact h
        exact ⟨rfl, rfl, K.G, vG, nG, Gs, rfl, hG, iG, pG, qG, nGf, by rw [this]; exact tG⟩
    intro f l4 N4 hz_
    refine e0_3 hz_ ?_
    try clear hz_
    intro hy0_ hy1_ hz0_
    subst hy0_
    subst hy1_
    refine e4_7 hz0_ ?_
    try clear hz0_
    intro S vS nS Ss hy4_ hS iS pS qS nSf tS
    subst hy4_
    refine Nx.next ?_
    refine SP_cons ?_
    walk_at "n"
    refine SP_mAppend eL3 ?_
    dsimp only
    walk_at "n"
    have lS := iS.length
    refine SP_lenL hS (LO.lst _ _) (by first | exact Nat.le_refl _ | exact leK rfl | omega) fun tl => ?_
    walk_at "n"
    have hil : i < k.args.length := (List.getElem?_eq_some_iff.mp hy).1
    have hal := hrk.2.2.1
    refine SP_use ok (dip_spec (r + 6) L3.fd (by first | exact Nat.le_refl _ | exact leK rfl | omega) (by first | exact Nat.le_refl _ | exact leK rfl | omega) (by first | exact Nat.le_refl _ | exact leK rfl | omega)) (by first | exact Nat.le_refl _ | exact leK rfl | omega) (fun v N5 hz_ => ?_)
    refine e2_5 hz_ ?_
    try clear hz_
    intro res tr e r0 r1 hf5 hK5
    subst e
    have hS5 := hK5 _ _ hS (by first | exact nm1 nSf | exact nm1 (Ne.symm nSf) | simpa using nSf)
    have eL5 := hK5 _ _ eL3 (by first | exact nm1 nfL.symm | exact nm1 (Ne.symm nfL.symm) | simpa using nfL.symm)
    have L5 := L3.feed hK5 hf5
    have hlt2 : res.toNat < vS.length := by omega
    refine e2_2 (iS.at _ _ (List.getElem?_eq_getElem hlt2)) ?_
    intro x tx ex hx
    have hv := List.getElem?_eq_getElem hlt2
    rw [ex] at hv
    walk_at "n"
    refine SP_itemL hS5 (LO.lst _ _) r0 (by first | exact Nat.le_refl _ | exact leK rfl | omega) hv ?_ (by walk_at "m_rfl")
    walk_at "n"
    have lvs := ies.length
    refine SP_append eL5 (sz (by first | exact Nat.le_refl _ | exact leK rfl | omega)) ⟨trivial, ?_⟩
    walk_at "n"
    have nIL : I ≠ L := neN hI eL
    have nIf : I ≠ K.feed := by rintro e; exact nI (e ▸ by simp [LC.all])
    refine TurnEnd.next (by rw [upd_ne nIL]; exact hK5 _ _ hIo (by first | exact nm1 nIf | exact nm1 (Ne.symm nIf) | simpa using nIf)) ⟨by walk_at "m_has", (hK3.trans (hK5.sub (by simp))).trans (Keep.chg (by simp)), ?_, _, _, es ++ [x], upd_self .., ints_snoc ies x tx, by simp [les], ?_⟩
    · rw [show spot + ((i + 1 : Nat) : Int) = spot + i + 1 by omega]
      exact L5.chg nLall eL5 (lst_nt _ _)
    · intro j u v hu hv2
      by_cases hj : j < es.length
      · rw [List.getElem?_append_left hj] at hu; exact hsame j u v hu hv2
      · have : j = es.length := by
          have := (List.getElem?_eq_some_iff.mp hu).1
          simp at this; omega
        subst this
        simp at hu; subst hu
        rw [les, hy] at hv2; cases hv2
        exact ⟨ky.kind, hryk, tS _ (List.mem_of_getElem? hx), hym.1, ky, hrow, rfl⟩
  · intro l' N3 hl' hz_
    refine e0_3 hz_ ?_
    try clear hz_
    intro hK3 L3 hz0_
    refine e3_4 hz0_ ?_
    try clear hz0_
    intro vs n es eL3 ies les hsame
    refine Nx.next (SP.has hl' ?_)
    have hal := hrk.2.2.1
    have hsa3 : N3 sa = some (tupObj [.str k.op t1, .ref b, .int k.kind t2, .int k.data t3]) := by
      refine hK3 _ _ hsa2 ?_
      simp only [List.mem_cons, List.not_mem_nil, or_false, not_or]
      refine ⟨?_, tupNe eL hsa2⟩
      refine e1_2 (L2.fd.nt K.feed (by simp)) ?_
      intro of ef cf
      rintro rfl; rw [hsa2] at ef; cases ef; exact cf rfl
    have tk3 : TupKeep N2 N3 := hK3.tup (by
      intro a ha
      simp only [List.mem_cons, List.not_mem_nil, or_false] at ha
      (rcases ha with ha | ha <;> subst a)
      · exact L2.fd.nt _ (by simp)
      · exact ⟨_, eL, lst_nt _ _⟩)
    have hb3 := hb2.keep tk3
    have kAll : Keep ([K.feed, K.B.r, K.B.d] ++ K.A.mut) N N3 := fun a o e hn => by
      refine hK3 a o (k2 a o e (by first | exact nm0 | simp)) ?_
      simp only [List.mem_cons, List.not_mem_nil, or_false, not_or]
      refine ⟨fun q => hn (q ▸ by simp), ?_⟩
      (first | exact neH e hLn (by intro e_; cases e_) | exact Ne.symm (neH e hLn (by intro e_; cases e_)) | (rintro rfl; rw [hLn] at e; cases e))
    have dok := same_ok hrk hao les hsame hk0
    have dg := due_good (label := k.data) hw dok
    have hvs := ies.length
    refine SP_cons (SP.mono (Q := fun f l' N' => f = .next ∧ ∃ td N5, l' = (Str.ofString "due", .int (if es = k.args then num rows k else (due rows k.op es k.kind k.data).1) td) :: [(Str.ofString "late", .ref L), (Str.ofString "t", .int (num rows k) kt), (Str.ofString "things", .ref K.G), (Str.ofString "truths", .ref K.T), (Str.ofString "shape", .ref sa), (Str.ofString "book_now", .ref K.B.b), (Str.ofString "bank_now", .ref K.A.x), (Str.ofString "feed", .ref K.feed)] ∧
      Keep [] N3 N5 ∧ LI w K N' (spot + k.args.length) rows (if es = k.args then rows else (due rows k.op es k.kind k.data).2) Ts Gs ∧ Keep [K.B.r, K.B.d] N5 N') ?_ ?_)
    · walk_at "n"
      refine SP_tupleL eL3 (LO.lst _ _) (by first | exact Nat.le_refl _ | exact leK rfl | omega) fun q hq => ?_
      refine SP.gen1 hq fun N4 k4 e4 => ?_
      have L4 := L3.new k4
      have hsa4 := k4 _ _ hsa3 (by first | exact nm0 | simp)
      have hb4 := hb3.keep (k4.tup (by simp))
      have eL4 := k4 _ _ eL3 (by first | exact nm0 | simp)
      walk_at "n"
      refine SP_itemT hsa4 (by decide) (by decide) rfl ?_ (by walk_at "m_rfl")
      walk_at "n"
      refine SP_neT ok ⟨vs, e4, ies⟩ hb4 ?_
      walk_at "n"
      by_cases he : es = k.args
      · refine Br.of_ff (by first | exact nm1 he | exact nm1 (Ne.symm he) | simpa using he) ?_
        walk_at "n"
        simp only [if_pos he]
        exact ⟨trivial, _, N4, rfl, k4, L4, Keep.refl _ _⟩
      · refine Br.of_tt (by first | exact nm1 he | exact nm1 (Ne.symm he) | simpa using he) ?_
        walk_at "n"
        refine SP_itemT hsa4 (by decide) (by decide) rfl ?_ (by walk_at "m_rfl")
        walk_at "n"
        refine SP_itemT hsa4 (by decide) (by decide) rfl ?_ (by walk_at "m_rfl")
        walk_at "n"
        refine SP_itemT hsa4 (by decide) (by decide) rfl ?_ (by walk_at "m_rfl")
        walk_at "n"
        refine SP_use ok (due_spec (r + 4) L4.b (by first | exact Nat.le_refl _ | exact leK rfl | omega) eL4 (LO.lst _ _) ies (by first | exact Nat.le_refl _ | exact leK rfl | omega) dok.op (fun q => ?_) (fun q => ?_)) (by first | exact Nat.le_refl _ | exact leK rfl | omega) (fun v N5 ⟨td, e, hB5, hK5⟩ => ?_)
        · refine e0_2 (dok.not q) ?_
          intro _ hz0_
          refine e1_2 hz0_ ?_
          try clear hz0_
          intro x hx tx
          exact ⟨x, hx, tx.1, tx.le, fun k' hk' ho => hw.notOk.args x k' hk' ho⟩
        · refine e0_2 (dok.eq q) ?_
          intro _ hz0_
          refine e3_2 hz0_ ?_
          try clear hz0_
          intro x y s hx _
          rw [hx]; exact (by decide : 1 < 2)
        · subst e
          walk_at "n"
          simp only [if_neg he]
          exact ⟨trivial, td, N4, rfl, k4, L4.book hK5 hB5, hK5⟩
    intro f l5 N6 hz_
    refine e0_2 hz_ ?_
    try clear hz_
    intro hy0_ hz0_
    subst hy0_
    refine e2_4 hz0_ ?_
    try clear hz0_
    intro td N5 hy2_ k5 L6 hK6
    subst hy2_
    refine Nx.next ?_
    have wf' : WF (if es = k.args then rows else (due rows k.op es k.kind k.data).2) := by split; exact hw; exact dg.wf
    have ex' : Ext rows (if es = k.args then rows else (due rows k.op es k.kind k.data).2) := by split; exact .refl _; exact dg.ext
    have tkb : TupKeep N3 N6 := fun a vs e => hK6 a _ (k5 a _ e (by first | exact nm0 | simp)) (fun hm => by
      have L5 : LI w K N5 (spot + k.args.length) rows rows Ts Gs := (show LI w K N3 (spot + k.args.length) rows rows Ts Gs from L3).new k5
      refine e1_2 (L5.b.nt a hm) ?_
      intro o eo co
      rw [k5 a _ e (by first | exact nm0 | simp)] at eo; cases eo; exact co rfl)
    have hsa6 := tkb _ _ hsa3
    have hb6 := hb3.keep tkb
    have eL6 : N6 L = some (lst vs n) := hK6 _ _ (k5 _ _ eL3 (by first | exact nm0 | simp)) (by
      simp only [List.mem_cons, List.not_mem_nil, or_false, not_or]
      exact ⟨fun q => nLall (q ▸ by simp [LC.all]), fun q => nLall (q ▸ by simp [LC.all])⟩)
    have kAll6 : Keep ([K.feed, K.B.r, K.B.d] ++ K.A.mut) N N6 := (kAll.trans (k5.sub (by simp))).trans (hK6.sub (by simp))
    generalize hrow' : (if es = k.args then rows else (due rows k.op es k.kind k.data).2) = rows' at wf' ex' L6
    generalize hd' : (if es = k.args then num rows k else (due rows k.op es k.kind k.data).1) = d'
    have hlen' := ex'.len
    have hao' := L6.a.o
    refine SP_cons ?_
    walk_at "n"
    refine SP_tupleL eL6 (LO.lst _ _) (by first | exact Nat.le_refl _ | exact leK rfl | omega) fun q hq => ?_
    refine SP.gen1 hq fun N7 k7 e7 => ?_
    have L7 := L6.new k7
    walk_at "n"
    refine SP_use ok (folded_spec (r + 3) L7.a (num_ge _ _) hkr hrk.1 ⟨vs, e7, ies⟩ (by first | exact Nat.le_refl _ | exact leK rfl | omega) hw.notOk (fun q => ?_) (fun q => ?_) hao) (by first | exact Nat.le_refl _ | exact leK rfl | omega) (fun v N8 ⟨tf, e, hA8, hK8⟩ => ?_)
    · obtain ⟨_, x, y, s, a⟩ := dok.eq q; exact ⟨x, y, s, a⟩
    · obtain ⟨_, x, a⟩ := dok.not q; exact ⟨x, a⟩
    subst e
    rw [hrow'] at hA8
    rw [hd']
    have L8 := L7.bank hK8 hA8
    have hO8 := L8.a.o
    have tk8 : TupKeep N6 N8 := (k7.tup (by simp)).trans (hK8.tup L7.a.nt)
    have hsa8 := tk8 _ _ hsa6
    have hb8 := hb6.keep tk8
    walk_at "n"
    refine Br.of_tt (by simp) ?_
    walk_at "n"
    refine SP_itemT hsa8 (by decide) (by decide) rfl ?_ (by walk_at "m_rfl")
    walk_at "n"
    refine SP_use ok (folded_spec (r + 3) L8.a (num_ge _ _) (ex'.row hkr) hrk.1 hb8 (by first | exact Nat.le_refl _ | exact leK rfl | omega) wf'.notOk (fun q => ?_) (fun q => ?_) hao) (by first | exact Nat.le_refl _ | exact leK rfl | omega) (fun v N9 ⟨tf2, e, hA9, hK9⟩ => ?_)
    · exact (hrk.ext ex').2.2.2.2.2 q
    · exact (hrk.ext ex').2.2.2.2.1 q
    subst e
    rw [if_pos rfl] at hA9
    rw [if_pos rfl]
    walk_at "n"
    rw [beq_self_eq_true]
    refine ⟨rfl, rows', _, L8.bank hK9 hA9, wf', ex', ?_, ?_, ((kAll6.trans (k7.sub (by simp))).trans (hK8.sub (fun a ha => List.mem_append_right _ ha))).trans (hK9.sub (fun a ha => List.mem_append_right _ ha))⟩
    · omega
    · omega
end is_again_spec_c
theorem is_again_spec {w : World} {K : LC} {N : Hl} {spot : Int} {rows : Rws} {Ts Gs : List Int} {P sa b : Addr} {k : Sh} {t1 t2 t3 u1 u2 u3 : Tok} (r : Nat) (hL : LI w K N spot rows rows Ts Gs) (hw : WF rows) (hz : rows.length < 900) (h0 : 0 ≤ spot) (h1 : spot < 900000)
    (tT : ∀ t ∈ Ts, Typed rows 0 t) (tG : ∀ t ∈ Gs, Typed rows 3 t) (pT : 0 < Ts.length) (pG : 0 < Gs.length) (qT : Ts.length < 1000) (qG : Gs.length < 1000)
    (hP : N P = some (tupObj [.ref sa, .str k.op u1, .ref b, .int k.kind u2, .int k.data u3, .ref K.T, .ref K.G])) (hsa : N sa = some (tupObj [.str k.op t1, .ref b, .int k.kind t2, .int k.data t3])) (hb : TupI N b k.args)
    (hk : k ∈ rows) (hao : k.op ≠ sAnd ∧ k.op ≠ sOr) (hk0 : (k.op = sNot ∨ k.op = sEq) → k.kind = 0) :
    Calls w 457 [.ref K.feed, .ref K.A.x, .ref K.B.b, .ref P] N (r + 8) (fun v N' => v = .bool true ∧ ∃ rows' spot', LI w K N' spot' rows' rows' Ts Gs ∧ WF rows' ∧ Ext rows rows' ∧ spot ≤ spot' ∧ spot' ≤ spot + 3 ∧ Keep ([K.feed, K.B.r, K.B.d] ++ K.A.mut) N N') :=
  pickAll (P := fun q : World × LC × Hl × Int × Rws × List Int × List Int × Addr × Sh × Tok × Tok × Tok × Tok × Tok × Tok × Nat => is_again_spec_c.Prp q.1 q.2.1 q.2.2.1 q.2.2.2.1 q.2.2.2.2.1 q.2.2.2.2.2.1 q.2.2.2.2.2.2.1 q.2.2.2.2.2.2.2.1 q.2.2.2.2.2.2.2.2.1 q.2.2.2.2.2.2.2.2.2.1 q.2.2.2.2.2.2.2.2.2.2.1 q.2.2.2.2.2.2.2.2.2.2.2.1 q.2.2.2.2.2.2.2.2.2.2.2.2.1 q.2.2.2.2.2.2.2.2.2.2.2.2.2.1 q.2.2.2.2.2.2.2.2.2.2.2.2.2.2.1 q.2.2.2.2.2.2.2.2.2.2.2.2.2.2.2) (aWorld 0, ⟨⟨0, 0, [], 0, 0, 0, 0, 0, 0, 0, 0, 0, 0, 0⟩, ⟨0, 0, 0⟩, 0, 0, 0, 0, 0, []⟩, fun _ => none, 0, [], [], [], 0, ⟨Str.empty, [], 0, 0⟩, 0, 0, 0, 0, 0, 0, 0) (by with_unfolding_all exact is_again_spec_c.core) (w, K, N, spot, rows, Ts, Gs, P, k, t1, t2, t3, u1, u2, u3, r) sa b hL hw hz h0 h1 tT tG pT pG qT qG hP hsa hb hk hao hk0
end
/-! part Fn16 -/
section
set_option linter.unusedVariables false
theorem nodup_of_ix : ∀ {l m : List Addr} (is : List Nat), l.Nodup → is.Nodup → m.map some = is.map (l[·]?) → m.Nodup
  | l, [], is, _, _, _ => List.nodup_nil
  | l, a :: m, [], _, _, e => by simp at e
  | l, a :: m, i :: is, h, hi, e => by
    rw [List.map_cons, List.map_cons] at e
    injection e with e1 e2
    rw [List.nodup_cons] at hi ⊢
    refine ⟨fun hm => ?_, nodup_of_ix is h hi.2 e2⟩
    have : some a ∈ is.map (l[·]?) := by rw [← e2]; exact List.mem_map.mpr ⟨a, hm, rfl⟩
    refine e1_2 (List.mem_map.mp this) ?_
    intro j hj ej
    have hne : i ≠ j := by rintro rfl; exact hi.1 hj
    exact nd_ne h i j hne e1.symm ej rfl
/-- places known and apart -/
def Apart (N : Hl) (ds : List Addr) : Prop := ds.Nodup ∧ ∀ a ∈ ds, ∃ o, N a = some o
theorem Apart.new {N N' : Hl} {ds : List Addr} (h : Apart N ds) {q : Addr} (hq : N q = none) (hk : ∀ a o, N a = some o → ∃ o', N' a = some o') (e : ∃ o, N' q = some o) : Apart N' (q :: ds) := by
  refine ⟨List.nodup_cons.mpr ⟨fun hm => ?_, h.1⟩, fun a ha => ?_⟩
  · obtain ⟨o, eo⟩ := h.2 q hm; rw [hq] at eo; cases eo
  · rcases List.mem_cons.mp ha with rfl | ha
    · exact e
    · obtain ⟨o, eo⟩ := h.2 a ha; exact hk a o eo
theorem Apart.keep {N N' : Hl} {ds : List Addr} (h : Apart N ds) (hk : ∀ a o, N a = some o → ∃ o', N' a = some o') : Apart N' ds := ⟨h.1, fun a ha => let ⟨o, e⟩ := h.2 a ha; hk a o e⟩
structure InitPost (w : World) (N₀ : Hl) (x : Addr) (N' : Hl) (A : BnkA) (sn sw : Addr) : Prop where
  x : A.x = x
  a : BankIn w N' A [⟨sTrue, [], 0, 0⟩, ⟨sFalse, [], 0, 0⟩]
  f : FunsIn N' A []
  g1 : getL (Str.ofString "sort_names") A.es = some (some (.ref sn))
  g2 : getL (Str.ofString "sort_widths") A.es = some (some (.ref sw))
  g3 : getL (Str.ofString "declare_sort") A.es = some none
  s1 : ∃ v n, N' sn = some (lst v n) ∧ v.length = 3
  s2 : ∃ v n, N' sw = some (lst v n) ∧ v.length = 3
  nd : [sn, sw, A.x, A.dx, A.ops, A.args, A.sorts, A.datas, A.nums, A.fnames, A.fargs, A.fres].Nodup
  fr : ∀ a ∈ [sn, sw, A.x, A.dx, A.ops, A.args, A.sorts, A.datas, A.nums, A.fnames, A.fargs, A.fres], N₀ a = none
  kp : Keep [] N₀ N'
theorem keep_ex {ds : List Addr} {N N' : Hl} (k : Keep ds N N') (hd : ∀ a ∈ ds, ∃ o, N' a = some o) : ∀ a o, N a = some o → ∃ o', N' a = some o' := fun a o e => by
  by_cases h : a ∈ ds
  · exact hd a h
  · exact ⟨o, k a o e h⟩
theorem SP_setAttrK {w : World} {C : Cx} {l : Ls} {N : Hl} {env : Env} {r : Nat} (ok : Ok w C env r) {x dx : Addr} {es : List DictEntry} {kvs : List (Str × Value)} {n : Nat} {name : Str} {v : Value} {Q : Unit → Ls → Hl → Prop} (h1 : N x = some (instObj 387 dx)) (h2 : N dx = some (dictOf es n)) (hes : EsL es kvs) (hname : kvs.lookup name = none) (hlen : kvs.length < 900)
    (ht : takerIn (KH w.params) 387 name = some none)
    (h : ∀ es' n' N', EsL es' (kvs ++ [(name, v)]) → Keep [dx] N N' → N' dx = some (dictOf es' n') → Q () l N') : SP w C (setAttr (.ref x) name v) l N Q :=
  SP_setAttr ok h1 h2 hes hname hlen (by k_is) (by k_is) ht hdA fun es' n' he => h es' n' _ he (Keep.chg (by simp)) (upd_self ..)
theorem kz_dx {N₀ N N' : Hl} {dx : Addr} (h : Keep [] N₀ N) (hd : N₀ dx = none) (k : Keep [dx] N N') : Keep [] N₀ N' := fun a o e hn => k a o (h a o e hn) (by
  rw [List.mem_singleton]; (first | exact neH e hd (by intro e_; cases e_) | exact Ne.symm (neH e hd (by intro e_; cases e_)) | (rintro rfl; rw [hd] at e; cases e)))
theorem fresh0 {N₀ N : Hl} {q : Addr} (k : Keep [] N₀ N) (h : N q = none) : N₀ q = none := by
  cases e : N₀ q with
  | none => rfl
  | some o => rw [k _ _ e (by first | exact nm0 | simp)] at h; cases h
theorem BankL.es {w : World} {N : Hl} {A : BnkA} {rows : Rws} {vo : List Value} {no : Nat} {va : List Value} {na : Nat} {vs : List Value} {ns : Nat} {vd : List Value} {nd : Nat} {xs : List (Sh × Addr × Value)} (h : BankL w N A rows vo no va na vs ns vd nd xs) (es : List DictEntry) (n : Nat) (tt tf : Tok) :
    BankL w N { A with es := es, n := n, tt := tt, tf := tf } rows vo no va na vs ns vd nd xs := ⟨h.ops, h.opsI, h.args, h.argsI, h.sorts, h.sortsI, h.datas, h.datasI, h.nums, h.numd, h.keys⟩
theorem dicH_empty {w : World} {N : Hl} {d : Addr} (e : N d = some { cls := .type "dict", data := .dict #[] }) : DicH w N d [] := ⟨_, #[], 0, e, ⟨rfl, rfl, rfl⟩, rfl, rfl, by simp, List.nodup_nil⟩
theorem okTrue : OpOk ⟨sTrue, [], 0, 0⟩ := by show PyData.strOk sTrue = true; decide +kernel
theorem okFalse : OpOk ⟨sFalse, [], 0, 0⟩ := by show PyData.strOk sFalse = true; decide +kernel
namespace init_spec_c
def P (w : World) (N₀ : Hl) (x : Addr) (dx : Addr) (r : Nat) : Prop := ∀ (hx0 : N₀ x = none) (hdx0 : N₀ dx = none) (hne : x ≠ dx), CallsC w 83 [.ref x] (upd (upd N₀ dx (dictOf [] 0)) x (instObj 387 dx)) (r + 3) (fun v N' => v = .none ∧ ∃ A sn sw, InitPost w N₀ x N' A sn sw)
noncomputable def V : World × Hl × Addr × Addr × Nat := pick (aWorld 0, fun _ => none, 0, 0, 0) fun q => P q.1 q.2.1 q.2.2.1 q.2.2.2.1 q.2.2.2.2
@[irreducible] noncomputable def w : World := V.1
@[irreducible] noncomputable def N₀ : Hl := V.2.1
@[irreducible] noncomputable def x : Addr := V.2.2.1
@[irreducible] noncomputable def dx : Addr := V.2.2.2.1
@[irreducible] noncomputable def r : Nat := V.2.2.2.2
set_option maxHeartbeats 4000000 in
theorem core : P w N₀ x dx r := by
  unfold P
  intro hx0 hdx0 hne
  refine' enterCode [(Str.ofString "self", .ref x)] [(Str.ofString "self", .ref x)] ?ho ?hcd ?hb ?hl ?c1 ?c2 ?c3 ?c4 ?c5 ?_
  walk_at "m_ent"
  intro C ok
  have hx : upd (upd N₀ dx (dictOf [] 0)) x (instObj 387 dx) x = some (instObj 387 dx) := upd_self ..
  have hd0 : upd (upd N₀ dx (dictOf [] 0)) x (instObj 387 dx) dx = some (dictOf [] 0) := by rw [upd_ne hne.symm, upd_self]
  have k0 : Keep [] N₀ (upd (upd N₀ dx (dictOf [] 0)) x (instObj 387 dx)) := (Keep.new hdx0).trans (Keep.new (by rw [upd_ne hne]; exact hx0))
  generalize upd (upd N₀ dx (dictOf [] 0)) x (instObj 387 dx) = N at hx hd0 k0
  have ap : Apart N [x, dx] := ⟨by simp [hne], by intro a ha; simp only [List.mem_cons, List.not_mem_nil, or_false] at ha; (rcases ha with ha | ha <;> subst a); exact ⟨_, hx⟩; exact ⟨_, hd0⟩⟩
  have kd : Keep [dx] N N := Keep.refl _ _
  have hes : EsL [] [] := .nil
  refine SP_cons (SP_AssignAttr ?_ (by walk_at "m_rfl"))
  walk_at "n"
  refine SP_newList (fun q1 hq1 => ?_) (sz (by simp))
  walk_at "n"
  refine SP.gen1 hq1 fun P1 kp1 e1 => ?_
  have fr1 := fresh0 k0 hq1
  have kzp1 := k0.trans kp1
  have hxp1 := kp1 _ _ hx (by first | exact nm0 | simp)
  have hdp1 := kp1 _ _ hd0 (by first | exact nm0 | simp)
  have app1 := ap.new hq1 (keep_ex kp1 (by simp)) ⟨_, e1⟩
  have n_q1 : q1 ≠ dx := neN hq1 hd0
  refine SP_setAttrK ok hxp1 hdp1 hes (by rfl) (by simp) (by k_is) fun es1 n1 N1 hes1 kd1 hd1 => ?_
  refine Nx.next ?_
  have hx1 := kd1 _ _ hxp1 (by first | exact nm1 hne | exact nm1 (Ne.symm hne) | simpa using hne)
  have kz1 := kz_dx kzp1 hdx0 kd1
  have ap1 := app1.keep (keep_ex kd1 (by intro a ha; rw [List.mem_singleton] at ha; subst a; exact ⟨_, hd1⟩))
  have e1x1 := kd1 _ _ e1 (by first | exact nm1 n_q1 | exact nm1 (Ne.symm n_q1) | simpa using n_q1)
  refine SP_cons (SP_AssignAttr ?_ (by walk_at "m_rfl"))
  walk_at "n"
  refine SP_newList (fun q2 hq2 => ?_) (sz (by simp))
  walk_at "n"
  refine SP.gen1 hq2 fun P2 kp2 e2 => ?_
  have fr2 := fresh0 kz1 hq2
  have kzp2 := kz1.trans kp2
  have hxp2 := kp2 _ _ hx1 (by first | exact nm0 | simp)
  have hdp2 := kp2 _ _ hd1 (by first | exact nm0 | simp)
  have app2 := ap1.new hq2 (keep_ex kp2 (by simp)) ⟨_, e2⟩
  have n_q2 : q2 ≠ dx := neN hq2 hd1
  have e1p2 := kp2 _ _ e1x1 (by first | exact nm0 | simp)
  refine SP_setAttrK ok hxp2 hdp2 hes1 (by rfl) (by simp) (by k_is) fun es2 n2 N2 hes2 kd2 hd2 => ?_
  refine Nx.next ?_
  have hx2 := kd2 _ _ hxp2 (by first | exact nm1 hne | exact nm1 (Ne.symm hne) | simpa using hne)
  have kz2 := kz_dx kzp2 hdx0 kd2
  have ap2 := app2.keep (keep_ex kd2 (by intro a ha; rw [List.mem_singleton] at ha; subst a; exact ⟨_, hd2⟩))
  have e1x2 := kd2 _ _ e1p2 (by first | exact nm1 n_q1 | exact nm1 (Ne.symm n_q1) | simpa using n_q1)
  have e2x2 := kd2 _ _ e2 (by first | exact nm1 n_q2 | exact nm1 (Ne.symm n_q2) | simpa using n_q2)
  refine SP_cons (SP_AssignAttr ?_ (by walk_at "m_rfl"))
  walk_at "n"
  refine SP_newList (fun q3 hq3 => ?_) (sz (by simp))
  walk_at "n"
  refine SP.gen1 hq3 fun P3 kp3 e3 => ?_
  have fr3 := fresh0 kz2 hq3
  have kzp3 := kz2.trans kp3
  have hxp3 := kp3 _ _ hx2 (by first | exact nm0 | simp)
  have hdp3 := kp3 _ _ hd2 (by first | exact nm0 | simp)
  have app3 := ap2.new hq3 (keep_ex kp3 (by simp)) ⟨_, e3⟩
  have n_q3 : q3 ≠ dx := neN hq3 hd2
  have e1p3 := kp3 _ _ e1x2 (by first | exact nm0 | simp)
  have e2p3 := kp3 _ _ e2x2 (by first | exact nm0 | simp)
  refine SP_setAttrK ok hxp3 hdp3 hes2 (by rfl) (by simp) (by k_is) fun es3 n3 N3 hes3 kd3 hd3 => ?_
  refine Nx.next ?_
  have hx3 := kd3 _ _ hxp3 (by first | exact nm1 hne | exact nm1 (Ne.symm hne) | simpa using hne)
  have kz3 := kz_dx kzp3 hdx0 kd3
  have ap3 := app3.keep (keep_ex kd3 (by intro a ha; rw [List.mem_singleton] at ha; subst a; exact ⟨_, hd3⟩))
  have e1x3 := kd3 _ _ e1p3 (by first | exact nm1 n_q1 | exact nm1 (Ne.symm n_q1) | simpa using n_q1)
  have e2x3 := kd3 _ _ e2p3 (by first | exact nm1 n_q2 | exact nm1 (Ne.symm n_q2) | simpa using n_q2)
  have e3x3 := kd3 _ _ e3 (by first | exact nm1 n_q3 | exact nm1 (Ne.symm n_q3) | simpa using n_q3)
  refine SP_cons (SP_AssignAttr ?_ (by walk_at "m_rfl"))
  walk_at "n"
  refine SP_newList (fun q4 hq4 => ?_) (sz (by simp))
  walk_at "n"
  refine SP.gen1 hq4 fun P4 kp4 e4 => ?_
  have fr4 := fresh0 kz3 hq4
  have kzp4 := kz3.trans kp4
  have hxp4 := kp4 _ _ hx3 (by first | exact nm0 | simp)
  have hdp4 := kp4 _ _ hd3 (by first | exact nm0 | simp)
  have app4 := ap3.new hq4 (keep_ex kp4 (by simp)) ⟨_, e4⟩
  have n_q4 : q4 ≠ dx := neN hq4 hd3
  have e1p4 := kp4 _ _ e1x3 (by first | exact nm0 | simp)
  have e2p4 := kp4 _ _ e2x3 (by first | exact nm0 | simp)
  have e3p4 := kp4 _ _ e3x3 (by first | exact nm0 | simp)
  refine SP_setAttrK ok hxp4 hdp4 hes3 (by rfl) (by simp) (by k_is) fun es4 n4 N4 hes4 kd4 hd4 => ?_
  refine Nx.next ?_
  have hx4 := kd4 _ _ hxp4 (by first | exact nm1 hne | exact nm1 (Ne.symm hne) | simpa using hne)
  have kz4 := kz_dx kzp4 hdx0 kd4
  have ap4 := app4.keep (keep_ex kd4 (by intro a ha; rw [List.mem_singleton] at ha; subst a; exact ⟨_, hd4⟩))
  have e1x4 := kd4 _ _ e1p4 (by first | exact nm1 n_q1 | exact nm1 (Ne.symm n_q1) | simpa using n_q1)
  have e2x4 := kd4 _ _ e2p4 (by first | exact nm1 n_q2 | exact nm1 (Ne.symm n_q2) | simpa using n_q2)
  have e3x4 := kd4 _ _ e3p4 (by first | exact nm1 n_q3 | exact nm1 (Ne.symm n_q3) | simpa using n_q3)
  have e4x4 := kd4 _ _ e4 (by first | exact nm1 n_q4 | exact nm1 (Ne.symm n_q4) | simpa using n_q4)
  refine SP_cons (SP_AssignAttr ?_ (by walk_at "m_rfl"))
  walk_at "n"
  refine SP_newList (fun q5 hq5 => ?_) (sz (by simp))
  walk_at "n"
  refine SP.gen1 hq5 fun P5 kp5 e5 => ?_
  have fr5 := fresh0 kz4 hq5
  have kzp5 := kz4.trans kp5
  have hxp5 := kp5 _ _ hx4 (by first | exact nm0 | simp)
  have hdp5 := kp5 _ _ hd4 (by first | exact nm0 | simp)
  have app5 := ap4.new hq5 (keep_ex kp5 (by simp)) ⟨_, e5⟩
  have n_q5 : q5 ≠ dx := neN hq5 hd4
  have e1p5 := kp5 _ _ e1x4 (by first | exact nm0 | simp)
  have e2p5 := kp5 _ _ e2x4 (by first | exact nm0 | simp)
  have e3p5 := kp5 _ _ e3x4 (by first | exact nm0 | simp)
  have e4p5 := kp5 _ _ e4x4 (by first | exact nm0 | simp)
  refine SP_setAttrK ok hxp5 hdp5 hes4 (by rfl) (by simp) (by k_is) fun es5 n5 N5 hes5 kd5 hd5 => ?_
  refine Nx.next ?_
  have hx5 := kd5 _ _ hxp5 (by first | exact nm1 hne | exact nm1 (Ne.symm hne) | simpa using hne)
  have kz5 := kz_dx kzp5 hdx0 kd5
  have ap5 := app5.keep (keep_ex kd5 (by intro a ha; rw [List.mem_singleton] at ha; subst a; exact ⟨_, hd5⟩))
  have e1x5 := kd5 _ _ e1p5 (by first | exact nm1 n_q1 | exact nm1 (Ne.symm n_q1) | simpa using n_q1)
  have e2x5 := kd5 _ _ e2p5 (by first | exact nm1 n_q2 | exact nm1 (Ne.symm n_q2) | simpa using n_q2)
  have e3x5 := kd5 _ _ e3p5 (by first | exact nm1 n_q3 | exact nm1 (Ne.symm n_q3) | simpa using n_q3)
  have e4x5 := kd5 _ _ e4p5 (by first | exact nm1 n_q4 | exact nm1 (Ne.symm n_q4) | simpa using n_q4)
  have e5x5 := kd5 _ _ e5 (by first | exact nm1 n_q5 | exact nm1 (Ne.symm n_q5) | simpa using n_q5)
  refine SP_cons (SP_AssignAttr ?_ (by walk_at "m_rfl"))
  walk_at "n"
  refine SP_setAttrK ok hx5 hd5 hes5 (by rfl) (by simp) (by k_is) fun es6 n6 N6 hes6 kd6 hd6 => ?_
  refine Nx.next ?_
  have hx6 := kd6 _ _ hx5 (by first | exact nm1 hne | exact nm1 (Ne.symm hne) | simpa using hne)
  have kz6 := kz_dx kz5 hdx0 kd6
  have ap6 := ap5.keep (keep_ex kd6 (by intro a ha; rw [List.mem_singleton] at ha; subst a; exact ⟨_, hd6⟩))
  have e16 := kd6 _ _ e1x5 (by first | exact nm1 n_q1 | exact nm1 (Ne.symm n_q1) | simpa using n_q1)
  have e26 := kd6 _ _ e2x5 (by first | exact nm1 n_q2 | exact nm1 (Ne.symm n_q2) | simpa using n_q2)
  have e36 := kd6 _ _ e3x5 (by first | exact nm1 n_q3 | exact nm1 (Ne.symm n_q3) | simpa using n_q3)
  have e46 := kd6 _ _ e4x5 (by first | exact nm1 n_q4 | exact nm1 (Ne.symm n_q4) | simpa using n_q4)
  have e56 := kd6 _ _ e5x5 (by first | exact nm1 n_q5 | exact nm1 (Ne.symm n_q5) | simpa using n_q5)
  refine SP_cons (SP_AssignAttr ?_ (by walk_at "m_rfl"))
  walk_at "n"
  refine SP_newList (fun q7 hq7 => ?_) (sz (by simp))
  walk_at "n"
  refine SP.gen1 hq7 fun P7 kp7 e7 => ?_
  have fr7 := fresh0 kz6 hq7
  have kzp7 := kz6.trans kp7
  have hxp7 := kp7 _ _ hx6 (by first | exact nm0 | simp)
  have hdp7 := kp7 _ _ hd6 (by first | exact nm0 | simp)
  have app7 := ap6.new hq7 (keep_ex kp7 (by simp)) ⟨_, e7⟩
  have n_q7 : q7 ≠ dx := neN hq7 hd6
  have e1p7 := kp7 _ _ e16 (by first | exact nm0 | simp)
  have e2p7 := kp7 _ _ e26 (by first | exact nm0 | simp)
  have e3p7 := kp7 _ _ e36 (by first | exact nm0 | simp)
  have e4p7 := kp7 _ _ e46 (by first | exact nm0 | simp)
  have e5p7 := kp7 _ _ e56 (by first | exact nm0 | simp)
  refine SP_setAttrK ok hxp7 hdp7 hes6 (by rfl) (by simp) (by k_is) fun es7 n7 N7 hes7 kd7 hd7 => ?_
  refine Nx.next ?_
  have hx7 := kd7 _ _ hxp7 (by first | exact nm1 hne | exact nm1 (Ne.symm hne) | simpa using hne)
  have kz7 := kz_dx kzp7 hdx0 kd7
  have ap7 := app7.keep (keep_ex kd7 (by intro a ha; rw [List.mem_singleton] at ha; subst a; exact ⟨_, hd7⟩))
  have e1x7 := kd7 _ _ e1p7 (by first | exact nm1 n_q1 | exact nm1 (Ne.symm n_q1) | simpa using n_q1)
  have e2x7 := kd7 _ _ e2p7 (by first | exact nm1 n_q2 | exact nm1 (Ne.symm n_q2) | simpa using n_q2)
  have e3x7 := kd7 _ _ e3p7 (by first | exact nm1 n_q3 | exact nm1 (Ne.symm n_q3) | simpa using n_q3)
  have e4x7 := kd7 _ _ e4p7 (by first | exact nm1 n_q4 | exact nm1 (Ne.symm n_q4) | simpa using n_q4)
  have e5x7 := kd7 _ _ e5p7 (by first | exact nm1 n_q5 | exact nm1 (Ne.symm n_q5) | simpa using n_q5)
  have e7x7 := kd7 _ _ e7 (by first | exact nm1 n_q7 | exact nm1 (Ne.symm n_q7) | simpa using n_q7)
  refine SP_cons (SP_AssignAttr ?_ (by walk_at "m_rfl"))
  walk_at "n"
  refine SP_newTuple (fun qt hqt => ?_) (sz (by simp))
  refine SP.gen1 hqt fun M8 km8 et => ?_
  have frt := fresh0 kz7 hqt
  have kzm8 := kz7.trans km8
  walk_at "n"
  have hxm8 := km8 _ _ hx7 (by first | exact nm0 | simp)
  have hdm8 := km8 _ _ hd7 (by first | exact nm0 | simp)
  have apm8 := ap7.keep (keep_ex km8 (by simp))
  have e1m8 := km8 _ _ e1x7 (by first | exact nm0 | simp)
  have e2m8 := km8 _ _ e2x7 (by first | exact nm0 | simp)
  have e3m8 := km8 _ _ e3x7 (by first | exact nm0 | simp)
  have e4m8 := km8 _ _ e4x7 (by first | exact nm0 | simp)
  have e5m8 := km8 _ _ e5x7 (by first | exact nm0 | simp)
  have e7m8 := km8 _ _ e7x7 (by first | exact nm0 | simp)
  refine SP_newList (fun q8 hq8 => ?_) (sz (by simp))
  walk_at "n"
  refine SP.gen1 hq8 fun P8 kp8 e8 => ?_
  have fr8 := fresh0 kzm8 hq8
  have kzp8 := kzm8.trans kp8
  have hxp8 := kp8 _ _ hxm8 (by first | exact nm0 | simp)
  have hdp8 := kp8 _ _ hdm8 (by first | exact nm0 | simp)
  have app8 := apm8.new hq8 (keep_ex kp8 (by simp)) ⟨_, e8⟩
  have n_q8 : q8 ≠ dx := neN hq8 hdm8
  have e1p8 := kp8 _ _ e1m8 (by first | exact nm0 | simp)
  have e2p8 := kp8 _ _ e2m8 (by first | exact nm0 | simp)
  have e3p8 := kp8 _ _ e3m8 (by first | exact nm0 | simp)
  have e4p8 := kp8 _ _ e4m8 (by first | exact nm0 | simp)
  have e5p8 := kp8 _ _ e5m8 (by first | exact nm0 | simp)
  have e7p8 := kp8 _ _ e7m8 (by first | exact nm0 | simp)
  have etp := kp8 _ _ et (by first | exact nm0 | simp)
  have n_qt : qt ≠ dx := neN hqt hd7
  refine SP_setAttrK ok hxp8 hdp8 hes7 (by rfl) (by simp) (by k_is) fun es8 n8 N8 hes8 kd8 hd8 => ?_
  refine Nx.next ?_
  have hx8 := kd8 _ _ hxp8 (by first | exact nm1 hne | exact nm1 (Ne.symm hne) | simpa using hne)
  have kz8 := kz_dx kzp8 hdx0 kd8
  have ap8 := app8.keep (keep_ex kd8 (by intro a ha; rw [List.mem_singleton] at ha; subst a; exact ⟨_, hd8⟩))
  have e1x8 := kd8 _ _ e1p8 (by first | exact nm1 n_q1 | exact nm1 (Ne.symm n_q1) | simpa using n_q1)
  have e2x8 := kd8 _ _ e2p8 (by first | exact nm1 n_q2 | exact nm1 (Ne.symm n_q2) | simpa using n_q2)
  have e3x8 := kd8 _ _ e3p8 (by first | exact nm1 n_q3 | exact nm1 (Ne.symm n_q3) | simpa using n_q3)
  have e4x8 := kd8 _ _ e4p8 (by first | exact nm1 n_q4 | exact nm1 (Ne.symm n_q4) | simpa using n_q4)
  have e5x8 := kd8 _ _ e5p8 (by first | exact nm1 n_q5 | exact nm1 (Ne.symm n_q5) | simpa using n_q5)
  have e7x8 := kd8 _ _ e7p8 (by first | exact nm1 n_q7 | exact nm1 (Ne.symm n_q7) | simpa using n_q7)
  have e8x8 := kd8 _ _ e8 (by first | exact nm1 n_q8 | exact nm1 (Ne.symm n_q8) | simpa using n_q8)
  have etpx8 := kd8 _ _ etp (by first | exact nm1 n_qt | exact nm1 (Ne.symm n_qt) | simpa using n_qt)
  refine SP_cons (SP_AssignAttr ?_ (by walk_at "m_rfl"))
  walk_at "n"
  refine SP_newList (fun q9 hq9 => ?_) (sz (by simp))
  walk_at "n"
  refine SP.gen1 hq9 fun P9 kp9 e9 => ?_
  have fr9 := fresh0 kz8 hq9
  have kzp9 := kz8.trans kp9
  have hxp9 := kp9 _ _ hx8 (by first | exact nm0 | simp)
  have hdp9 := kp9 _ _ hd8 (by first | exact nm0 | simp)
  have app9 := ap8.new hq9 (keep_ex kp9 (by simp)) ⟨_, e9⟩
  have n_q9 : q9 ≠ dx := neN hq9 hd8
  have e1p9 := kp9 _ _ e1x8 (by first | exact nm0 | simp)
  have e2p9 := kp9 _ _ e2x8 (by first | exact nm0 | simp)
  have e3p9 := kp9 _ _ e3x8 (by first | exact nm0 | simp)
  have e4p9 := kp9 _ _ e4x8 (by first | exact nm0 | simp)
  have e5p9 := kp9 _ _ e5x8 (by first | exact nm0 | simp)
  have e7p9 := kp9 _ _ e7x8 (by first | exact nm0 | simp)
  have e8p9 := kp9 _ _ e8x8 (by first | exact nm0 | simp)
  have etpp9 := kp9 _ _ etpx8 (by first | exact nm0 | simp)
  refine SP_setAttrK ok hxp9 hdp9 hes8 (by rfl) (by simp) (by k_is) fun es9 n9 N9 hes9 kd9 hd9 => ?_
  refine Nx.next ?_
  have hx9 := kd9 _ _ hxp9 (by first | exact nm1 hne | exact nm1 (Ne.symm hne) | simpa using hne)
  have kz9 := kz_dx kzp9 hdx0 kd9
  have ap9 := app9.keep (keep_ex kd9 (by intro a ha; rw [List.mem_singleton] at ha; subst a; exact ⟨_, hd9⟩))
  have e1x9 := kd9 _ _ e1p9 (by first | exact nm1 n_q1 | exact nm1 (Ne.symm n_q1) | simpa using n_q1)
  have e2x9 := kd9 _ _ e2p9 (by first | exact nm1 n_q2 | exact nm1 (Ne.symm n_q2) | simpa using n_q2)
  have e3x9 := kd9 _ _ e3p9 (by first | exact nm1 n_q3 | exact nm1 (Ne.symm n_q3) | simpa using n_q3)
  have e4x9 := kd9 _ _ e4p9 (by first | exact nm1 n_q4 | exact nm1 (Ne.symm n_q4) | simpa using n_q4)
  have e5x9 := kd9 _ _ e5p9 (by first | exact nm1 n_q5 | exact nm1 (Ne.symm n_q5) | simpa using n_q5)
  have e7x9 := kd9 _ _ e7p9 (by first | exact nm1 n_q7 | exact nm1 (Ne.symm n_q7) | simpa using n_q7)
  have e8x9 := kd9 _ _ e8p9 (by first | exact nm1 n_q8 | exact nm1 (Ne.symm n_q8) | simpa using n_q8)
  have etpx9 := kd9 _ _ etpp9 (by first | exact nm1 n_qt | exact nm1 (Ne.symm n_qt) | simpa using n_qt)
  have e9x9 := kd9 _ _ e9 (by first | exact nm1 n_q9 | exact nm1 (Ne.symm n_q9) | simpa using n_q9)
  refine SP_cons (SP_AssignAttr ?_ (by walk_at "m_rfl"))
  walk_at "n"
  refine SP_newList (fun q10 hq10 => ?_) (sz (by simp))
  walk_at "n"
  refine SP.gen1 hq10 fun P10 kp10 e10 => ?_
  have fr10 := fresh0 kz9 hq10
  have kzp10 := kz9.trans kp10
  have hxp10 := kp10 _ _ hx9 (by first | exact nm0 | simp)
  have hdp10 := kp10 _ _ hd9 (by first | exact nm0 | simp)
  have app10 := ap9.new hq10 (keep_ex kp10 (by simp)) ⟨_, e10⟩
  have n_q10 : q10 ≠ dx := neN hq10 hd9
  have e1p10 := kp10 _ _ e1x9 (by first | exact nm0 | simp)
  have e2p10 := kp10 _ _ e2x9 (by first | exact nm0 | simp)
  have e3p10 := kp10 _ _ e3x9 (by first | exact nm0 | simp)
  have e4p10 := kp10 _ _ e4x9 (by first | exact nm0 | simp)
  have e5p10 := kp10 _ _ e5x9 (by first | exact nm0 | simp)
  have e7p10 := kp10 _ _ e7x9 (by first | exact nm0 | simp)
  have e8p10 := kp10 _ _ e8x9 (by first | exact nm0 | simp)
  have etpp10 := kp10 _ _ etpx9 (by first | exact nm0 | simp)
  have e9p10 := kp10 _ _ e9x9 (by first | exact nm0 | simp)
  refine SP_setAttrK ok hxp10 hdp10 hes9 (by rfl) (by simp) (by k_is) fun es10 n10 N10 hes10 kd10 hd10 => ?_
  refine Nx.next ?_
  have hx10 := kd10 _ _ hxp10 (by first | exact nm1 hne | exact nm1 (Ne.symm hne) | simpa using hne)
  have kz10 := kz_dx kzp10 hdx0 kd10
  have ap10 := app10.keep (keep_ex kd10 (by intro a ha; rw [List.mem_singleton] at ha; subst a; exact ⟨_, hd10⟩))
  have e1x10 := kd10 _ _ e1p10 (by first | exact nm1 n_q1 | exact nm1 (Ne.symm n_q1) | simpa using n_q1)
  have e2x10 := kd10 _ _ e2p10 (by first | exact nm1 n_q2 | exact nm1 (Ne.symm n_q2) | simpa using n_q2)
  have e3x10 := kd10 _ _ e3p10 (by first | exact nm1 n_q3 | exact nm1 (Ne.symm n_q3) | simpa using n_q3)
  have e4x10 := kd10 _ _ e4p10 (by first | exact nm1 n_q4 | exact nm1 (Ne.symm n_q4) | simpa using n_q4)
  have e5x10 := kd10 _ _ e5p10 (by first | exact nm1 n_q5 | exact nm1 (Ne.symm n_q5) | simpa using n_q5)
  have e7x10 := kd10 _ _ e7p10 (by first | exact nm1 n_q7 | exact nm1 (Ne.symm n_q7) | simpa using n_q7)
  have e8x10 := kd10 _ _ e8p10 (by first | exact nm1 n_q8 | exact nm1 (Ne.symm n_q8) | simpa using n_q8)
  have etpx10 := kd10 _ _ etpp10 (by first | exact nm1 n_qt | exact nm1 (Ne.symm n_qt) | simpa using n_qt)
  have e9x10 := kd10 _ _ e9p10 (by first | exact nm1 n_q9 | exact nm1 (Ne.symm n_q9) | simpa using n_q9)
  have e10x10 := kd10 _ _ e10 (by first | exact nm1 n_q10 | exact nm1 (Ne.symm n_q10) | simpa using n_q10)
  refine SP_cons (SP_AssignAttr ?_ (by walk_at "m_rfl"))
  walk_at "n"
  refine SP_newDict fun q11 oD hq11 _ _ cD eD => ?_
  subst eD
  walk_at "n"
  refine SP.gen1 hq11 fun P11 kp11 e11 => ?_
  have fr11 := fresh0 kz10 hq11
  have kzp11 := kz10.trans kp11
  have hxp11 := kp11 _ _ hx10 (by first | exact nm0 | simp)
  have hdp11 := kp11 _ _ hd10 (by first | exact nm0 | simp)
  have app11 := ap10.new hq11 (keep_ex kp11 (by simp)) ⟨_, e11⟩
  have n_q11 : q11 ≠ dx := neN hq11 hd10
  have e1p11 := kp11 _ _ e1x10 (by first | exact nm0 | simp)
  have e2p11 := kp11 _ _ e2x10 (by first | exact nm0 | simp)
  have e3p11 := kp11 _ _ e3x10 (by first | exact nm0 | simp)
  have e4p11 := kp11 _ _ e4x10 (by first | exact nm0 | simp)
  have e5p11 := kp11 _ _ e5x10 (by first | exact nm0 | simp)
  have e7p11 := kp11 _ _ e7x10 (by first | exact nm0 | simp)
  have e8p11 := kp11 _ _ e8x10 (by first | exact nm0 | simp)
  have etpp11 := kp11 _ _ etpx10 (by first | exact nm0 | simp)
  have e9p11 := kp11 _ _ e9x10 (by first | exact nm0 | simp)
  have e10p11 := kp11 _ _ e10x10 (by first | exact nm0 | simp)
  refine SP_setAttrK ok hxp11 hdp11 hes10 (by rfl) (by simp) (by k_is) fun es11 n11 N11 hes11 kd11 hd11 => ?_
  refine Nx.next ?_
  have hx11 := kd11 _ _ hxp11 (by first | exact nm1 hne | exact nm1 (Ne.symm hne) | simpa using hne)
  have kz11 := kz_dx kzp11 hdx0 kd11
  have ap11 := app11.keep (keep_ex kd11 (by intro a ha; rw [List.mem_singleton] at ha; subst a; exact ⟨_, hd11⟩))
  have e1x11 := kd11 _ _ e1p11 (by first | exact nm1 n_q1 | exact nm1 (Ne.symm n_q1) | simpa using n_q1)
  have e2x11 := kd11 _ _ e2p11 (by first | exact nm1 n_q2 | exact nm1 (Ne.symm n_q2) | simpa using n_q2)
  have e3x11 := kd11 _ _ e3p11 (by first | exact nm1 n_q3 | exact nm1 (Ne.symm n_q3) | simpa using n_q3)
  have e4x11 := kd11 _ _ e4p11 (by first | exact nm1 n_q4 | exact nm1 (Ne.symm n_q4) | simpa using n_q4)
  have e5x11 := kd11 _ _ e5p11 (by first | exact nm1 n_q5 | exact nm1 (Ne.symm n_q5) | simpa using n_q5)
  have e7x11 := kd11 _ _ e7p11 (by first | exact nm1 n_q7 | exact nm1 (Ne.symm n_q7) | simpa using n_q7)
  have e8x11 := kd11 _ _ e8p11 (by first | exact nm1 n_q8 | exact nm1 (Ne.symm n_q8) | simpa using n_q8)
  have etpx11 := kd11 _ _ etpp11 (by first | exact nm1 n_qt | exact nm1 (Ne.symm n_qt) | simpa using n_qt)
  have e9x11 := kd11 _ _ e9p11 (by first | exact nm1 n_q9 | exact nm1 (Ne.symm n_q9) | simpa using n_q9)
  have e10x11 := kd11 _ _ e10p11 (by first | exact nm1 n_q10 | exact nm1 (Ne.symm n_q10) | simpa using n_q10)
  have e11x11 := kd11 _ _ e11 (by first | exact nm1 n_q11 | exact nm1 (Ne.symm n_q11) | simpa using n_q11)
  have raw : EsRaw ⟨x, dx, es11, n11, q7, q8, q9, q10, q11, q3, q4, q5, 0, 0⟩ :=
    ⟨(hes11.get _).trans (by kernel_rfl), (hes11.get _).trans (by kernel_rfl), (hes11.get _).trans (by kernel_rfl), (hes11.get _).trans (by kernel_rfl), (hes11.get _).trans (by kernel_rfl), (hes11.get _).trans (by kernel_rfl), nodup_of_ix [10, 11, 4, 3, 2, 1, 0, 7, 6, 5] ap11.1 (by decide) rfl⟩
  have hO : BankRo N11 ⟨x, dx, es11, n11, q7, q8, q9, q10, q11, q3, q4, q5, 0, 0⟩ := ⟨hx11, hd11, raw⟩
  have hA : BankRin w N11 ⟨x, dx, es11, n11, q7, q8, q9, q10, q11, q3, q4, q5, 0, 0⟩ [] := ⟨hO, _, _, _, _, _, _, _, _, [], ⟨e7x11, .cons _ _ .nil, e8x11, ⟨rfl, fun i ns e => by
      cases i with
      | zero => simp at e; subst e; exact ⟨qt, rfl, [], etpx11, .nil⟩
      | succ i => simp at e⟩, e9x11, .cons _ _ .nil, e10x11, .cons _ _ .nil, dicH_empty e11x11, fun i x e => by simp at e, rfl⟩⟩
  refine SP_cons (SP_AssignAttr ?_ (by walk_at "m_rfl"))
  walk_at "n"
  refine rm_make ok hO ?_
  dsimp only
  walk_at "n"
  refine SP_newTuple (fun q12 hq12 => ?_) (sz (by simp))
  refine SP.gen1 hq12 fun M12 km12 et12 => ?_
  walk_at "n"
  have hA12 := hA.keep (km12.tup (by simp)) fun a _ o e => km12 a o e (by first | exact nm0 | simp)
  refine SP_use ok (make_raw_spec (rows := []) (k := ⟨sTrue, [], 0, 0⟩) r hA12 ⟨[], et12, .nil⟩ okTrue (by decide)) (by first | exact Nat.le_refl _ | exact leK rfl | omega) (fun v P12 hz_ => ?_)
  refine e1_3 hz_ ?_
  try clear hz_
  intro tt e hA' hK'
  subst e
  have hnum1 : num (ent [] (⟨sTrue, [], 0, 0⟩ : Sh)) ⟨sTrue, [], 0, 0⟩ = 1 := by decide +kernel
  rw [hnum1]
  have hent1 : ent [] (⟨sTrue, [], 0, 0⟩ : Sh) = [⟨sTrue, [], 0, 0⟩] := rfl
  rw [hent1] at hA'
  walk_at "n"
  refine SP_setAttrK ok hA'.1.1 hA'.1.2.1 hes11 (by rfl) (by simp) (by k_is) fun es12 n12 N12 hes12 kd12 hd12 => ?_
  refine Nx.next ?_
  have rawm : ∀ a, a ∈ [q7, q8, q9, q10, q11] → a ≠ dx := by
    intro a ha q
    have nd := raw.nd
    simp only [List.mem_cons, List.not_mem_nil, or_false] at ha
    subst a
    rcases ha with h | h | h | h | h
    · exact nd_ne nd 1 2 (by decide) rfl rfl h
    · exact nd_ne nd 1 3 (by decide) rfl rfl h
    · exact nd_ne nd 1 4 (by decide) rfl rfl h
    · exact nd_ne nd 1 5 (by decide) rfl rfl h
    · exact nd_ne nd 1 6 (by decide) rfl rfl h
  have raw2 : EsRaw ⟨x, dx, es12, n12, q7, q8, q9, q10, q11, q3, q4, q5, tt, 0⟩ :=
    ⟨(hes12.get _).trans (by kernel_rfl), (hes12.get _).trans (by kernel_rfl), (hes12.get _).trans (by kernel_rfl), (hes12.get _).trans (by kernel_rfl), (hes12.get _).trans (by kernel_rfl), (hes12.get _).trans (by kernel_rfl), raw.nd⟩
  refine e0_2 hA' ?_
  try clear hA'
  intro hO' hz0_
  refine e9_1 hz0_ ?_
  try clear hz0_
  intro vo no va na vs ns vd nd xs hL
  have tkd : TupKeep P12 N12 := kd12.tup (by intro a ha; rw [List.mem_singleton] at ha; subst a; exact ⟨_, hO'.2.1, dic_nt rfl⟩)
  have hA2 : BankRin w N12 ⟨x, dx, es12, n12, q7, q8, q9, q10, q11, q3, q4, q5, tt, 0⟩ [⟨sTrue, [], 0, 0⟩] :=
    ⟨⟨kd12 _ _ hO'.1 (by first | exact nm1 hne | exact nm1 (Ne.symm hne) | simpa using hne), hd12, raw2⟩, _, _, _, _, _, _, _, _, _, (hL.keep tkd fun a ha o e => kd12 a o e (by rw [List.mem_singleton]; exact rawm a ha)).es es12 n12 tt 0⟩
  have hO2 := hA2.1
  refine SP_cons (SP_AssignAttr ?_ (by walk_at "m_rfl"))
  walk_at "n"
  refine rm_make ok hO2 ?_
  dsimp only
  walk_at "n"
  refine SP_newTuple (fun q13 hq13 => ?_) (sz (by simp))
  refine SP.gen1 hq13 fun M13 km13 et13 => ?_
  walk_at "n"
  have hA13 := hA2.keep (km13.tup (by simp)) fun a _ o e => km13 a o e (by first | exact nm0 | simp)
  refine SP_use ok (make_raw_spec (rows := [⟨sTrue, [], 0, 0⟩]) (k := ⟨sFalse, [], 0, 0⟩) r hA13 ⟨[], et13, .nil⟩ okFalse (by decide)) (by first | exact Nat.le_refl _ | exact leK rfl | omega) (fun v P13 hz_ => ?_)
  refine e1_3 hz_ ?_
  try clear hz_
  intro tf e hA' hK13
  subst e
  have hnum2 : num (ent [(⟨sTrue, [], 0, 0⟩ : Sh)] ⟨sFalse, [], 0, 0⟩) ⟨sFalse, [], 0, 0⟩ = 2 := by decide +kernel
  rw [hnum2]
  have hent2 : ent [(⟨sTrue, [], 0, 0⟩ : Sh)] ⟨sFalse, [], 0, 0⟩ = [⟨sTrue, [], 0, 0⟩, ⟨sFalse, [], 0, 0⟩] := by decide +kernel
  rw [hent2] at hA'
  walk_at "n"
  refine SP_setAttrK ok hA'.1.1 hA'.1.2.1 hes12 (by rfl) (by simp) (by k_is) fun es13 n13 N13 hes13 kd13 hd13 => ?_
  refine Nx.next ?_
  refine SP_nil (RetQ.next ?_)
  refine e0_2 hA' ?_
  try clear hA'
  intro hO3' hz0_
  refine e9_1 hz0_ ?_
  try clear hz0_
  intro vo3 no3 va3 na3 vs3 ns3 vd3 nd3 xs3 hL3
  have tkd3 : TupKeep P13 N13 := kd13.tup (by intro a ha; rw [List.mem_singleton] at ha; subst a; exact ⟨_, hO3'.2.1, dic_nt rfl⟩)
  have ok3 : EsOk ⟨x, dx, es13, n13, q7, q8, q9, q10, q11, q3, q4, q5, tt, tf⟩ := by
    constructor
    all_goals first | exact (hes13.get _).trans (by kernel_rfl) | exact raw.nd
  have up : ∀ a o, N11 a = some o → a ∉ [q7, q8, q9, q10, q11] → a ≠ dx → N13 a = some o := fun a o e h1 h2 =>
    kd13 _ _ (hK13 _ _ (km13 _ _ (kd12 _ _ (hK' _ _ (km12 _ _ e (by first | exact nm0 | simp)) h1) (by first | exact nm1 h2 | exact nm1 (Ne.symm h2) | simpa using h2)) (by simp)) h1) (by first | exact nm1 h2 | exact nm1 (Ne.symm h2) | simpa using h2)
  have nin : ∀ i, i ∉ [0, 1, 2, 3, 4] → ∀ a, [q11, q10, q9, q8, q7, q5, q4, q3, q2, q1, x, dx][i]? = some a → a ∉ [q7, q8, q9, q10, q11] := by
    intro i hi a ha hm
    simp only [List.mem_cons, List.not_mem_nil, or_false, not_or] at hm hi
    rcases hm with h | h | h | h | h
    · exact nd_ne ap11.1 i 4 hi.2.2.2.2 ha rfl h
    · exact nd_ne ap11.1 i 3 hi.2.2.2.1 ha rfl h
    · exact nd_ne ap11.1 i 2 hi.2.2.1 ha rfl h
    · exact nd_ne ap11.1 i 1 hi.2.1 ha rfl h
    · exact nd_ne ap11.1 i 0 hi.1 ha rfl h
  refine ⟨rfl, ⟨x, dx, es13, n13, q7, q8, q9, q10, q11, q3, q4, q5, tt, tf⟩, q1, q2, rfl, ⟨⟨kd13 _ _ hO3'.1 (by first | exact nm1 hne | exact nm1 (Ne.symm hne) | simpa using hne), hd13, ok3⟩, _, _, _, _, _, _, _, _, _, (hL3.keep tkd3 fun a ha o e => kd13 a o e (by rw [List.mem_singleton]; exact rawm a ha)).es es13 n13 tt tf⟩, ?_, (hes13.get _).trans (by kernel_rfl), (hes13.get _).trans (by kernel_rfl), (hes13.get _).trans (by kernel_rfl), ?_, ?_, ?_, ?_, ?_⟩
  · exact ⟨_, _, [], _, _, _, _, up _ _ e3x11 (nin 7 (by decide) _ rfl) n_q3, .nil, rfl, up _ _ e4x11 (nin 6 (by decide) _ rfl) n_q4, ⟨rfl, by simp⟩, up _ _ e5x11 (nin 5 (by decide) _ rfl) n_q5, .nil⟩
  · exact ⟨_, _, up _ _ e1x11 (nin 9 (by decide) _ rfl) n_q1, rfl⟩
  · exact ⟨_, _, up _ _ e2x11 (nin 8 (by decide) _ rfl) n_q2, rfl⟩
  · exact nodup_of_ix [9, 8, 10, 11, 4, 3, 2, 1, 0, 7, 6, 5] ap11.1 (by decide) rfl
  · intro a ha
    simp only [List.mem_cons, List.not_mem_nil, or_false] at ha
    (rcases ha with ha | ha | ha | ha | ha | ha | ha | ha | ha | ha | ha | ha <;> subst a) <;> assumption
  · intro a o e hn
    have e11 := kz11 a o e hn
    refine up a o e11 ?_ ?_
    · intro hm
      simp only [List.mem_cons, List.not_mem_nil, or_false] at hm
      rcases hm with h | h | h | h | h <;> subst a
      · rw [fr7] at e; cases e
      · rw [fr8] at e; cases e
      · rw [fr9] at e; cases e
      · rw [fr10] at e; cases e
      · rw [fr11] at e; cases e
    · (first | exact neH e hdx0 (by intro e_; cases e_) | exact Ne.symm (neH e hdx0 (by intro e_; cases e_)) | (rintro rfl; rw [hdx0] at e; cases e))
end init_spec_c
theorem init_spec {w : World} {N₀ : Hl} {x dx : Addr} (r : Nat) (hx0 : N₀ x = none) (hdx0 : N₀ dx = none) (hne : x ≠ dx) :
    CallsC w 83 [.ref x] (upd (upd N₀ dx (dictOf [] 0)) x (instObj 387 dx)) (r + 3) (fun v N' => v = .none ∧ ∃ A sn sw, InitPost w N₀ x N' A sn sw) :=
  pickAll (P := fun q : World × Hl × Addr × Addr × Nat => init_spec_c.P q.1 q.2.1 q.2.2.1 q.2.2.2.1 q.2.2.2.2) (aWorld 0, fun _ => none, 0, 0, 0) (by with_unfolding_all exact init_spec_c.core) (w, N₀, x, dx, r) hx0 hdx0 hne
end
/-! part Fn17 -/
section
set_option linter.unusedVariables false
/-- the bank with what declaring needs -/
structure DecIn (w : World) (N : Hl) (A : BnkA) (rows : Rws) (sigs : List (List Int × Int)) (sn sw : Addr) (ns : Nat) : Prop where
  a : BankIn w N A rows
  f : FunsIn N A sigs
  g1 : getL (Str.ofString "sort_names") A.es = some (some (.ref sn))
  g2 : getL (Str.ofString "sort_widths") A.es = some (some (.ref sw))
  g3 : getL (Str.ofString "declare_sort") A.es = some none
  s1 : ∃ v n, N sn = some (lst v n) ∧ v.length = ns
  s2 : ∃ v n, N sw = some (lst v n) ∧ v.length = ns
  nd : [sn, sw, A.x, A.dx, A.ops, A.args, A.sorts, A.datas, A.nums, A.fnames, A.fargs, A.fres].Nodup
section
variable {w : World} {N N' : Hl} {A : BnkA} {rows : Rws} {sigs : List (List Int × Int)} {sn sw : Addr} {ns : Nat}
theorem DecIn.keepA (h : DecIn w N A rows sigs sn sw ns) (tk : TupKeep N N') (k : ∀ a ∈ [sn, sw, A.x, A.dx, A.ops, A.args, A.sorts, A.datas, A.nums, A.fnames, A.fargs, A.fres], ∀ o, N a = some o → N' a = some o) : DecIn w N' A rows sigs sn sw ns where
  a := h.a.keep tk fun a ha => k a (by simp only [BnkA.all, List.mem_cons, List.not_mem_nil, or_false] at ha ⊢; rcases ha with h | h | h | h | h | h | h <;> simp [h])
  f := h.f.keep tk fun a ha => k a (by simp only [List.mem_cons, List.not_mem_nil, or_false] at ha ⊢; rcases ha with h | h | h <;> simp [h])
  g1 := h.g1
  g2 := h.g2
  g3 := h.g3
  s1 := let ⟨v, n, e, l⟩ := h.s1; ⟨v, n, k _ (by simp) _ e, l⟩
  s2 := let ⟨v, n, e, l⟩ := h.s2; ⟨v, n, k _ (by simp) _ e, l⟩
  nd := h.nd
theorem DecIn.new (h : DecIn w N A rows sigs sn sw ns) (k : Keep [] N N') : DecIn w N' A rows sigs sn sw ns := h.keepA (k.tup (by simp)) fun a _ o e => k a o e (by first | exact nm0 | simp)
theorem SP.gen1c {C : Cx} {α : Type} {t : Sem α} {l : Ls} {N₀ N : Hl} {ds : List Addr} {q q2 : Addr} {o o2 : Obj} {Q : α → Ls → Hl → Prop} (k : Keep ds N₀ N) (tk : TupKeep N₀ N) (e : N q = some o) (e2 : N q2 = some o2) (h : ∀ N', Keep ds N₀ N' → TupKeep N₀ N' → N' q = some o → N' q2 = some o2 → SP w C t l N' Q) : SP w C t l N Q := h N k tk e e2
theorem declare_sort_spec (hD : DecIn w N A rows sigs sn sw ns) (hs : ns < 100) {name : Str} {tn : Tok} (r : Nat) :
    Calls w 97 [.ref A.x, .str name tn] N (r + 1) (fun v N' => ∃ t, v = .int (ns : Int) t ∧ DecIn w N' A rows sigs sn sw (ns + 1) ∧ Keep [sn, sw] N N') := by
  refine' enter [(Str.ofString "self", .ref A.x), (Str.ofString "name", .str name tn)] [(Str.ofString "name", .str name tn), (Str.ofString "self", .ref A.x)] ?ho ?hcd ?hb ?hl ?c1 ?c2 ?c3 ?c4 ?c5 ?_
  walk_at "m_ent"
  intro C ok
  refine e2_2 hD.s1 ?_
  intro v1 n1 e1 l1
  refine e2_2 hD.s2 ?_
  intro v2 n2 e2 l2
  have n12 : sn ≠ sw := nd_ne hD.nd 0 1 (by decide) rfl rfl
  have no : ∀ i, i ≠ 0 → i ≠ 1 → ∀ a, [sn, sw, A.x, A.dx, A.ops, A.args, A.sorts, A.datas, A.nums, A.fnames, A.fargs, A.fres][i]? = some a → a ≠ sn ∧ a ≠ sw := fun i h0 h1 a ha => ⟨nd_ne hD.nd i 0 h0 ha rfl, nd_ne hD.nd i 1 h1 ha rfl⟩
  have hO := hD.a.o
  walk_at "m"
  refine SP_attr (attr := none) ok hO.1 hO.2.1 (pgA _) hdA (by k_is) ng0 hD.g1 rfl ?_
  walk_at "m"
  refine SP_mAppend e1 ?_
  dsimp only
  walk_at "m"
  refine SP_append e1 (sz (by first | exact Nat.le_refl _ | exact leK rfl | omega)) ⟨trivial, ?_⟩
  have k1 : Keep [sn, sw] N (upd N sn (lst (v1 ++ [.str name tn]) (n1 + 1))) := Keep.chg (by simp)
  have tk1 : TupKeep N (upd N sn (lst (v1 ++ [.str name tn]) (n1 + 1))) := TupKeep.chg e1 (lst_nt _ _)
  have e1' : upd N sn (lst (v1 ++ [.str name tn]) (n1 + 1)) sn = some (lst (v1 ++ [.str name tn]) (n1 + 1)) := upd_self ..
  have e2' : upd N sn (lst (v1 ++ [.str name tn]) (n1 + 1)) sw = some (lst v2 n2) := by rw [upd_ne n12.symm]; exact e2
  generalize upd N sn (lst (v1 ++ [.str name tn]) (n1 + 1)) = N1 at k1 tk1 e1' e2'
  have kO : ∀ {N' : Hl}, Keep [sn, sw] N N' → BankO N' A := fun k => hO.le (fun o e => k _ _ e (by have := no 2 (by decide) (by decide) _ rfl; simp [this])) (fun o e => k _ _ e (by have := no 3 (by decide) (by decide) _ rfl; simp [this]))
  have hO1 := kO k1
  walk_at "m"
  refine SP_attr (attr := none) ok hO1.1 hO1.2.1 (pgA _) hdA (by k_is) ng0 hD.g2 rfl ?_
  walk_at "m"
  refine SP_mAppend e2' ?_
  dsimp only
  walk_at "m"
  refine SP_append e2' (sz (by first | exact Nat.le_refl _ | exact leK rfl | omega)) ⟨trivial, ?_⟩
  walk_at "m"
  refine SP.gen1c (k1.trans (Keep.chg (by simp))) (tk1.trans (TupKeep.chg e2' (lst_nt _ _))) (upd_self ..) ((upd_ne n12).trans e1') fun N2 k2 tk2 e2'' e1'' => ?_
  have hO2 := kO k2
  walk_at "m"
  refine SP_attr (attr := none) ok hO2.1 hO2.2.1 (pgA _) hdA (by k_is) ng0 hD.g1 rfl ?_
  walk_at "m"
  refine SP_lenL e1'' (LO.lst _ _) (by simp; omega) fun tl => ?_
  walk_at "m"
  refine ⟨_, by simp only [List.length_append, List.length_singleton]; rw [show ((v1.length + 1 : Nat) : Int) - 1 = (ns : Int) by omega], ?_, k2⟩
  refine ⟨hD.a.keep tk2 fun a ha o e => k2 a o e ?_, hD.f.keep tk2 fun a ha o e => k2 a o e ?_, hD.g1, hD.g2, hD.g3, ⟨_, _, e1'', by simp; omega⟩, ⟨_, _, e2'', by simp; omega⟩, hD.nd⟩
  · simp only [BnkA.all, List.mem_cons, List.not_mem_nil, or_false] at ha
    rcases ha with h | h | h | h | h | h | h
    · have := no 2 (by decide) (by decide) _ rfl; simp [h, this]
    · have := no 3 (by decide) (by decide) _ rfl; simp [h, this]
    · have := no 4 (by decide) (by decide) _ rfl; simp [h, this]
    · have := no 5 (by decide) (by decide) _ rfl; simp [h, this]
    · have := no 6 (by decide) (by decide) _ rfl; simp [h, this]
    · have := no 7 (by decide) (by decide) _ rfl; simp [h, this]
    · have := no 8 (by decide) (by decide) _ rfl; simp [h, this]
  · simp only [List.mem_cons, List.not_mem_nil, or_false] at ha
    rcases ha with h | h | h
    · have := no 9 (by decide) (by decide) _ rfl; simp [h, this]
    · have := no 10 (by decide) (by decide) _ rfl; simp [h, this]
    · have := no 11 (by decide) (by decide) _ rfl; simp [h, this]
end
namespace declare_fun_spec_c
def P (w : World) (N : Hl) (A : BnkA) (rows : Rws) (sigs : List (List Int × Int)) (name : Str) (tn : Tok) (tr : Tok) (q : Addr) (args : List Int) (res : Int) (r : Nat) : Prop := ∀ (hA : BankIn w N A rows) (hF : FunsIn N A sigs) (hz : sigs.length < 100) (hq : TupI N q args), Calls w 125 [.ref A.x, .str name tn, .ref q, .int res tr] N (r + 1) (fun v N' => ∃ t, v = .int (sigs.length : Int) t ∧ BankIn w N' A rows ∧ FunsIn N' A (sigs ++ [(args, res)]) ∧ Keep [A.fnames, A.fargs, A.fres] N N')
noncomputable def V : World × Hl × BnkA × Rws × List (List Int × Int) × Str × Tok × Tok × Addr × List Int × Int × Nat := pick (aWorld 0, fun _ => none, ⟨0, 0, [], 0, 0, 0, 0, 0, 0, 0, 0, 0, 0, 0⟩, [], [], Str.empty, 0, 0, 0, [], 0, 0) fun q => P q.1 q.2.1 q.2.2.1 q.2.2.2.1 q.2.2.2.2.1 q.2.2.2.2.2.1 q.2.2.2.2.2.2.1 q.2.2.2.2.2.2.2.1 q.2.2.2.2.2.2.2.2.1 q.2.2.2.2.2.2.2.2.2.1 q.2.2.2.2.2.2.2.2.2.2.1 q.2.2.2.2.2.2.2.2.2.2.2
@[irreducible] noncomputable def w : World := V.1
@[irreducible] noncomputable def N : Hl := V.2.1
@[irreducible] noncomputable def A : BnkA := V.2.2.1
@[irreducible] noncomputable def rows : Rws := V.2.2.2.1
@[irreducible] noncomputable def sigs : List (List Int × Int) := V.2.2.2.2.1
@[irreducible] noncomputable def name : Str := V.2.2.2.2.2.1
@[irreducible] noncomputable def tn : Tok := V.2.2.2.2.2.2.1
@[irreducible] noncomputable def tr : Tok := V.2.2.2.2.2.2.2.1
@[irreducible] noncomputable def q : Addr := V.2.2.2.2.2.2.2.2.1
@[irreducible] noncomputable def args : List Int := V.2.2.2.2.2.2.2.2.2.1
@[irreducible] noncomputable def res : Int := V.2.2.2.2.2.2.2.2.2.2.1
@[irreducible] noncomputable def r : Nat := V.2.2.2.2.2.2.2.2.2.2.2
theorem core : P w N A rows sigs name tn tr q args res r := by
  unfold P
  intro hA hF hz hq
  refine' enter [(Str.ofString "self", .ref A.x), (Str.ofString "name", .str name tn), (Str.ofString "arg_sorts", .ref q), (Str.ofString "result", .int res tr)] [(Str.ofString "result", .int res tr), (Str.ofString "arg_sorts", .ref q), (Str.ofString "name", .str name tn), (Str.ofString "self", .ref A.x)] ?ho ?hcd ?hb ?hl ?c1 ?c2 ?c3 ?c4 ?c5 ?_
  walk_at "m_ent"
  refine pickC ?_
  intro ok
  refine e7_7 hF ?_
  try clear hF
  intro vn nn ys va na vr nr g1 g2 g3 g4 g5 g6 g7
  have n1 : A.fnames ≠ A.fargs := nd_ne hA.o.2.2.nd 7 8 (by decide) rfl rfl
  have n2 : A.fnames ≠ A.fres := nd_ne hA.o.2.2.nd 7 9 (by decide) rfl rfl
  have n3 : A.fargs ≠ A.fres := nd_ne hA.o.2.2.nd 8 9 (by decide) rfl rfl
  have no : ∀ i, i < 7 → ∀ a, [A.x, A.dx, A.ops, A.args, A.sorts, A.datas, A.nums, A.fnames, A.fargs, A.fres][i]? = some a → a ∉ [A.fnames, A.fargs, A.fres] := fun i hi a ha => by
    simp only [List.mem_cons, List.not_mem_nil, or_false, not_or]
    exact ⟨nd_ne hA.o.2.2.nd i 7 (by first | exact Nat.le_refl _ | exact leK rfl | omega) ha rfl, nd_ne hA.o.2.2.nd i 8 (by first | exact Nat.le_refl _ | exact leK rfl | omega) ha rfl, nd_ne hA.o.2.2.nd i 9 (by first | exact Nat.le_refl _ | exact leK rfl | omega) ha rfl⟩
  have hO := hA.o
  have kO : ∀ {N' : Hl}, Keep [A.fnames, A.fargs, A.fres] N N' → BankO N' A := fun k => hO.le (fun o e => k _ _ e (no 0 (by decide) _ rfl)) (fun o e => k _ _ e (no 1 (by decide) _ rfl))
  have ln : vn.length = sigs.length := by rw [strs_len g2, g3]
  have la : va.length = sigs.length := by rw [g5.1]; simp
  have lr : vr.length = sigs.length := by rw [g7.length]; simp
  walk_at "m"
  refine SP_mAppend g1 ?_
  dsimp only
  walk_at "m"
  refine SP_append g1 (sz (by first | exact Nat.le_refl _ | exact leK rfl | omega)) ⟨trivial, ?_⟩
  have k1 : Keep [A.fnames, A.fargs, A.fres] N (upd N A.fnames (lst (vn ++ [.str name tn]) (nn + 1))) := Keep.chg (by simp)
  have tk1 : TupKeep N (upd N A.fnames (lst (vn ++ [.str name tn]) (nn + 1))) := TupKeep.chg g1 (lst_nt _ _)
  have a1 : upd N A.fnames (lst (vn ++ [.str name tn]) (nn + 1)) A.fnames = some (lst (vn ++ [.str name tn]) (nn + 1)) := upd_self ..
  have a4 : upd N A.fnames (lst (vn ++ [.str name tn]) (nn + 1)) A.fargs = some (lst va na) := (upd_ne n1.symm).trans g4
  have a6 : upd N A.fnames (lst (vn ++ [.str name tn]) (nn + 1)) A.fres = some (lst vr nr) := (upd_ne n2.symm).trans g6
  generalize upd N A.fnames (lst (vn ++ [.str name tn]) (nn + 1)) = N1 at k1 tk1 a1 a4 a6
  have hO1 := kO k1
  refine e1_2 (hq.keep tk1) ?_
  intro vq eq iq
  walk_at "m"
  refine SP_mAppend a4 ?_
  dsimp only
  walk_at "m"
  refine SP_tupleT eq ?_
  walk_at "m"
  refine SP_append a4 (sz (by first | exact Nat.le_refl _ | exact leK rfl | omega)) ⟨trivial, ?_⟩
  have k2 : Keep [A.fnames, A.fargs, A.fres] N (upd N1 A.fargs (lst (va ++ [.ref q]) (na + 1))) := k1.trans (Keep.chg (by simp))
  have tk2 : TupKeep N (upd N1 A.fargs (lst (va ++ [.ref q]) (na + 1))) := tk1.trans (TupKeep.chg a4 (lst_nt _ _))
  have b1 : upd N1 A.fargs (lst (va ++ [.ref q]) (na + 1)) A.fnames = some (lst (vn ++ [.str name tn]) (nn + 1)) := (upd_ne n1).trans a1
  have b4 : upd N1 A.fargs (lst (va ++ [.ref q]) (na + 1)) A.fargs = some (lst (va ++ [.ref q]) (na + 1)) := upd_self ..
  have b6 : upd N1 A.fargs (lst (va ++ [.ref q]) (na + 1)) A.fres = some (lst vr nr) := (upd_ne n3.symm).trans a6
  generalize upd N1 A.fargs (lst (va ++ [.ref q]) (na + 1)) = N2 at k2 tk2 b1 b4 b6
  have hO2 := kO k2
  walk_at "m"
  refine SP_mAppend b6 ?_
  dsimp only
  walk_at "m"
  refine SP_append b6 (sz (by first | exact Nat.le_refl _ | exact leK rfl | omega)) ⟨trivial, ?_⟩
  have k3 : Keep [A.fnames, A.fargs, A.fres] N (upd N2 A.fres (lst (vr ++ [.int res tr]) (nr + 1))) := k2.trans (Keep.chg (by simp))
  have tk3 : TupKeep N (upd N2 A.fres (lst (vr ++ [.int res tr]) (nr + 1))) := tk2.trans (TupKeep.chg b6 (lst_nt _ _))
  have c1 : upd N2 A.fres (lst (vr ++ [.int res tr]) (nr + 1)) A.fnames = some (lst (vn ++ [.str name tn]) (nn + 1)) := (upd_ne n2).trans b1
  have c4 : upd N2 A.fres (lst (vr ++ [.int res tr]) (nr + 1)) A.fargs = some (lst (va ++ [.ref q]) (na + 1)) := (upd_ne n3).trans b4
  have c6 : upd N2 A.fres (lst (vr ++ [.int res tr]) (nr + 1)) A.fres = some (lst (vr ++ [.int res tr]) (nr + 1)) := upd_self ..
  generalize upd N2 A.fres (lst (vr ++ [.int res tr]) (nr + 1)) = N3 at k3 tk3 c1 c4 c6
  have hO3 := kO k3
  walk_at "m"
  refine SP_lenL c1 (LO.lst _ _) (by simp; omega) fun tl => ?_
  walk_at "m"
  refine ⟨_, by simp only [List.length_append, List.length_singleton]; rw [show ((vn.length + 1 : Nat) : Int) - 1 = (sigs.length : Int) by omega], hA.keep tk3 fun a ha o e => k3 a o e ?_, ⟨_, _, ys ++ [name], _, _, _, _, c1, Mine.StrsAre.snoc g2 name tn, by simp [g3], c4, ?_, c6, ?_⟩, k3⟩
  · simp only [BnkA.all, List.mem_cons, List.not_mem_nil, or_false] at ha
    rcases ha with h | h | h | h | h | h | h
    · exact h ▸ no 0 (by decide) _ rfl
    · exact h ▸ no 1 (by decide) _ rfl
    · exact h ▸ no 2 (by decide) _ rfl
    · exact h ▸ no 3 (by decide) _ rfl
    · exact h ▸ no 4 (by decide) _ rfl
    · exact h ▸ no 5 (by decide) _ rfl
    · exact h ▸ no 6 (by decide) _ rfl
  · rw [List.map_append]; exact (g5.keep tk3).snoc (hq.keep tk3)
  · rw [List.map_append]; exact ints_snoc g7 _ _
end declare_fun_spec_c
theorem declare_fun_spec {w : World} {N : Hl} {A : BnkA} {rows : Rws} {sigs : List (List Int × Int)} (hA : BankIn w N A rows) (hF : FunsIn N A sigs) (hz : sigs.length < 100) {name : Str} {tn tr : Tok} {q : Addr} {args : List Int} {res : Int} (hq : TupI N q args) (r : Nat) :
    Calls w 125 [.ref A.x, .str name tn, .ref q, .int res tr] N (r + 1) (fun v N' => ∃ t, v = .int (sigs.length : Int) t ∧ BankIn w N' A rows ∧ FunsIn N' A (sigs ++ [(args, res)]) ∧ Keep [A.fnames, A.fargs, A.fres] N N') :=
  pickAll (P := fun q : World × Hl × BnkA × Rws × List (List Int × Int) × Str × Tok × Tok × Addr × List Int × Int × Nat => declare_fun_spec_c.P q.1 q.2.1 q.2.2.1 q.2.2.2.1 q.2.2.2.2.1 q.2.2.2.2.2.1 q.2.2.2.2.2.2.1 q.2.2.2.2.2.2.2.1 q.2.2.2.2.2.2.2.2.1 q.2.2.2.2.2.2.2.2.2.1 q.2.2.2.2.2.2.2.2.2.2.1 q.2.2.2.2.2.2.2.2.2.2.2) (aWorld 0, fun _ => none, ⟨0, 0, [], 0, 0, 0, 0, 0, 0, 0, 0, 0, 0, 0⟩, [], [], Str.empty, 0, 0, 0, [], 0, 0) (by with_unfolding_all exact declare_fun_spec_c.core) (w, N, A, rows, sigs, name, tn, tr, q, args, res, r) hA hF hz hq
section
variable {w : World} {N N' : Hl} {A : BnkA} {rows : Rws} {sigs : List (List Int × Int)} {sn sw : Addr} {ns : Nat}
theorem funs_bank {rows' : Rws} (hA : BankIn w N A rows) (hF : FunsIn N A sigs) (k : Keep A.mut N N') : FunsIn N' A sigs := by
  have tk : TupKeep N N' := k.tup (by
    refine e0_2 hA ?_
    try clear hA
    intro _ hz0_
    refine e9_1 hz0_ ?_
    try clear hz0_
    intro vo no va na vs ns vd nd xs hL
    intro a ha
    simp only [BnkA.mut, List.mem_cons, List.not_mem_nil, or_false] at ha
    (rcases ha with ha | ha | ha | ha | ha <;> subst a)
    · exact ⟨_, hL.ops, lst_nt _ _⟩
    · exact ⟨_, hL.args, lst_nt _ _⟩
    · exact ⟨_, hL.sorts, lst_nt _ _⟩
    · exact ⟨_, hL.datas, lst_nt _ _⟩
    · refine e1_3 hL.nums.get ?_
      intro o e c _
      exact ⟨o, e, dic_nt c⟩)
  have h := hA.o.2.2.nd
  have no : ∀ i, 6 < i → ∀ a, [A.x, A.dx, A.ops, A.args, A.sorts, A.datas, A.nums, A.fnames, A.fargs, A.fres][i]? = some a → a ∉ A.mut := fun i hi a ha => by
    simp only [BnkA.mut, List.mem_cons, List.not_mem_nil, or_false, not_or]
    exact ⟨nd_ne h i 2 (by first | exact Nat.le_refl _ | exact leK rfl | omega) ha rfl, nd_ne h i 3 (by first | exact Nat.le_refl _ | exact leK rfl | omega) ha rfl, nd_ne h i 4 (by first | exact Nat.le_refl _ | exact leK rfl | omega) ha rfl, nd_ne h i 5 (by first | exact Nat.le_refl _ | exact leK rfl | omega) ha rfl, nd_ne h i 6 (by first | exact Nat.le_refl _ | exact leK rfl | omega) ha rfl⟩
  refine hF.keep tk fun a ha o e => k a o e ?_
  simp only [List.mem_cons, List.not_mem_nil, or_false] at ha
  rcases ha with h | h | h
  · exact h ▸ no 7 (by decide) _ rfl
  · exact h ▸ no 8 (by decide) _ rfl
  · exact h ▸ no 9 (by decide) _ rfl
end
namespace fresh_const_spec_c
def P (w : World) (N : Hl) (A : BnkA) (rows : Rws) (sigs : List (List Int × Int)) (name : Str) (tn : Tok) (ts : Tok) (s : Int) (r : Nat) : Prop := ∀ (hA : BankIn w N A rows) (hF : FunsIn N A sigs) (hz : sigs.length < 100) (hzr : rows.length < 900), Calls w 139 [.ref A.x, .str name tn, .int s ts] N (r + 2) (fun v N' => ∃ t, v = .int (num (ent rows ⟨sApp, [], s, sigs.length⟩) ⟨sApp, [], s, sigs.length⟩) t ∧ BankIn w N' A (ent rows ⟨sApp, [], s, sigs.length⟩) ∧ FunsIn N' A (sigs ++ [([], s)]) ∧ Keep ([A.fnames, A.fargs, A.fres] ++ A.mut) N N')
noncomputable def V : World × Hl × BnkA × Rws × List (List Int × Int) × Str × Tok × Tok × Int × Nat := pick (aWorld 0, fun _ => none, ⟨0, 0, [], 0, 0, 0, 0, 0, 0, 0, 0, 0, 0, 0⟩, [], [], Str.empty, 0, 0, 0, 0) fun q => P q.1 q.2.1 q.2.2.1 q.2.2.2.1 q.2.2.2.2.1 q.2.2.2.2.2.1 q.2.2.2.2.2.2.1 q.2.2.2.2.2.2.2.1 q.2.2.2.2.2.2.2.2.1 q.2.2.2.2.2.2.2.2.2
@[irreducible] noncomputable def w : World := V.1
@[irreducible] noncomputable def N : Hl := V.2.1
@[irreducible] noncomputable def A : BnkA := V.2.2.1
@[irreducible] noncomputable def rows : Rws := V.2.2.2.1
@[irreducible] noncomputable def sigs : List (List Int × Int) := V.2.2.2.2.1
@[irreducible] noncomputable def name : Str := V.2.2.2.2.2.1
@[irreducible] noncomputable def tn : Tok := V.2.2.2.2.2.2.1
@[irreducible] noncomputable def ts : Tok := V.2.2.2.2.2.2.2.1
@[irreducible] noncomputable def s : Int := V.2.2.2.2.2.2.2.2.1
@[irreducible] noncomputable def r : Nat := V.2.2.2.2.2.2.2.2.2
theorem core : P w N A rows sigs name tn ts s r := by
  unfold P
  intro hA hF hz hzr
  refine' enter [(Str.ofString "self", .ref A.x), (Str.ofString "name", .str name tn), (Str.ofString "s", .int s ts)] [(Str.ofString "s", .int s ts), (Str.ofString "name", .str name tn), (Str.ofString "self", .ref A.x)] ?ho ?hcd ?hb ?hl ?c1 ?c2 ?c3 ?c4 ?c5 ?_
  walk_at "m_ent"
  refine pickC ?_
  intro ok
  have hO := hA.o
  walk_at "m"
  refine SP_newTuple (fun q1 hq1 => ?_) (sz (by simp))
  refine SP.gen1 hq1 fun N1 k1 e1 => ?_
  have hA1 := hA.le k1
  have hF1 := hF.le k1
  have hO1 := hA1.o
  walk_at "m"
  refine SP_newTuple (fun q2 hq2 => ?_) (sz (by simp))
  refine SP.gen1 hq2 fun N2 k2 e2 => ?_
  have hA2 := hA1.le k2
  have hF2 := hF1.le k2
  walk_at "m"
  refine SP_use ok (declare_fun_spec hA2 hF2 hz ⟨[], e2, .nil⟩ r) (by first | exact Nat.le_refl _ | exact leK rfl | omega) (fun v N3 hz_ => ?_)
  refine e1_4 hz_ ?_
  try clear hz_
  intro tf e hA3 hF3 k3
  subst e
  have e13 : N3 q1 = some (tupObj []) := k3 _ _ (k2 _ _ e1 (by first | exact nm0 | simp)) (by
    refine e7_7 hF2 ?_
    try clear hF2
    intro vn nn ys va na vr nr g1 g2 g3 g4 g5 g6 g7
    have e12 := k2 _ _ e1 (by first | exact nm0 | simp)
    simp only [List.mem_cons, List.not_mem_nil, or_false, not_or]
    exact ⟨tupNe g1 e12, tupNe g4 e12, tupNe g6 e12⟩)
  walk_at "m"
  refine SP_use ok (make_spec (k := ⟨sApp, [], s, sigs.length⟩) r hA3 ⟨[], e13, .nil⟩ okApp (by first | exact Nat.le_refl _ | exact leK rfl | omega)) (by first | exact Nat.le_refl _ | exact leK rfl | omega) (fun v N4 hz_ => ?_)
  refine e1_3 hz_ ?_
  try clear hz_
  intro tm e hA4 k4
  walk_at "m"
  exact ⟨tm, e, hA4, funs_bank (rows' := rows) hA3 hF3 k4, (((k1.trans k2).sub (by simp)).trans (k3.sub fun a ha => List.mem_append_left _ ha)).trans (k4.sub fun a ha => List.mem_append_right _ ha)⟩
end fresh_const_spec_c
theorem fresh_const_spec {w : World} {N : Hl} {A : BnkA} {rows : Rws} {sigs : List (List Int × Int)} (hA : BankIn w N A rows) (hF : FunsIn N A sigs) (hz : sigs.length < 100) (hzr : rows.length < 900) {name : Str} {tn ts : Tok} {s : Int} (r : Nat) :
    Calls w 139 [.ref A.x, .str name tn, .int s ts] N (r + 2) (fun v N' => ∃ t, v = .int (num (ent rows ⟨sApp, [], s, sigs.length⟩) ⟨sApp, [], s, sigs.length⟩) t ∧ BankIn w N' A (ent rows ⟨sApp, [], s, sigs.length⟩) ∧ FunsIn N' A (sigs ++ [([], s)]) ∧ Keep ([A.fnames, A.fargs, A.fres] ++ A.mut) N N') :=
  pickAll (P := fun q : World × Hl × BnkA × Rws × List (List Int × Int) × Str × Tok × Tok × Int × Nat => fresh_const_spec_c.P q.1 q.2.1 q.2.2.1 q.2.2.2.1 q.2.2.2.2.1 q.2.2.2.2.2.1 q.2.2.2.2.2.2.1 q.2.2.2.2.2.2.2.1 q.2.2.2.2.2.2.2.2.1 q.2.2.2.2.2.2.2.2.2) (aWorld 0, fun _ => none, ⟨0, 0, [], 0, 0, 0, 0, 0, 0, 0, 0, 0, 0, 0⟩, [], [], Str.empty, 0, 0, 0, 0) (by with_unfolding_all exact fresh_const_spec_c.core) (w, N, A, rows, sigs, name, tn, ts, s, r) hA hF hz hzr
section
variable {w : World} {N N' : Hl} {A : BnkA} {rows : Rws} {sigs : List (List Int × Int)} {sn sw : Addr} {ns : Nat}
end

end
/-! part Sp16 -/
section
section
open PySem
variable {prog : Program} {w : World} {A : Around} {E : Value → Shared → Prop} {s : Shared}
theorem adjust_to (b n : Nat) (hb : b ≤ n) : Builtin.Slice.sliceAdjust none (some (b : Int)) 1 (n : Int) = (0, (b : Int)) := by
  unfold Builtin.Slice.sliceAdjust
  have h1 : ¬ ((1 : Int) < 0) := by omega
  have h2 : ¬ ((b : Int) < 0) := by omega
  simp only [h1, h2, if_false]
  congr 1
  omega
theorem places_to (b : Nat) : Builtin.Slice.slicePlaces 0 (b : Int) 1 = b := by
  unfold Builtin.Slice.slicePlaces
  have h1 : (1 : Int) > 0 := by omega
  simp only [h1, if_true, Int.ediv_one]
  split <;> omega
theorem sliceApplied_to {sl : Addr} {b n : Nat} {u : Tok} {Q : Int × Int × Nat → Shared → Prop} (hs : s.heap.IsSliceOf sl .none (.int b u) .none) (hb : b ≤ n) (h : Q (0, 1, b) s) :
    wpAny (model prog w) A (Builtin.Slice.sliceApplied (.ref sl) (pure (n : Int))) Q E s := by
  refine e1_3 hs ?_
  try clear hs
  intro os hos hcs hds
  unfold Builtin.Slice.sliceApplied Builtin.Slice.sliceFields
  refine wpAny_bind (wpAny_bind (wpAny_field hos hds (x := .none) rfl (wpAny_bind (wpAny_field hos hds (x := .int b u) rfl (wpAny_bind (wpAny_field hos hds (x := .none) rfl (wpAny_pure ?_)))))))
  refine wpAny_bind (slicePart_none ?_)
  show wpAny _ _ (if ((1 : Int) == 0) = true then _ else _) _ _ s
  rw [if_neg (by decide)]
  refine wpAny_bind (slicePart_none (wpAny_bind (slicePart_int (wpAny_bind (wpAny_pure ?_)))))
  show wpAny _ _ (match Builtin.Slice.sliceAdjust none (some (b : Int)) 1 (n : Int) with | (lo, hi) => pure (lo, (1 : Int), Builtin.Slice.slicePlaces lo hi 1)) _ _ s
  rw [adjust_to b n hb]
  show wpAny _ _ (pure ((0 : Int), (1 : Int), Builtin.Slice.slicePlaces (0 : Int) (b : Int) 1)) _ _ s
  rw [places_to b]
  exact wpAny_pure h
theorem pick_to (xs : Array Value) (b : Nat) : ((List.range b).filterMap fun (k : Nat) => xs[((0 : Int) + (k : Int) * 1).toNat]?).toArray = (xs.toList.take b).toArray := by
  have e : (fun (k : Nat) => xs[((0 : Int) + (k : Int) * 1).toNat]?) = fun k => xs[0 + k]? := by
    funext k
    have : ((0 : Int) + (k : Int) * 1).toNat = 0 + k := by omega
    rw [this]
  rw [e]
  have := pick_run xs 0 b
  rw [List.filterMap_map] at this
  have e2 : ((fun x => xs[x]?) ∘ fun x => 0 + x) = fun k => xs[0 + k]? := rfl
  rw [e2] at this
  rw [this, List.drop_zero]
theorem getItem_tuple_to {t sl : Addr} {items : Array Value} {b : Nat} {u : Tok} {Q : Value → Shared → Prop} (ht : IsTup s.heap t items) (hs : s.heap.IsSliceOf sl .none (.int b u) .none) (hb : b < items.size)
    (h : Q (.ref s.heap.objs.size) { s with heap := s.heap.push { cls := .type "tuple", data := .seq (items.toList.take b).toArray } })
    (hsz : items.size ≤ sizeLine) : wpAny (model prog w) A (getItem (.ref t) (.ref sl)) Q E s := by
  have htake : sizeOk (.seq (items.toList.take b).toArray) := by
    show (items.toList.take b).toArray.size ≤ sizeLine
    rw [List.size_toArray, List.length_take, Array.length_toList]
    omega
  refine e1_3 (id hs) ?_
  intro os hos hcs hds
  have hTs : s.TypeIs (.ref sl) "slice" := ⟨os, hos, hcs⟩
  unfold getItem
  try with_reducible refine wpAny_holding ?_
  first | refine wpAny_bind (wpAny_pure ?_) | skip
  refine wpAny_bind (wpAny_sequenceKey ht.typeIs (by decide) ?_)
  refine wpAny_bind (wpAny_callSpecial?_slot (name := Str.ofString "__getitem__") ht.typeIs slot_tuple_getitem
    (wpAny_call_entry slot_tuple_getitem ht.typeIs entry_tuple_getitem ?_ (args_tuple_getitem _ _)))
  show wpAny _ _ (Builtin.Tuple.tupleItemsOf (.ref t) >>= _) _ _ s
  refine wpAny_bind (tupleItemsOf_ ht ?_)
  refine wpAny_bind (wpAny_typeOf hTs ?_)
  rw [if_pos (by decide)]
  refine wpAny_bind (sliceApplied_to hs (Nat.le_of_lt hb) ?_)
  have hno : ¬ (((0 : Int) == 0 && (1 : Int) == 1 && b == items.size) = true) := by
    have : (b == items.size) = false := by rw [beq_eq_false_iff_ne]; omega
    rw [this]; simp
  show wpAny _ _ (if ((0 : Int) == 0 && (1 : Int) == 1 && b == items.size) = true then _ else _) _ _ s
  rw [if_neg hno, pick_to items b]
  first
    | exact wpAny_bind (m := Builtin.Tuple.tupleExact _) (wpAny_newObj_type (wpAny_pure ⟨_, rfl, wpAny_pure h⟩) htake)
    | exact wpAny_bind (m := Builtin.Tuple.tupleExact _) (wpAny_newObj_type (wpAny_bind (wpAny_pure (wpAny_pure ⟨_, rfl, wpAny_pure h⟩))) htake)
    | exact wpAny_bind (wpAny_bind (m := Builtin.Tuple.tupleExact _) (wpAny_newObj_type (wpAny_pure (wpAny_pure ⟨_, rfl, wpAny_pure h⟩)) htake))
    | exact wpAny_bind (wpAny_bind (m := Builtin.Tuple.tupleExact _) (wpAny_newObj_type (wpAny_pure ⟨_, rfl, wpAny_pure h⟩) htake))
end
section
variable {w : World} {C : Cx} {α β : Type} {l : Ls} {N N' : Hl} {env : Env} {r : Nat}
theorem SP_sliceT {value upper : Expr} {p pos : Pos} {Q : Value → Ls → Hl → Prop}
    (h : SP w C (eval value env) l N (fun o l' N' => SP w C (eval upper env) l' N' (fun u l'' N'' => ∃ a vs k tu, o = .ref a ∧ u = .int k tu ∧ N'' a = some (tupObj vs) ∧ 0 ≤ k ∧ k.toNat < vs.length ∧ vs.length ≤ 4096 ∧
      ∀ q N3, Keep [] N'' N3 → N'' q = none → N3 q = some (tupObj (vs.take k.toNat)) → Q (.ref q) l'' N3)))
    (ht : ∀ o r, letTemporaryGo value o r = pure () := by intro _ _; rfl) : SP w C (eval (.Subscript value (.Slice none (some upper) none p) pos) env) l N Q := fun s hl hN => by
  refine wpAny_Subscript_Slice (T := "tuple") slot_tuple_getitem.lookup (h.run hl hN fun o h₁ tk₁ l₁ N₁ x₁ y₁ z₁ => wpAny_Slice (wpAny_evalPart_none (wpAny_evalPart_some (z₁.run x₁ y₁ fun u h₂ tk₂ l₂ N₂ x₂ y₂ z₂ => ?_)))) ht
  refine e4_7 z₂ ?_
  intro a vs k tu hy4_ hy5_ e h0 hk hz hq
  subst hy4_
  subst hy5_
  rw [evalPart_none]
  have x3 := x₂.push ({ cls := .type "slice", data := .fields #[.none, .int k tu, .none] } : Obj)
  have y3 := y₂.push x₂ ({ cls := .type "slice", data := .fields #[.none, .int k tu, .none] } : Obj)
  have f3 := y₂.fresh
  have f4 := y3.fresh
  have e1 : (h₂.push ({ cls := .type "slice", data := .fields #[.none, .int k tu, .none] } : Obj)).objs.size = h₂.objs.size + 1 := Heap.size_push ..
  have y4 := y3.push x3 (tupObj (vs.take k.toNat))
  have x4 := x3.push (tupObj (vs.take k.toNat))
  have ht' : IsTup (h₂.push ({ cls := .type "slice", data := .fields #[.none, .int k tu, .none] } : Obj)) a vs.toArray := isTup_at (Heap.get?_push_of_some _ (y₂ _ _ e).1)
  have hk' : k = ((k.toNat : Nat) : Int) := (Int.toNat_of_nonneg h0).symm
  have hs' : (h₂.push ({ cls := .type "slice", data := .fields #[.none, .int k tu, .none] } : Obj)).IsSliceOf h₂.objs.size .none (.int ((k.toNat : Nat) : Int) tu) .none := by
    rw [← hk']
    exact Heap.IsSliceOf.new ..
  refine wpAny_pure ⟨ht'.typeIs, getItem_tuple_to ht' hs' (by first | exact nm1 hk | exact nm1 (Ne.symm hk) | simpa using hk) ?_ (by simpa using sz hz)⟩
  refine Po.intro (l := l₂) x4 y4 (hq _ _ (((Keep.new f3).trans (Keep.new f4))) ?_ (upd_self ..))
  rw [upd_ne (by rw [e1]; exact Nat.succ_ne_self _)] at f4
  exact f4
theorem SP_neg {x : Expr} {pos : Pos} {k : Int} {Q : Value → Ls → Hl → Prop} (h : SP w C (eval x env) l N (fun v l' N' => ∃ t, v = .int k t ∧ ∀ t', Q (.int (-k) t') l' N')) : SP w C (eval (.UnaryOp .USub x pos) env) l N Q := fun s hl hN => by
  refine wpAny_UnaryOp (h.run hl hN fun v h₁ tk₁ l₁ N₁ x₁ y₁ z₁ => ?_)
  refine e1_2 z₁ ?_
  intro t hy1_ hq
  subst hy1_
  exact neg_int ⟨h₁, _, l₁, N₁, rfl, x₁, y₁, hq _⟩
theorem Br.pick {b : Bool} {x y : Int} {e1 e2 : Sem Value} {Q : Value → Ls → Hl → Prop} (h1 : ∀ Q' : Value → Ls → Hl → Prop, (∀ t, Q' (.int x t) l N) → SP w C e1 l N Q') (h2 : ∀ Q' : Value → Ls → Hl → Prop, (∀ t, Q' (.int y t) l N) → SP w C e2 l N Q') (h : ∀ t k, k = (if b then x else y) → Q (.int k t) l N) :
    Br b (SP w C e1 l N Q) (SP w C e2 l N Q) := by
  constructor
  · rintro rfl; exact h1 Q fun t => h t x rfl
  · rintro rfl; exact h2 Q fun t => h t y rfl
end

end
/-! part Ld -/
section
set_option linter.unusedVariables false
def lawOf : Option (List Stmt × Scope) := match PG.main.body.getLast? with
  | some (.FunctionDef _ _ body _ _ _ scope _ _ _) => some (body, scope)
  | _ => none
def lawFrom (k : Nat) : Option (List Stmt × Scope) := match lawOf with
  | some (b, s) => some (b.drop k, s)
  | none => none
theorem law_enter {k : Nat} {P : List Stmt → Scope → Prop} {body : List Stmt} {scope : Scope} (hb : lawFrom k = some (body, scope)) (h : P body scope) : ∃ body scope, lawFrom k = some (body, scope) ∧ P body scope := ⟨body, scope, hb, h⟩
theorem law_use {k : Nat} {P : List Stmt → Scope → Prop} (h : ∃ body scope, lawFrom k = some (body, scope) ∧ P body scope) {body : List Stmt} {scope : Scope} (hb : lawFrom k = some (body, scope)) : P body scope := by
  refine e2_2 h ?_
  try clear h
  intro b s hb' hp
  rw [hb] at hb'; cases hb'; exact hp
def K0 (rows : Rws) : Prop := ∀ k ∈ rows, k.op = sNot ∨ k.op = sEq → k.kind = 0
theorem K0.ent {rows : Rws} (h : K0 rows) {k : Sh} (hk : k.op = sNot ∨ k.op = sEq → k.kind = 0) : K0 (ent rows k) := by
  unfold Mine.ent
  split
  · exact h
  · intro x hx
    rcases List.mem_append.mp hx with hx | hx
    · exact h x hx
    · rw [List.mem_singleton] at hx; subst hx; exact hk
/-- what holds in the law's frame -/
structure Fst (w : World) (C : Cx) (K : LC) (Kc : Addr) (N : Hl) (spot : Int) (rows : Rws) (Ts Gs : List Int) : Prop where
  li : LI w K N spot rows rows Ts Gs
  wf : WF rows
  tT : ∀ t ∈ Ts, Typed rows 0 t
  tG : ∀ t ∈ Gs, Typed rows 3 t
  pT : 0 < Ts.length
  pG : 0 < Gs.length
  sp0 : 0 ≤ spot
  cf : ∃ o, N (C.L + 1) = some o ∧ o.data = .cell (some (.ref K.feed))
  ct : ∃ o, N (C.L + 1 + 1) = some o ∧ o.data = .cell (some (.ref K.T))
  cg : ∃ o, N (C.L + 1 + 1 + 1) = some o ∧ o.data = .cell (some (.ref K.G))
  kc : ∃ n t0 t1, N Kc = some (lst [.int 0 t0, .int 1 t1] n)
  sg : SigsOk K.sigs
  off : ∀ a ∈ [C.L + 1, C.L + 1 + 1, C.L + 1 + 1 + 1, Kc], a ∉ K.all
  k0 : K0 rows
def lawL (K : LC) (Kc : Addr) (tk : Tok) : Ls := [(Str.ofString "book_now", .ref K.B.b), (Str.ofString "calls", .ref Kc), (Str.ofString "kind", .int 3 tk), (Str.ofString "bank_now", .ref K.A.x)]
/-- from statement k on -/
def LawFrom7 (body : List Stmt) (scope : Scope) : Prop :=
  ∀ (w : World) (C : Cx) (N : Hl) (qual : Str) (fa : Addr) (cdv : Value) (K : LC) (Kc : Addr) (tk : Tok) (rows : Rws) (Ts Gs : List Int), Ok w C (envOfC qual scope C.L fa cdv) 60 →
    Fst w C K Kc N 0 rows Ts Gs → rows.length ≤ 10 → Ts.length ≤ 10 → Gs.length ≤ 10 →
    SP w C (execs body (envOfC qual scope C.L fa cdv)) (lawL K Kc tk) N (fun f l N' => f = .ret (.bool true))
def LA (A : BnkA) (sn sw : Addr) : List Addr := [sn, sw, A.x, A.dx, A.ops, A.args, A.sorts, A.datas, A.nums, A.fnames, A.fargs, A.fres]
def LawFrom4 (body : List Stmt) (scope : Scope) : Prop :=
  ∀ (w : World) (C : Cx) (N : Hl) (qual : Str) (fa : Addr) (cdv : Value) (A : BnkA) (B : BkA) (feed X Kc sn sw : Addr) (len nK : Nat) (tk t0 t1 : Tok) (o1 o2 o3 : Obj), Ok w C (envOfC qual scope C.L fa cdv) 60 →
    BankIn w N A [⟨sTrue, [], 0, 0⟩, ⟨sFalse, [], 0, 0⟩] → FunsIn N A [([3], 3), ([3], 0)] → BookIn w N B [] → FeedIn N feed X len 0 → N Kc = some (lst [.int 0 t0, .int 1 t1] nK) →
    N (C.L + 1) = some o1 → o1.data = .cell (some (.ref feed)) → N (C.L + 1 + 1) = some o2 → o2.data = .cell none → N (C.L + 1 + 1 + 1) = some o3 → o3.data = .cell none →
    Apart N (B.d :: B.r :: B.b :: Kc :: (LA A sn sw ++ [feed, X, C.L + 1, C.L + 1 + 1, C.L + 1 + 1 + 1])) →
    SP w C (execs body (envOfC qual scope C.L fa cdv)) [(Str.ofString "book_now", .ref B.b), (Str.ofString "calls", .ref Kc), (Str.ofString "kind", .int 3 tk), (Str.ofString "bank_now", .ref A.x)] N (fun f l N' => f = .ret (.bool true))
def LawSP (body : List Stmt) (scope : Scope) : Prop :=
  ∀ (w : World) (C : Cx) (N : Hl) (qual : Str) (fa : Addr) (cdv : Value) (sa : Addr) (vs : List Value) (ns : List Int) (o1 o2 o3 : Obj), Ok w C (envOfC qual scope C.L fa cdv) 60 →
    N (C.L + 1) = some o1 → o1.data = .cell none → N (C.L + 1 + 1) = some o2 → o2.data = .cell none → N (C.L + 1 + 1 + 1) = some o3 → o3.data = .cell none →
    C.h₀.IsList sa vs.toArray → IntsAre vs ns → vs.length ≤ 63 →
    SP w C (execs body (envOfC qual scope C.L fa cdv)) [(Str.ofString "script", .ref sa)] N (fun f l N' => f = .ret (.bool true))

end
/-! part Le -/
section
set_option linter.unusedVariables false
theorem CallsC.mono {w : World} {f : Addr} {args : List Value} {N : Hl} {r : Nat} {Q Q' : Value → Hl → Prop} (h : CallsC w f args N r Q) (k : ∀ v N', Q v N' → Q' v N') : CallsC w f args N r Q' := fun C env ok l s hl hN R hR =>
  h C env ok l s hl hN R fun v s' ⟨h', tk', l', N', e, a, b, c, d⟩ => hR v s' ⟨h', tk', l', N', e, a, b, c, k _ _ d⟩
theorem SP.genS {w : World} {C : Cx} {α : Type} {t : Sem α} {l : Ls} {N : Hl} {Q : α → Ls → Hl → Prop} {q : Addr} {o o' : Obj} (hq : N q = some o) (h : ∀ N', Keep [q] N N' → N' q = some o' → SP w C t l N' Q) : SP w C t l (upd N q o') Q :=
  h _ (Keep.chg (by simp)) (upd_self ..)
theorem Keep.tupC {N N' : Hl} {c : Addr} {o : Obj} {v : Option Value} (k : Keep [c] N N') (e : N c = some o) (d : o.data = .cell v) : TupKeep N N' := fun a vs ea => k a _ ea (by
  rw [List.mem_singleton]; rintro rfl; rw [e] at ea; cases ea; cases d)
theorem FunsIn.has {N : Hl} {A : BnkA} {sigs : List (List Int × Int)} (h : FunsIn N A sigs) : ∀ a ∈ [A.fnames, A.fargs, A.fres], ∃ o, N a = some o := by
  refine e7_7 h ?_
  try clear h
  intro vn nn ys va' na' vr nr g1 _ _ g2 _ g3 _
  intro a ha
  simp only [List.mem_cons, List.not_mem_nil, or_false] at ha
  (rcases ha with ha | ha | ha <;> subst a)
  · exact ⟨_, g1⟩
  · exact ⟨_, g2⟩
  · exact ⟨_, g3⟩
theorem DecIn.has {w : World} {N : Hl} {A : BnkA} {rows : Rws} {sigs : List (List Int × Int)} {sn sw : Addr} {ns : Nat} (h : DecIn w N A rows sigs sn sw ns) : ∀ a ∈ LA A sn sw, ∃ o, N a = some o := by
  refine e0_2 h.a ?_
  intro hO hz0_
  refine e9_1 hz0_ ?_
  try clear hz0_
  intro vo no va na vs ns vd nd xs hL
  refine e2_2 h.s1 ?_
  intro v1 n1 e1 _
  refine e2_2 h.s2 ?_
  intro v2 n2 e2 _
  refine e1_2 hL.nums.get ?_
  intro om em _
  have hf := h.f.has
  intro a ha
  simp only [LA, List.mem_cons, List.not_mem_nil, or_false] at ha
  (rcases ha with ha | ha | ha | ha | ha | ha | ha | ha | ha | ha | ha | ha <;> subst a)
  · exact ⟨_, e1⟩
  · exact ⟨_, e2⟩
  · exact ⟨_, hO.1⟩
  · exact ⟨_, hO.2.1⟩
  · exact ⟨_, hL.ops⟩
  · exact ⟨_, hL.args⟩
  · exact ⟨_, hL.sorts⟩
  · exact ⟨_, hL.datas⟩
  · exact ⟨_, em⟩
  · exact hf _ (by simp)
  · exact hf _ (by simp)
  · exact hf _ (by simp)
theorem bookF_eq (B : BkA) : valueAt [(Str.ofString "rows", Value.ref B.r), (Str.ofString "numbers", .ref B.d)] = bookF B := funext fun x => by
  unfold valueAt bookF
  rw [List.find?_cons]
  by_cases h1 : x = Str.ofString "rows"
  · subst h1; rw [if_pos rfl]; simp
  · rw [if_neg h1]
    have : decide ((Str.ofString "rows", Value.ref B.r).1 = x) = false := decide_eq_false (fun q => h1 q.symm)
    rw [this]
    dsimp only
    rw [List.find?_cons]
    by_cases h2 : x = Str.ofString "numbers"
    · subst h2; rw [if_pos rfl]; simp
    · rw [if_neg h2]
      have : decide ((Str.ofString "numbers", Value.ref B.d).1 = x) = false := decide_eq_false (fun q => h2 q.symm)
      rw [this]
      rfl
namespace law_walk_c
def P (w : World) (C : Cx) (N : Hl) (qual : Str) (fa : Addr) (cdv : Value) (sa : Addr) (vs : List Value) (ns : List Int) (o1 : Obj) (o2 : Obj) (o3 : Obj) (body : List Stmt) (scope : Scope) : Prop := Ok w C (envOfC qual scope C.L fa cdv) 60 → N (C.L + 1) = some o1 → o1.data = .cell none → N (C.L + 1 + 1) = some o2 → o2.data = .cell none → N (C.L + 1 + 1 + 1) = some o3 → o3.data = .cell none → C.h₀.IsList sa vs.toArray → IntsAre vs ns → vs.length ≤ 63 → SP w C (execs body (envOfC qual scope C.L fa cdv)) [(Str.ofString "script", .ref sa)] N (fun f l N' => f = .ret (.bool true))
@[reducible] noncomputable def lb : {x : List Stmt × Scope // lawFrom 0 = some x} := ⟨_, by with_unfolding_all exact rfl⟩
noncomputable def V : World × Cx × Hl × Str × Addr × Value × Addr × List Value × List Int × Obj × Obj × Obj := pick (aWorld 0, ⟨callerA, {}, 0⟩, fun _ => none, Str.empty, 0, .none, 0, [], [], default, default, default) fun q => P q.1 q.2.1 q.2.2.1 q.2.2.2.1 q.2.2.2.2.1 q.2.2.2.2.2.1 q.2.2.2.2.2.2.1 q.2.2.2.2.2.2.2.1 q.2.2.2.2.2.2.2.2.1 q.2.2.2.2.2.2.2.2.2.1 q.2.2.2.2.2.2.2.2.2.2.1 q.2.2.2.2.2.2.2.2.2.2.2 lb.1.1 lb.1.2
@[irreducible] noncomputable def w : World := V.1
@[irreducible] noncomputable def C : Cx := V.2.1
@[irreducible] noncomputable def N : Hl := V.2.2.1
@[irreducible] noncomputable def qual : Str := V.2.2.2.1
@[irreducible] noncomputable def fa : Addr := V.2.2.2.2.1
@[irreducible] noncomputable def cdv : Value := V.2.2.2.2.2.1
@[irreducible] noncomputable def sa : Addr := V.2.2.2.2.2.2.1
@[irreducible] noncomputable def vs : List Value := V.2.2.2.2.2.2.2.1
@[irreducible] noncomputable def ns : List Int := V.2.2.2.2.2.2.2.2.1
@[irreducible] noncomputable def o1 : Obj := V.2.2.2.2.2.2.2.2.2.1
@[irreducible] noncomputable def o2 : Obj := V.2.2.2.2.2.2.2.2.2.2.1
@[irreducible] noncomputable def o3 : Obj := V.2.2.2.2.2.2.2.2.2.2.2
set_option maxHeartbeats 4000000 in
theorem core (h4 : ∃ body scope, lawFrom 4 = some (body, scope) ∧ LawFrom4 body scope) : P w C N qual fa cdv sa vs ns o1 o2 o3 lb.1.1 lb.1.2 := by
  unfold P
  intro ok e1 d1 e2 d2 e3 d3 hsc hi hlen
  have n12 : C.L + 1 ≠ C.L + 1 + 1 := Nat.ne_of_lt (Nat.lt_succ_self _)
  have n13 : C.L + 1 ≠ C.L + 1 + 1 + 1 := Nat.ne_of_lt (Nat.lt_succ_of_lt (Nat.lt_succ_self _))
  have n23 : C.L + 1 + 1 ≠ C.L + 1 + 1 + 1 := Nat.ne_of_lt (Nat.lt_succ_self _)
  have ap0 : Apart N [C.L + 1, C.L + 1 + 1, C.L + 1 + 1 + 1] := ⟨by simp [n12, n13, n23], by
    intro a ha
    simp only [List.mem_cons, List.not_mem_nil, or_false] at ha
    (rcases ha with ha | ha | ha <;> subst a)
    · exact ⟨_, e1⟩
    · exact ⟨_, e2⟩
    · exact ⟨_, e3⟩⟩
  refine SP_cons (SP_AssignTuple ?_ (by walk_at "m_rfl") (by walk_at "m_rfl"))
  iterate 8 walk_at "n1"
  refine SP_sliceBase hsc (by first | exact Nat.le_refl _ | exact leK rfl | omega) ?_ (fun _ _ => by walk_at "m_rfl")
  walk_at "n"
  refine ⟨rfl, ?_⟩
  walk_at "n"
  refine ⟨90, _, rfl, by decide, fun q N1 k1 hq e1' => ?_⟩
  walk_at "n"
  refine SP_listL e1' (LO.lst _ _) (sz (by rw [List.length_take]; omega)) fun X nX hX => ?_
  refine SP.gen1 hX fun N2 k2 eX => ?_
  walk_at "n"
  refine SP_newList (fun feed hfeed => ?_) (sz (by simp))
  walk_at "n"
  refine SP.gen1 hfeed fun N3 k3 ef => ?_
  walk_at "n"
  have k03 : Keep [] N N3 := (k1.trans k2).trans k3
  have ap3 : Apart N3 [feed, X, C.L + 1, C.L + 1 + 1, C.L + 1 + 1 + 1] := (((ap0.keep (keep_ex k1 (by simp))).new hX (keep_ex k2 (by simp)) ⟨_, eX⟩).new hfeed (keep_ex k3 (by simp)) ⟨_, ef⟩)
  refine SP_newInst (r := 58) ok ⟨_, _, ef⟩ (by k_is) (by k_is) (by k_is) fun x dx hx hdx hne => ?_
  refine (init_spec 55 hx hdx hne).mono ?_
  intro v N4 hz_
  refine e0_2 hz_ ?_
  try clear hz_
  intro hy0_ hz0_
  subst hy0_
  refine e3_1 hz0_ ?_
  try clear hz0_
  intro A sn sw IP
  refine ⟨rfl, ?_⟩
  obtain ⟨IPx, IPa, IPf, IPg1, IPg2, IPg3, IPs1, IPs2, IPnd, IPfr, IPk⟩ := IP
  subst IPx
  have D4 : DecIn w N4 A [⟨sTrue, [], 0, 0⟩, ⟨sFalse, [], 0, 0⟩] [] sn sw 3 := ⟨IPa, IPf, IPg1, IPg2, IPg3, IPs1, IPs2, IPnd⟩
  have ap4 : Apart N4 (LA A sn sw ++ [feed, X, C.L + 1, C.L + 1 + 1, C.L + 1 + 1 + 1]) := by
    refine ⟨List.nodup_append.mpr ⟨IPnd, ap3.1, fun a ha b hb e => ?_⟩, fun a ha => ?_⟩
    · subst e
      refine e1_1 (ap3.2 a hb) ?_
      intro o eo
      rw [IPfr a ha] at eo; cases eo
    · rcases List.mem_append.mp ha with ha | ha
      · exact D4.has a ha
      · obtain ⟨o, eo⟩ := ap3.2 a ha; exact ⟨o, IPk a o eo (by first | exact nm0 | simp)⟩
  have k04 := k03.trans IPk
  walk_at "n"
  refine SP_newTuple (fun q2 hq2 => ?_) (sz (by simp))
  walk_at "n"
  refine SP.gen1 hq2 fun N5 k5 e5 => ?_
  have D5 := D4.new k5
  have k05 := k04.trans k5
  have ap5 := ap4.keep (keep_ex k5 (by simp))
  have c15 := k05 _ _ e1 (by first | exact nm0 | simp)
  refine SP_unpack2 ok e5 ?_
  refine SP_storeCell ok (by walk_at "m_rfl") (by walk_at "m_rfl") c15 d1 fun o1' d1' => ?_
  refine SP.genS c15 fun N6 k6 c16 => ?_
  have nix : ∀ i, 17 ≤ i → ∀ c, (LA A sn sw ++ [feed, X, C.L + 1, C.L + 1 + 1, C.L + 1 + 1 + 1])[i - 3]? = some c → c ∉ LA A sn sw := fun i hi c hc hm => by
    refine e1_1 (List.mem_iff_getElem?.mp hm) ?_
    intro j hj
    have hjl : j < 12 := (List.getElem?_eq_some_iff.mp hj).1
    exact nd_ne ap4.1 (i - 3) j (by first | exact Nat.le_refl _ | exact leK rfl | omega) hc (by rw [List.getElem?_append_left hjl]; exact hj) rfl
  have D6 : DecIn w N6 A [⟨sTrue, [], 0, 0⟩, ⟨sFalse, [], 0, 0⟩] [] sn sw 3 := D5.keepA (k6.tupC c15 d1) fun a ha o e => k6 a o e (by
    rw [List.mem_singleton]; rintro rfl; exact nix 17 (by decide) _ rfl ha)
  have ap6 := ap5.keep (keep_ex k6 (by simp [c16]))
  walk_at "n"
  refine SP_cons ?_
  have hO6 := D6.a.o
  walk_at "n"
  refine SP_meth (f := 97) ok hO6.1 hO6.2.1 (pgA _) (by k_is) (by k_is) D6.g3 ?_
  dsimp only
  walk_at "n"
  refine SP_use ok (declare_sort_spec D6 (by decide) 50) (by first | exact Nat.le_refl _ | exact leK rfl | omega) (fun v N7 hz_ => ?_)
  refine e1_3 hz_ ?_
  try clear hz_
  intro tk e D7 k7
  subst e
  have hO7 := D7.a.o
  have ap7 := ap6.keep (keep_ex k7 (by
    intro a ha
    simp only [List.mem_cons, List.not_mem_nil, or_false] at ha
    (rcases ha with ha | ha <;> subst a)
    · exact D7.has _ (by simp [LA])
    · exact D7.has _ (by simp [LA])))
  walk_at "n"
  refine SP_cons ?_
  walk_at "n"
  refine SP_newTuple (fun q8 hq8 => ?_) (sz (by simp))
  walk_at "n"
  refine SP.gen1 hq8 fun N8 k8 e8 => ?_
  have A8 := D7.a.le k8
  have F8 := D7.f.le k8
  have ap8 := ap7.keep (keep_ex k8 (by simp))
  walk_at "n"
  refine SP_use ok (declare_fun_spec A8 F8 (by decide) ⟨_, e8, .cons 3 _ .nil⟩ 50) (by first | exact Nat.le_refl _ | exact leK rfl | omega) (fun v N9 hz_ => ?_)
  refine e1_4 hz_ ?_
  try clear hz_
  intro t0 e A9 F9 k9
  subst e
  have hO9 := A9.o
  have ap9 := ap8.keep (keep_ex k9 F9.has)
  walk_at "n"
  refine SP_newTuple (fun q10 hq10 => ?_) (sz (by simp))
  walk_at "n"
  refine SP.gen1 hq10 fun N10 k10 e10 => ?_
  have A10 := A9.le k10
  have F10 := F9.le k10
  have ap10 := ap9.keep (keep_ex k10 (by simp))
  walk_at "n"
  refine SP_use ok (declare_fun_spec A10 F10 (by decide) ⟨_, e10, .cons 3 _ .nil⟩ 50) (by first | exact Nat.le_refl _ | exact leK rfl | omega) (fun v N11 hz_ => ?_)
  refine e1_4 hz_ ?_
  try clear hz_
  intro t1 e A11 F11 k11
  subst e
  have ap11 := ap10.keep (keep_ex k11 F11.has)
  walk_at "n"
  refine SP_newList (fun Kc hKc => ?_) (sz (by simp))
  walk_at "n"
  with_reducible refine SP.gen1 hKc ?_
  intro N12 k12 eK
  have A12 := A11.le k12
  have F12 := F11.le k12
  have ap12 := ap11.new hKc (keep_ex k12 (by simp)) ⟨_, eK⟩
  refine SP_cons ?_
  walk_at "n"
  with_reducible refine SP_Dict2S (by decide) ?_
  intro b hb
  refine SP.gen1 hb fun N13 k13 eb => ?_
  walk_at "n"
  refine SP_newList (fun rr hrr => ?_) (sz (by simp))
  walk_at "n"
  refine SP.gen1 hrr fun N14 k14 er => ?_
  refine SP_newDict fun dd od hdd _ _ _ eod => ?_
  subst eod
  have k15 : Keep [] N14 (upd N14 dd emptyD) := Keep.new hdd
  have ed : upd N14 dd emptyD dd = some emptyD := upd_self ..
  have ap15 : Apart (upd N14 dd emptyD) _ := ((((ap12.new hb (keep_ex k13 (by simp)) ⟨_, eb⟩).new hrr (keep_ex k14 (by simp)) ⟨_, er⟩).new hdd (keep_ex k15 (by simp)) ⟨_, ed⟩))
  generalize upd N14 dd emptyD = N15 at k15 ed ap15
  have eb15 := k15 _ _ (k14 _ _ eb (by first | exact nm0 | simp)) (by simp)
  have er15 := k15 _ _ er (by first | exact nm0 | simp)
  refine ⟨eb15, fun ob hob => ?_⟩
  walk_at "n"
  refine SP.genS eb15 fun N16 k16 eb16 => ?_
  have nbr : rr ≠ b := nd_ne ap15.1 1 2 (by decide) rfl rfl
  have nbd : dd ≠ b := nd_ne ap15.1 0 2 (by decide) rfl rfl
  have er16 := k16 _ _ er15 (by first | exact nm1 nbr | exact nm1 (Ne.symm nbr) | simpa using nbr)
  have ed16 := k16 _ _ ed (by first | exact nm1 nbd | exact nm1 (Ne.symm nbd) | simpa using nbd)
  have hB16 : BookIn w N16 ⟨b, rr, dd⟩ [] := ⟨[], ⟨nbd.symm, by rw [← bookF_eq]; exact DicF.ofS eb16 hob (by simp), ⟨_, er16⟩, dicH_empty ed16, fun i x e => by simp at e⟩, rfl⟩
  have ap16 := ap15.keep (keep_ex k16 (by simp [eb16]))
  have tk16 : TupKeep N15 N16 := k16.tup (by intro a ha; rw [List.mem_singleton] at ha; subst a; exact ⟨_, eb15, dic_nt rfl⟩)
  have nin16 : ∀ i, i ≠ 2 → ∀ a, (dd :: rr :: b :: Kc :: (LA A sn sw ++ [feed, X, C.L + 1, C.L + 1 + 1, C.L + 1 + 1 + 1]))[i]? = some a → a ∉ [b] := fun i hi a ha => by
    rw [List.mem_singleton]; exact nd_ne ap15.1 i 2 hi ha rfl
  have kk : Keep [] N12 N15 := (k13.trans k14).trans k15
  have A16 : BankIn w N16 A [⟨sTrue, [], 0, 0⟩, ⟨sFalse, [], 0, 0⟩] := (A12.le kk).keep tk16 fun a ha o e => k16 a o e (by
    simp only [BnkA.all, List.mem_cons, List.not_mem_nil, or_false] at ha
    rcases ha with h | h | h | h | h | h | h
    · exact h ▸ nin16 6 (by decide) _ rfl
    · exact h ▸ nin16 7 (by decide) _ rfl
    · exact h ▸ nin16 8 (by decide) _ rfl
    · exact h ▸ nin16 9 (by decide) _ rfl
    · exact h ▸ nin16 10 (by decide) _ rfl
    · exact h ▸ nin16 11 (by decide) _ rfl
    · exact h ▸ nin16 12 (by decide) _ rfl)
  have F16 : FunsIn N16 A [([3], 3), ([3], 0)] := (F12.le kk).keep tk16 fun a ha o e => k16 a o e (by
    simp only [List.mem_cons, List.not_mem_nil, or_false] at ha
    rcases ha with h | h | h
    · exact h ▸ nin16 13 (by decide) _ rfl
    · exact h ▸ nin16 14 (by decide) _ rfl
    · exact h ▸ nin16 15 (by decide) _ rfl)
  have up : ∀ i, 3 ≤ i → (i < 4 ∨ 15 < i) → ∀ a o, (dd :: rr :: b :: Kc :: (LA A sn sw ++ [feed, X, C.L + 1, C.L + 1 + 1, C.L + 1 + 1 + 1]))[i]? = some a → N12 a = some o → N16 a = some o := fun i hi _ a o ha e => k16 _ _ (kk _ _ e (by first | exact nm0 | simp)) (nin16 i (by first | exact Nat.le_refl _ | exact leK rfl | omega) a ha)
  have up6 : ∀ i, 15 < i → ∀ a o, (dd :: rr :: b :: Kc :: (LA A sn sw ++ [feed, X, C.L + 1, C.L + 1 + 1, C.L + 1 + 1 + 1]))[i]? = some a → N6 a = some o → N12 a = some o := fun i hi a o ha e => by
    have ne : ∀ j, 4 ≤ j → j ≤ 15 → ∀ c, (dd :: rr :: b :: Kc :: (LA A sn sw ++ [feed, X, C.L + 1, C.L + 1 + 1, C.L + 1 + 1 + 1]))[j]? = some c → a ≠ c := fun j h1 h2 c hc => nd_ne ap15.1 i j (by first | exact Nat.le_refl _ | exact leK rfl | omega) ha hc
    have e7 := k7 _ _ e (by simp only [List.mem_cons, List.not_mem_nil, or_false, not_or]; exact ⟨ne 4 (by decide) (by decide) _ rfl, ne 5 (by decide) (by decide) _ rfl⟩)
    have hf : a ∉ [A.fnames, A.fargs, A.fres] := by simp only [List.mem_cons, List.not_mem_nil, or_false, not_or]; exact ⟨ne 13 (by decide) (by decide) _ rfl, ne 14 (by decide) (by decide) _ rfl, ne 15 (by decide) (by decide) _ rfl⟩
    exact k12 _ _ (k11 _ _ (k10 _ _ (k9 _ _ (k8 _ _ e7 (by first | exact nm0 | simp)) hf) (by simp)) hf) (by simp)
  have k35 := IPk.trans k5
  have u56 : ∀ i, 15 < i → i ≠ 18 → ∀ a o, (dd :: rr :: b :: Kc :: (LA A sn sw ++ [feed, X, C.L + 1, C.L + 1 + 1, C.L + 1 + 1 + 1]))[i]? = some a → N5 a = some o → N16 a = some o := fun i hi hn a o ha e =>
    up i (by first | exact Nat.le_refl _ | exact leK rfl | omega) (.inr hi) a o ha (up6 i hi a o ha (k6 _ _ e (by rw [List.mem_singleton]; exact nd_ne ap15.1 i 18 hn ha rfl)))
  refine SP.has (l₀ := [(Str.ofString "book_now", .ref b), (Str.ofString "calls", .ref Kc), (Str.ofString "kind", .int 3 tk), (Str.ofString "bank_now", .ref A.x)]) (by walk_at "m_has") ?_
  refine' (law_use (k := 4) (P := LawFrom4) h4 ?hb4) w C N16 qual fa cdv A ⟨b, rr, dd⟩ feed X Kc sn sw ((vs.take 90).length) 0 tk t0 t1 o1' o2 o3 ok A16 F16 hB16 ?_ ?_ ?_ d1' ?_ d2 ?_ d3 ap16
  case hb4 => with_unfolding_all exact rfl
  · exact ⟨_, _, _, _, _, u56 16 (by decide) (by decide) _ _ rfl (k35 _ _ ef (by first | exact nm0 | simp)), LO.lst _ _, u56 17 (by decide) (by decide) _ _ rfl (k35 _ _ (k3 _ _ eX (by first | exact nm0 | simp)) (by simp)), LO.lst _ _, PyProof.Rows.IntsAre.take hi _, rfl, by rw [List.length_take]; omega⟩
  · exact up 3 (by decide) (.inl (by decide)) _ _ rfl eK
  · exact up 18 (by decide) (.inr (by decide)) _ _ rfl (up6 18 (by decide) _ _ rfl c16)
  · exact u56 19 (by decide) (by decide) _ _ rfl (k05 _ _ e2 (by first | exact nm0 | simp))
  · exact u56 20 (by decide) (by decide) _ _ rfl (k05 _ _ e3 (by first | exact nm0 | simp))

end law_walk_c
theorem law_walk (h4 : ∃ body scope, lawFrom 4 = some (body, scope) ∧ LawFrom4 body scope) : ∃ body scope, lawFrom 0 = some (body, scope) ∧ LawSP body scope :=
  ⟨law_walk_c.lb.1.1, law_walk_c.lb.1.2, law_walk_c.lb.2, fun w C N qual fa cdv sa vs ns o1 o2 o3 => pickAll (P := fun q : World × Cx × Hl × Str × Addr × Value × Addr × List Value × List Int × Obj × Obj × Obj => law_walk_c.P q.1 q.2.1 q.2.2.1 q.2.2.2.1 q.2.2.2.2.1 q.2.2.2.2.2.1 q.2.2.2.2.2.2.1 q.2.2.2.2.2.2.2.1 q.2.2.2.2.2.2.2.2.1 q.2.2.2.2.2.2.2.2.2.1 q.2.2.2.2.2.2.2.2.2.2.1 q.2.2.2.2.2.2.2.2.2.2.2 law_walk_c.lb.1.1 law_walk_c.lb.1.2) (aWorld 0, ⟨callerA, {}, 0⟩, fun _ => none, Str.empty, 0, .none, 0, [], [], default, default, default) (by with_unfolding_all exact law_walk_c.core h4) (w, C, N, qual, fa, cdv, sa, vs, ns, o1, o2, o3)⟩
end
/-! part Lf -/
section
set_option linter.unusedVariables false
theorem BookIn.off {w : World} {N N' : Hl} {B : BkA} {rows : Rws} {I : Addr} (h : BookIn w N B rows) (o : Off I N N') (hI : I ≠ B.b ∧ I ≠ B.r ∧ I ≠ B.d) : BookIn w N' B rows := h.keep fun a x e q => by
  rcases q with q | rfl | rfl | rfl
  · exact o.1 a x e (by unfold isIt; rw [q]; decide)
  · exact o.2 _ _ e hI.1.symm
  · exact o.2 _ _ e hI.2.1.symm
  · exact o.2 _ _ e hI.2.2.symm
theorem LI.decl {w : World} {K : LC} {N N' : Hl} {spot : Int} {rA rB rA' : Rws} {Ts Gs : List Int} {sg : List (List Int × Int)} (h : LI w K N spot rA rB Ts Gs) (k : Keep ([K.A.fnames, K.A.fargs, K.A.fres] ++ K.A.mut) N N') (a' : BankIn w N' K.A rA') (f' : FunsIn N' K.A sg) :
    LI w { K with sigs := sg } N' spot rA' rB Ts Gs := by
  have ix : ∀ b ∈ [K.A.fnames, K.A.fargs, K.A.fres] ++ K.A.mut, ∃ j ∈ [9, 10, 11, 12, 13, 14, 15, 16], K.all[j]? = some b := by
    intro b hb
    rcases List.mem_append.mp hb with hb | hb
    · simp only [List.mem_cons, List.not_mem_nil, or_false] at hb
      (rcases hb with hb | hb | hb <;> subst b)
      · exact ⟨14, by simp, rfl⟩
      · exact ⟨15, by simp, rfl⟩
      · exact ⟨16, by simp, rfl⟩
    · refine e1_2 (mut_ix K b hb) ?_
      intro j hj e
      exact ⟨j, by simp at hj ⊢; omega, e⟩
  have ni : ∀ i, i ∉ [9, 10, 11, 12, 13, 14, 15, 16] → ∀ a, K.all[i]? = some a → ∀ o, N a = some o → N' a = some o := fun i hi a ha o e => k a o e (h.nin _ ix i hi ha)
  have tk : TupKeep N N' := k.tup (by
    intro a ha
    rcases List.mem_append.mp ha with ha | ha
    · refine e7_7 h.f ?_
      intro vn nn ys va' na' vr nr g1 _ _ g2 _ g3 _
      simp only [List.mem_cons, List.not_mem_nil, or_false] at ha
      (rcases ha with ha | ha | ha <;> subst a)
      · exact ⟨_, g1, lst_nt _ _⟩
      · exact ⟨_, g2, lst_nt _ _⟩
      · exact ⟨_, g3, lst_nt _ _⟩
    · exact h.a.nt a ha)
  refine e0_6 (h.parts tk) ?_
  intro p1 p2 p3 p4 p5 p6
  refine ⟨a', f', p3 ?_, p4 ?_, p5 (ni 2 (by decide) _ rfl), p6 (ni 3 (by decide) _ rfl), h.sep⟩
  · intro a ha
    simp only [List.mem_cons, List.not_mem_nil, or_false] at ha
    (rcases ha with ha | ha | ha <;> subst a)
    · exact ni 4 (by decide) _ rfl
    · exact ni 5 (by decide) _ rfl
    · exact ni 6 (by decide) _ rfl
  · intro a ha
    simp only [List.mem_cons, List.not_mem_nil, or_false] at ha
    (rcases ha with ha | ha <;> subst a)
    · exact ni 0 (by decide) _ rfl
    · exact ni 1 (by decide) _ rfl
theorem sub_all (K : LC) : ∀ a ∈ ([K.A.fnames, K.A.fargs, K.A.fres] ++ K.A.mut) ++ [K.B.r, K.B.d, K.T, K.G, K.feed], a ∈ K.all := by
  intro a ha
  simp only [BnkA.mut, List.mem_append, List.mem_cons, List.not_mem_nil, or_false] at ha
  simp only [LC.all, List.mem_cons, List.not_mem_nil, or_false]
  rcases ha with ((h | h | h) | h | h | h | h | h) | h | h | h | h | h <;> simp [h]
namespace law4_c
def P (w : World) (C : Cx) (N : Hl) (qual : Str) (fa : Addr) (cdv : Value) (A : BnkA) (B : BkA) (feed : Addr) (X : Addr) (Kc : Addr) (sn : Addr) (sw : Addr) (len : Nat) (nK : Nat) (tk : Tok) (t0 : Tok) (t1 : Tok) (o1 : Obj) (o2 : Obj) (o3 : Obj) (body : List Stmt) (scope : Scope) : Prop := Ok w C (envOfC qual scope C.L fa cdv) 60 → BankIn w N A [⟨sTrue, [], 0, 0⟩, ⟨sFalse, [], 0, 0⟩] → FunsIn N A [([3], 3), ([3], 0)] → BookIn w N B [] → FeedIn N feed X len 0 → N Kc = some (lst [.int 0 t0, .int 1 t1] nK) → N (C.L + 1) = some o1 → o1.data = .cell (some (.ref feed)) → N (C.L + 1 + 1) = some o2 → o2.data = .cell none → N (C.L + 1 + 1 + 1) = some o3 → o3.data = .cell none → Apart N (B.d :: B.r :: B.b :: Kc :: (LA A sn sw ++ [feed, X, C.L + 1, C.L + 1 + 1, C.L + 1 + 1 + 1])) → SP w C (execs body (envOfC qual scope C.L fa cdv)) [(Str.ofString "book_now", .ref B.b), (Str.ofString "calls", .ref Kc), (Str.ofString "kind", .int 3 tk), (Str.ofString "bank_now", .ref A.x)] N (fun f l N' => f = .ret (.bool true))
@[reducible] noncomputable def lb : {x : List Stmt × Scope // lawFrom 4 = some x} := ⟨_, by with_unfolding_all exact rfl⟩
noncomputable def V : World × Cx × Hl × Str × Addr × Value × BnkA × BkA × Addr × Addr × Addr × Addr × Addr × Nat × Nat × Tok × Tok × Tok × Obj × Obj × Obj := pick (aWorld 0, ⟨callerA, {}, 0⟩, fun _ => none, Str.empty, 0, .none, ⟨0, 0, [], 0, 0, 0, 0, 0, 0, 0, 0, 0, 0, 0⟩, ⟨0, 0, 0⟩, 0, 0, 0, 0, 0, 0, 0, 0, 0, 0, default, default, default) fun q => P q.1 q.2.1 q.2.2.1 q.2.2.2.1 q.2.2.2.2.1 q.2.2.2.2.2.1 q.2.2.2.2.2.2.1 q.2.2.2.2.2.2.2.1 q.2.2.2.2.2.2.2.2.1 q.2.2.2.2.2.2.2.2.2.1 q.2.2.2.2.2.2.2.2.2.2.1 q.2.2.2.2.2.2.2.2.2.2.2.1 q.2.2.2.2.2.2.2.2.2.2.2.2.1 q.2.2.2.2.2.2.2.2.2.2.2.2.2.1 q.2.2.2.2.2.2.2.2.2.2.2.2.2.2.1 q.2.2.2.2.2.2.2.2.2.2.2.2.2.2.2.1 q.2.2.2.2.2.2.2.2.2.2.2.2.2.2.2.2.1 q.2.2.2.2.2.2.2.2.2.2.2.2.2.2.2.2.2.1 q.2.2.2.2.2.2.2.2.2.2.2.2.2.2.2.2.2.2.1 q.2.2.2.2.2.2.2.2.2.2.2.2.2.2.2.2.2.2.2.1 q.2.2.2.2.2.2.2.2.2.2.2.2.2.2.2.2.2.2.2.2 lb.1.1 lb.1.2
@[irreducible] noncomputable def w : World := V.1
@[irreducible] noncomputable def C : Cx := V.2.1
@[irreducible] noncomputable def N : Hl := V.2.2.1
@[irreducible] noncomputable def qual : Str := V.2.2.2.1
@[irreducible] noncomputable def fa : Addr := V.2.2.2.2.1
@[irreducible] noncomputable def cdv : Value := V.2.2.2.2.2.1
@[irreducible] noncomputable def A : BnkA := V.2.2.2.2.2.2.1
@[irreducible] noncomputable def B : BkA := V.2.2.2.2.2.2.2.1
@[irreducible] noncomputable def feed : Addr := V.2.2.2.2.2.2.2.2.1
@[irreducible] noncomputable def X : Addr := V.2.2.2.2.2.2.2.2.2.1
@[irreducible] noncomputable def Kc : Addr := V.2.2.2.2.2.2.2.2.2.2.1
@[irreducible] noncomputable def sn : Addr := V.2.2.2.2.2.2.2.2.2.2.2.1
@[irreducible] noncomputable def sw : Addr := V.2.2.2.2.2.2.2.2.2.2.2.2.1
@[irreducible] noncomputable def len : Nat := V.2.2.2.2.2.2.2.2.2.2.2.2.2.1
@[irreducible] noncomputable def nK : Nat := V.2.2.2.2.2.2.2.2.2.2.2.2.2.2.1
@[irreducible] noncomputable def tk : Tok := V.2.2.2.2.2.2.2.2.2.2.2.2.2.2.2.1
@[irreducible] noncomputable def t0 : Tok := V.2.2.2.2.2.2.2.2.2.2.2.2.2.2.2.2.1
@[irreducible] noncomputable def t1 : Tok := V.2.2.2.2.2.2.2.2.2.2.2.2.2.2.2.2.2.1
@[irreducible] noncomputable def o1 : Obj := V.2.2.2.2.2.2.2.2.2.2.2.2.2.2.2.2.2.2.1
@[irreducible] noncomputable def o2 : Obj := V.2.2.2.2.2.2.2.2.2.2.2.2.2.2.2.2.2.2.2.1
@[irreducible] noncomputable def o3 : Obj := V.2.2.2.2.2.2.2.2.2.2.2.2.2.2.2.2.2.2.2.2
set_option maxHeartbeats 4000000 in
theorem core (h7 : ∃ body scope, lawFrom 7 = some (body, scope) ∧ LawFrom7 body scope) : P w C N qual fa cdv A B feed X Kc sn sw len nK tk t0 t1 o1 o2 o3 lb.1.1 lb.1.2 := by
  unfold P
  intro ok hA hF hB hfd eK e1 d1 e2 d2 e3 d3 ap
  refine SP_cons ?_
  refine SP_For ok (by walk_at "m_rfl") ?_ (fun _ => rfl)
  walk_at "n"
  refine SP_newTuple (fun q1 hq1 => ?_) (sz (by simp))
  refine SP.gen1 hq1 fun N1 k1 eq1 => ?_
  have ap1 := ap.keep (keep_ex k1 (by simp))
  have hI1 : ∀ {I : Addr}, N1 I = none → I ≠ B.b ∧ I ≠ B.r ∧ I ≠ B.d := fun hI => by
    refine ⟨?_, ?_, ?_⟩
    · rintro rfl; obtain ⟨o, e⟩ := ap1.2 B.b (by simp); rw [hI] at e; cases e
    · rintro rfl; obtain ⟨o, e⟩ := ap1.2 B.r (by simp); rw [hI] at e; cases e
    · rintro rfl; obtain ⟨o, e⟩ := ap1.2 B.d (by simp); rw [hI] at e; cases e
  have hB1 := hB.le k1
  have nq1 : q1 ∉ [B.r, B.d] := by
    simp only [List.mem_cons, List.not_mem_nil, or_false, not_or]
    refine e1_1 (ap.2 B.r (by simp)) ?_
    intro o e
    refine e1_1 (ap.2 B.d (by simp)) ?_
    intro o' e'
    exact ⟨neN hq1 e, neN hq1 e'⟩
  refine SP_iterVT ok [(Str.ofString "book_now", .ref B.b), (Str.ofString "calls", .ref Kc), (Str.ofString "kind", .int 3 tk), (Str.ofString "bank_now", .ref A.x)]
    (fun i N' => Keep [B.r, B.d] N1 N' ∧ BookIn w N' B (([⟨sTrue, [], 0, 0⟩, ⟨sFalse, [], 0, 0⟩] : Rws).take i)) eq1 (by walk_at "m_has") (by exact rfl) ⟨Keep.refl _ _, hB1⟩ ?_ ?_ ?_ ?_
  · intro I hI i N₁ N₂ ho hz_
    refine e0_2 hz_ ?_
    try clear hz_
    intro hK hb
    refine ⟨fun a o ea hna => ho.2 a o (hK a o ea hna) ?_, hb.off ho (hI1 hI)⟩
    (first | exact neH ea hI (by intro e_; cases e_) | exact Ne.symm (neH ea hI (by intro e_; cases e_)) | (rintro rfl; rw [hI] at ea; cases ea))
  · intro i N' hz_
    refine e0_2 hz_ ?_
    try clear hz_
    intro hK _
    exact hK _ _ eq1 nq1
  · intro I oI i v N2 hI hi hv ie hIo hz_
    refine e0_2 hz_ ?_
    try clear hz_
    intro hK hb
    have hi2 : i = 0 ∨ i = 1 := by
      have : i < 2 := hi
      omega
    have nI : I ∉ [B.r, B.d] := by
      have := hI1 hI
      simp [this.2.1, this.2.2]
    rcases hi2 with rfl | rfl
    · cases hv
      refine SP_cons ?_
      walk_at "n"
      refine SP_newTuple (fun q3 hq3 => ?_) (sz (by simp))
      walk_at "n"
      refine SP.gen1 hq3 fun N3 k3 e3' => ?_
      refine SP_use ok (entered_spec (k := ⟨sTrue, [], 0, 0⟩) 50 (hb.le k3) ⟨[], e3', .nil⟩ okTrue (by decide)) (by first | exact Nat.le_refl _ | exact leK rfl | omega) (fun v N4 hz_ => ?_)
      refine e1_3 hz_ ?_
      try clear hz_
      intro t e hB4 k4
      subst e
      refine ⟨trivial, ?_⟩
      walk_at "n"
      exact TurnEnd.next (k4 _ _ (k3 _ _ hIo (by first | exact nm0 | simp)) nI) ⟨by walk_at "m_has", (hK.trans (k3.sub (by simp))).trans k4, hB4⟩
    · cases hv
      refine SP_cons ?_
      walk_at "n"
      refine SP_newTuple (fun q3 hq3 => ?_) (sz (by simp))
      walk_at "n"
      refine SP.gen1 hq3 fun N3 k3 e3' => ?_
      refine SP_use ok (entered_spec (k := ⟨sFalse, [], 0, 0⟩) 50 (hb.le k3) ⟨[], e3', .nil⟩ okFalse (by decide)) (by first | exact Nat.le_refl _ | exact leK rfl | omega) (fun v N4 hz_ => ?_)
      refine e1_3 hz_ ?_
      try clear hz_
      intro t e hB4 k4
      subst e
      refine ⟨trivial, ?_⟩
      walk_at "n"
      refine TurnEnd.next (k4 _ _ (k3 _ _ hIo (by first | exact nm0 | simp)) nI) ⟨by walk_at "m_has", (hK.trans (k3.sub (by simp))).trans k4, ?_⟩
      have : ent (([⟨sTrue, [], 0, 0⟩, ⟨sFalse, [], 0, 0⟩] : Rws).take 1) ⟨sFalse, [], 0, 0⟩ = ([⟨sTrue, [], 0, 0⟩, ⟨sFalse, [], 0, 0⟩] : Rws).take 2 := by decide +kernel
      rw [this] at hB4
      exact hB4
  · intro l' N2 hl' hz_
    refine e0_2 hz_ ?_
    try clear hz_
    intro k2 hB2
    refine Nx.next (SP.has hl' ?_)
    have k02 : Keep [B.r, B.d] N N2 := (k1.sub (by simp)).trans k2
    have nix : ∀ i, 2 ≤ i → ∀ a, (B.d :: B.r :: B.b :: Kc :: (LA A sn sw ++ [feed, X, C.L + 1, C.L + 1 + 1, C.L + 1 + 1 + 1]))[i]? = some a → a ∉ [B.r, B.d] := fun i hi a ha => by
      simp only [List.mem_cons, List.not_mem_nil, or_false, not_or]
      exact ⟨nd_ne ap.1 i 1 (by first | exact Nat.le_refl _ | exact leK rfl | omega) ha rfl, nd_ne ap.1 i 0 (by first | exact Nat.le_refl _ | exact leK rfl | omega) ha rfl⟩
    have tk2 : TupKeep N N2 := k02.tup hB.nt
    have ap2 := ap.keep (keep_ex k02 (by
      intro a ha
      refine e1_2 (hB2.nt a ha) ?_
      intro o e _
      exact ⟨o, e⟩))
    have hA2 : BankIn w N2 A [⟨sTrue, [], 0, 0⟩, ⟨sFalse, [], 0, 0⟩] := hA.keep tk2 fun a ha o e => k02 a o e (by
      simp only [BnkA.all, List.mem_cons, List.not_mem_nil, or_false] at ha
      rcases ha with h | h | h | h | h | h | h
      · exact h ▸ nix 6 (by decide) _ rfl
      · exact h ▸ nix 7 (by decide) _ rfl
      · exact h ▸ nix 8 (by decide) _ rfl
      · exact h ▸ nix 9 (by decide) _ rfl
      · exact h ▸ nix 10 (by decide) _ rfl
      · exact h ▸ nix 11 (by decide) _ rfl
      · exact h ▸ nix 12 (by decide) _ rfl)
    have hF2 : FunsIn N2 A [([3], 3), ([3], 0)] := hF.keep tk2 fun a ha o e => k02 a o e (by
      simp only [List.mem_cons, List.not_mem_nil, or_false] at ha
      rcases ha with h | h | h
      · exact h ▸ nix 13 (by decide) _ rfl
      · exact h ▸ nix 14 (by decide) _ rfl
      · exact h ▸ nix 15 (by decide) _ rfl)
    have hfd2 : FeedIn N2 feed X len 0 := hfd.keep fun a o e h => k02 a o e (by rcases h with h | h; exact h ▸ nix 16 (by decide) _ rfl; exact h ▸ nix 17 (by decide) _ rfl)
    have eK2 := k02 _ _ eK (nix 3 (by decide) _ rfl)
    have e12 := k02 _ _ e1 (nix 18 (by decide) _ rfl)
    have e22 := k02 _ _ e2 (nix 19 (by decide) _ rfl)
    have e32 := k02 _ _ e3 (nix 20 (by decide) _ rfl)
    refine SP_cons (SP_AssignTuple ?_ (by walk_at "m_rfl") (by walk_at "m_rfl"))
    walk_at "n"
    refine SP_newList (fun T hT => ?_) (sz (by simp))
    walk_at "n"
    refine SP.gen1 hT fun N3 k3 eT3 => ?_
    refine SP_newList (fun G hG => ?_) (sz (by simp))
    walk_at "n"
    refine SP.gen1 hG fun N4 k4 eG4 => ?_
    have eT4 := k4 _ _ eT3 (by first | exact nm0 | simp)
    refine SP_newTuple (fun q5 hq5 => ?_) (sz (by simp))
    walk_at "n"
    refine SP.gen1 hq5 fun N5 k5 eq5 => ?_
    have k25 : Keep [] N2 N5 := (k3.trans k4).trans k5
    have ap5 := (((ap2.new hT (keep_ex k3 (by simp)) ⟨_, eT3⟩).new hG (keep_ex k4 (by simp)) ⟨_, eG4⟩).keep (keep_ex k5 (by simp)))
    have e25 := k25 _ _ e22 (by first | exact nm0 | simp)
    have e35 := k25 _ _ e32 (by first | exact nm0 | simp)
    refine SP_unpack2 ok eq5 ?_
    refine SP_storeCell ok (by walk_at "m_rfl") (by walk_at "m_rfl") e25 d2 fun o2' d2' => ?_
    refine SP.genS e25 fun N6 k6 e26 => ?_
    have e36 := k6 _ _ e35 (by rw [List.mem_singleton]; exact nd_ne ap5.1 22 21 (by decide) rfl rfl)
    refine SP_storeCell ok (by walk_at "m_rfl") (by walk_at "m_rfl") e36 d3 fun o3' d3' => ?_
    refine SP.genS e36 fun N7 k7 e37 => ?_
    have nix7 : ∀ i, i < 21 → ∀ a, (G :: T :: B.d :: B.r :: B.b :: Kc :: (LA A sn sw ++ [feed, X, C.L + 1, C.L + 1 + 1, C.L + 1 + 1 + 1]))[i]? = some a → ∀ o, N5 a = some o → N7 a = some o := fun i hi a ha o e =>
      k7 _ _ (k6 _ _ e (by rw [List.mem_singleton]; exact nd_ne ap5.1 i 21 (by first | exact Nat.le_refl _ | exact leK rfl | omega) ha rfl)) (by rw [List.mem_singleton]; exact nd_ne ap5.1 i 22 (by first | exact Nat.le_refl _ | exact leK rfl | omega) ha rfl)
    have tk57 : TupKeep N5 N7 := (k6.tupC e25 d2).trans (k7.tupC e36 d3)
    have e27 := k7 _ _ e26 (by rw [List.mem_singleton]; exact nd_ne ap5.1 21 22 (by decide) rfl rfl)
    have L5 : LI w ⟨A, B, feed, X, T, G, len, [([3], 3), ([3], 0)]⟩ N5 0 [⟨sTrue, [], 0, 0⟩, ⟨sFalse, [], 0, 0⟩] [⟨sTrue, [], 0, 0⟩, ⟨sFalse, [], 0, 0⟩] [] [] :=
      ⟨hA2.le k25, hF2.le k25, hB2.le k25, hfd2.keep fun a o e _ => k25 a o e (by first | exact nm0 | simp), ⟨_, _, k5 _ _ eT4 (by first | exact nm0 | simp), .nil⟩, ⟨_, _, k5 _ _ eG4 (by first | exact nm0 | simp), .nil⟩, nodup_of_ix [18, 19, 1, 0, 4, 3, 2, 8, 9, 10, 11, 12, 13, 14, 15, 16, 17] ap5.1 (by decide) rfl⟩
    have allix : ∀ a ∈ (LC.mk A B feed X T G len [([3], 3), ([3], 0)]).all, ∃ i, i < 20 ∧ i ≠ 5 ∧ (G :: T :: B.d :: B.r :: B.b :: Kc :: (LA A sn sw ++ [feed, X, C.L + 1, C.L + 1 + 1, C.L + 1 + 1 + 1]))[i]? = some a := by
      intro a ha
      simp only [LC.all, List.mem_cons, List.not_mem_nil, or_false] at ha
      rcases ha with h | h | h | h | h | h | h | h | h | h | h | h | h | h | h | h | h
      · exact ⟨18, by decide, by decide, h ▸ rfl⟩
      · exact ⟨19, by decide, by decide, h ▸ rfl⟩
      · exact ⟨1, by decide, by decide, h ▸ rfl⟩
      · exact ⟨0, by decide, by decide, h ▸ rfl⟩
      · exact ⟨4, by decide, by decide, h ▸ rfl⟩
      · exact ⟨3, by decide, by decide, h ▸ rfl⟩
      · exact ⟨2, by decide, by decide, h ▸ rfl⟩
      · exact ⟨8, by decide, by decide, h ▸ rfl⟩
      · exact ⟨9, by decide, by decide, h ▸ rfl⟩
      · exact ⟨10, by decide, by decide, h ▸ rfl⟩
      · exact ⟨11, by decide, by decide, h ▸ rfl⟩
      · exact ⟨12, by decide, by decide, h ▸ rfl⟩
      · exact ⟨13, by decide, by decide, h ▸ rfl⟩
      · exact ⟨14, by decide, by decide, h ▸ rfl⟩
      · exact ⟨15, by decide, by decide, h ▸ rfl⟩
      · exact ⟨16, by decide, by decide, h ▸ rfl⟩
      · exact ⟨17, by decide, by decide, h ▸ rfl⟩
    have offall : ∀ a ∈ [C.L + 1, C.L + 1 + 1, C.L + 1 + 1 + 1, Kc], a ∉ (LC.mk A B feed X T G len [([3], 3), ([3], 0)]).all := by
      intro a ha hm
      refine e1_3 (allix a hm) ?_
      intro i hi hi5 e
      simp only [List.mem_cons, List.not_mem_nil, or_false] at ha
      rcases ha with h | h | h | h
      · exact nd_ne ap5.1 20 i (by first | exact Nat.le_refl _ | exact leK rfl | omega) rfl e h.symm
      · exact nd_ne ap5.1 21 i (by first | exact Nat.le_refl _ | exact leK rfl | omega) rfl e h.symm
      · exact nd_ne ap5.1 22 i (by first | exact Nat.le_refl _ | exact leK rfl | omega) rfl e h.symm
      · exact nd_ne ap5.1 5 i (by first | exact Nat.le_refl _ | exact leK rfl | omega) rfl e h.symm
    have L7 := L5.keepAll tk57 fun a ha o e => by
      refine e1_3 (allix a ha) ?_
      intro i hi _ e'
      exact nix7 i (by first | exact Nat.le_refl _ | exact leK rfl | omega) a e' o e
    have eK7 := nix7 5 (by decide) _ rfl _ (k25 _ _ eK2 (by first | exact nm0 | simp))
    have e17 := nix7 20 (by decide) _ rfl _ (k25 _ _ e12 (by first | exact nm0 | simp))
    walk_at "n"
    refine SP_cons ?_
    refine SP_For ok (by walk_at "m_rfl") ?_ (fun _ => rfl)
    walk_at "n"
    refine SP_range fun q8 u8 v8 hq8 => ?_
    refine SP.gen1 hq8 fun N8 k8 eq8 => ?_
    have hlog : ∀ i : Nat, i < 5 → ((i : Int)).natAbs.log2 < 1920 := by decide
    have hstr : ∀ i : Nat, i < 5 → (Str.ofString "c").length + (Str.ofString (toString (i : Int))).length ≤ 4096 := by decide +kernel
    have w2 : WF [⟨sTrue, [], 0, 0⟩, ⟨sFalse, [], 0, 0⟩] := by
      refine ⟨rfl, rfl, by decide +kernel, fun i k hk => ?_⟩
      match i, hk with
      | 0, hk => cases hk; exact ⟨okTrue, .inl rfl, by simp, by simp, fun q => absurd (show sTrue = sNot from q) (by decide), fun q => absurd (show sTrue = sEq from q) (by decide)⟩
      | 1, hk => cases hk; exact ⟨okFalse, .inl rfl, by simp, by simp, fun q => absurd (show sFalse = sNot from q) (by decide), fun q => absurd (show sFalse = sEq from q) (by decide)⟩
      | i + 2, hk => simp at hk
    have kz2 : K0 [⟨sTrue, [], 0, 0⟩, ⟨sFalse, [], 0, 0⟩] := by
      intro k hk _
      simp only [List.mem_cons, List.not_mem_nil, or_false] at hk
      (rcases hk with hk | hk <;> subst k) <;> rfl
    refine SP_iterR ok [(Str.ofString "book_now", .ref B.b), (Str.ofString "calls", .ref Kc), (Str.ofString "kind", .int 3 tk), (Str.ofString "bank_now", .ref A.x)]
      (fun i N' => ∃ rows Ts Gs sg, LI w ⟨A, B, feed, X, T, G, len, sg⟩ N' 0 rows rows Ts Gs ∧ (WF rows ∧ K0 rows) ∧ (∀ t ∈ Ts, Typed rows 0 t) ∧ (∀ t ∈ Gs, Typed rows 3 t) ∧ rows.length ≤ 2 + i ∧ Ts.length = min i 3 ∧ Gs.length = i - 3 ∧ sg.length = 2 + i ∧ sg[0]? = some ([3], 3) ∧ sg[1]? = some ([3], 0) ∧ Keep (LC.mk A B feed X T G len [([3], 3), ([3], 0)]).all N7 N')
      (n := 5) eq8 (by decide) (by walk_at "m_has") (by exact rfl) ⟨_, [], [], _, L7.new k8, ⟨w2, kz2⟩, by simp, by simp, by simp, rfl, rfl, rfl, rfl, rfl, k8.sub (by simp)⟩ ?_ ?_ ?_
    · intro I hI i N₁ N₂ ho hz_
      refine e4_11 hz_ ?_
      try clear hz_
      intro rows Ts Gs sg Li a1 a2 a3 a4 a5 a6 a7 a8 a9 kI
      have nI : I ∉ (LC.mk A B feed X T G len [([3], 3), ([3], 0)]).all := (L7.new k8).fresh hI
      have hI7 : N7 I = none := by
        cases e : N7 I with
        | none => rfl
        | some o => have := k8 _ _ e (by first | exact nm0 | simp); rw [hI] at this; cases this
      refine ⟨rows, Ts, Gs, sg, Li.off nI ho, a1, a2, a3, a4, a5, a6, a7, a8, a9, fun a o e hn => ho.2 a o (kI a o e hn) ?_⟩
      (first | exact neH e hI7 (by intro e_; cases e_) | exact Ne.symm (neH e hI7 (by intro e_; cases e_)) | (rintro rfl; rw [hI7] at e; cases e))
    · intro I oI i tki N8 hI hi ie hIo hz_
      refine e4_11 hz_ ?_
      try clear hz_
      intro rows Ts Gs sg Li hy5_ tT tG hrl hTl hGl hsl0 s0 s1 k78
      obtain ⟨wf, kz⟩ := hy5_
      have nI : I ∉ (LC.mk A B feed X T G len [([3], 3), ([3], 0)]).all := (L7.new k8).fresh hI
      have hO8 := Li.a.o
      have hslz : sg.length < 100 := by omega
      refine SP_cons ?_
      by_cases hk3 : i < 3
      · walk_at "n"
        refine SP_strInt (hlog i hi) fun ts => ?_
        walk_at "n"
        refine SP_addStr (hstr i hi) fun tc => ?_
        walk_at "n"
        refine Br.of_tt (decide_eq_true (by omega : (i : Int) < 3)) ?_
        walk_at "n"
        refine SP_use ok (fresh_const_spec Li.a Li.f (by first | exact Nat.le_refl _ | exact leK rfl | omega) (by first | exact Nat.le_refl _ | exact leK rfl | omega) 50) (by first | exact Nat.le_refl _ | exact leK rfl | omega) (fun v N9 hz_ => ?_)
        refine e1_4 hz_ ?_
        try clear hz_
        intro tl e hA9 hF9 k9
        subst e
        have hsl : ((sg.length : Nat) : Int) = 2 + (i : Int) := by omega
        rw [hsl] at hA9
        rw [hsl]
        have L9 := Li.decl k9 hA9 hF9
        have kA9 : Keep (LC.mk A B feed X T G len [([3], 3), ([3], 0)]).all N8 N9 := k9.sub fun a ha => sub_all (LC.mk A B feed X T G len [([3], 3), ([3], 0)]) a (List.mem_append_left _ ha)
        have hIo9 := kA9 _ _ hIo nI
        have hok : OpOk (⟨sApp, [], 0, 2 + i⟩ : Sh) := okApp
        walk_at "n"
        refine SP_cons ?_
        walk_at "n"
        refine SP_newTuple (fun q10 hq10 => ?_) (sz (by simp))
        walk_at "n"
        refine Br.of_tt (decide_eq_true (by omega : (i : Int) < 3)) (SP.gen1 hq10 fun N10 k10 eq10 => ?_)
        walk_at "n"
        have L10 := L9.new k10
        refine SP_use ok (entered_spec (k := ⟨sApp, [], 0, 2 + i⟩) 50 L10.b ⟨[], eq10, .nil⟩ hok (by first | exact Nat.le_refl _ | exact leK rfl | omega)) (by first | exact Nat.le_refl _ | exact leK rfl | omega) (fun v N11 hz_ => ?_)
        refine e1_3 hz_ ?_
        try clear hz_
        intro tb e hB11 k11
        subst e
        have L11 := L10.book k11 hB11
        have kA11 : Keep (LC.mk A B feed X T G len [([3], 3), ([3], 0)]).all N10 N11 := k11.sub fun a ha => sub_all (LC.mk A B feed X T G len [([3], 3), ([3], 0)]) a (List.mem_append_right _ (by simp only [List.mem_cons, List.not_mem_nil, or_false] at ha ⊢; rcases ha with h | h <;> simp [h]))
        have k8_11 : Keep (LC.mk A B feed X T G len [([3], 3), ([3], 0)]).all N7 N11 := ((k78.trans kA9).trans (k10.sub (by simp))).trans kA11
        have hIo11 := kA11 _ _ (k10 _ _ hIo9 (by first | exact nm0 | simp)) nI
        walk_at "n"
        refine Br.of_ff (by simp) ?_
        walk_at "n"
        refine SP_cons ?_
        have c2 := k8_11 _ _ e27 (offall _ (by simp))
        have c3 := k8_11 _ _ e37 (offall _ (by simp))
        walk_at "n"
        refine Br.of_tt (decide_eq_true (by omega : (i : Int) < 3)) ?_
        walk_at "n"
        have hwf : WF (ent rows ⟨sApp, [], 0, 2 + i⟩) := wf.ent ⟨hok, by simp, by simp, by simp, fun q => absurd (show sApp = sNot from q) (by decide), fun q => absurd (show sApp = sEq from q) (by decide)⟩
        have hex : Ext rows (ent rows ⟨sApp, [], 0, 2 + i⟩) := .ent
        have hty : Typed (ent rows ⟨sApp, [], 0, 2 + i⟩) 0 (num (ent rows ⟨sApp, [], 0, 2 + i⟩) ⟨sApp, [], 0, 2 + i⟩) := ent1_typed (k := ⟨sApp, [], 0, 2 + i⟩)
        have hlen' := hex.len
        refine e2_2 L11.t ?_
        intro vT nT eT iT
        have ltv := iT.length
        refine SP_mAppend eT ?_
        dsimp only
        walk_at "n"
        refine SP_append eT (sz (by first | exact Nat.le_refl _ | exact leK rfl | omega)) ⟨trivial, ?_⟩
        walk_at "n"
        have nIT : I ≠ T := fun q => nI (q ▸ by simp [LC.all])
        refine TurnEnd.next (by rw [upd_ne nIT]; exact hIo11) ⟨by walk_at "m_has", _, _, _, _, L11.addT eT iT, ⟨hwf, kz.ent fun q => q.elim (fun q => absurd (show sApp = sNot from q) (by decide)) (fun q => absurd (show sApp = sEq from q) (by decide))⟩, ?_, fun t ht => (tG t ht).ext hex, by omega, by simp; omega, by omega, by simp; omega, ?_, ?_, k8_11.trans (Keep.chg (by simp [LC.all]))⟩
        · intro t ht
          rcases List.mem_append.mp ht with ht | ht
          · exact (tT t ht).ext hex
          · rw [List.mem_singleton] at ht; subst ht; exact hty
        · exact (List.getElem?_append_left (by omega : 0 < sg.length)).trans s0
        · exact (List.getElem?_append_left (by omega : 1 < sg.length)).trans s1
      · walk_at "n"
        refine SP_strInt (hlog i hi) fun ts => ?_
        walk_at "n"
        refine SP_addStr (hstr i hi) fun tc => ?_
        walk_at "n"
        refine Br.of_ff (decide_eq_false (by omega : ¬ (i : Int) < 3)) ?_
        walk_at "n"
        refine SP_use ok (fresh_const_spec Li.a Li.f (by first | exact Nat.le_refl _ | exact leK rfl | omega) (by first | exact Nat.le_refl _ | exact leK rfl | omega) 50) (by first | exact Nat.le_refl _ | exact leK rfl | omega) (fun v N9 hz_ => ?_)
        refine e1_4 hz_ ?_
        try clear hz_
        intro tl e hA9 hF9 k9
        subst e
        have hsl : ((sg.length : Nat) : Int) = 2 + (i : Int) := by omega
        rw [hsl] at hA9
        rw [hsl]
        have L9 := Li.decl k9 hA9 hF9
        have kA9 : Keep (LC.mk A B feed X T G len [([3], 3), ([3], 0)]).all N8 N9 := k9.sub fun a ha => sub_all (LC.mk A B feed X T G len [([3], 3), ([3], 0)]) a (List.mem_append_left _ ha)
        have hIo9 := kA9 _ _ hIo nI
        have hok : OpOk (⟨sApp, [], 3, 2 + i⟩ : Sh) := okApp
        walk_at "n"
        refine SP_cons ?_
        walk_at "n"
        refine SP_newTuple (fun q10 hq10 => ?_) (sz (by simp))
        walk_at "n"
        refine Br.of_ff (decide_eq_false (by omega : ¬ (i : Int) < 3)) (SP.gen1 hq10 fun N10 k10 eq10 => ?_)
        walk_at "n"
        have L10 := L9.new k10
        refine SP_use ok (entered_spec (k := ⟨sApp, [], 3, 2 + i⟩) 50 L10.b ⟨[], eq10, .nil⟩ hok (by first | exact Nat.le_refl _ | exact leK rfl | omega)) (by first | exact Nat.le_refl _ | exact leK rfl | omega) (fun v N11 hz_ => ?_)
        refine e1_3 hz_ ?_
        try clear hz_
        intro tb e hB11 k11
        subst e
        have L11 := L10.book k11 hB11
        have kA11 : Keep (LC.mk A B feed X T G len [([3], 3), ([3], 0)]).all N10 N11 := k11.sub fun a ha => sub_all (LC.mk A B feed X T G len [([3], 3), ([3], 0)]) a (List.mem_append_right _ (by simp only [List.mem_cons, List.not_mem_nil, or_false] at ha ⊢; rcases ha with h | h <;> simp [h]))
        have k8_11 : Keep (LC.mk A B feed X T G len [([3], 3), ([3], 0)]).all N7 N11 := ((k78.trans kA9).trans (k10.sub (by simp))).trans kA11
        have hIo11 := kA11 _ _ (k10 _ _ hIo9 (by first | exact nm0 | simp)) nI
        walk_at "n"
        refine Br.of_ff (by simp) ?_
        walk_at "n"
        refine SP_cons ?_
        have c2 := k8_11 _ _ e27 (offall _ (by simp))
        have c3 := k8_11 _ _ e37 (offall _ (by simp))
        walk_at "n"
        refine Br.of_ff (decide_eq_false (by omega : ¬ (i : Int) < 3)) ?_
        walk_at "n"
        have hwf : WF (ent rows ⟨sApp, [], 3, 2 + i⟩) := wf.ent ⟨hok, by simp, by simp, by simp, fun q => absurd (show sApp = sNot from q) (by decide), fun q => absurd (show sApp = sEq from q) (by decide)⟩
        have hex : Ext rows (ent rows ⟨sApp, [], 3, 2 + i⟩) := .ent
        have hty : Typed (ent rows ⟨sApp, [], 3, 2 + i⟩) 3 (num (ent rows ⟨sApp, [], 3, 2 + i⟩) ⟨sApp, [], 3, 2 + i⟩) := ent1_typed (k := ⟨sApp, [], 3, 2 + i⟩)
        have hlen' := hex.len
        refine e2_2 L11.g ?_
        intro vG nG eG iG
        have ltv := iG.length
        refine SP_mAppend eG ?_
        dsimp only
        walk_at "n"
        refine SP_append eG (sz (by first | exact Nat.le_refl _ | exact leK rfl | omega)) ⟨trivial, ?_⟩
        walk_at "n"
        have nIG : I ≠ G := fun q => nI (q ▸ by simp [LC.all])
        refine TurnEnd.next (by rw [upd_ne nIG]; exact hIo11) ⟨by walk_at "m_has", _, _, _, _, L11.addG eG iG, ⟨hwf, kz.ent fun q => q.elim (fun q => absurd (show sApp = sNot from q) (by decide)) (fun q => absurd (show sApp = sEq from q) (by decide))⟩, fun t ht => (tT t ht).ext hex, ?_, by omega, by omega, by simp; omega, by simp; omega, ?_, ?_, k8_11.trans (Keep.chg (by simp [LC.all]))⟩
        · intro t ht
          rcases List.mem_append.mp ht with ht | ht
          · exact (tG t ht).ext hex
          · rw [List.mem_singleton] at ht; subst ht; exact hty
        · exact (List.getElem?_append_left (by omega : 0 < sg.length)).trans s0
        · exact (List.getElem?_append_left (by omega : 1 < sg.length)).trans s1
    · intro l' N9 hl' hz_
      refine e4_11 hz_ ?_
      try clear hz_
      intro rows Ts Gs sg Li hy5_ tT tG hrl hTl hGl hsl0 s0 s1 k79
      obtain ⟨wf, kz⟩ := hy5_
      refine Nx.next (SP.has hl' ?_)
      have hT3 : Ts.length = 3 := by rw [hTl]; rfl
      have hG2 : Gs.length = 2 := by rw [hGl]
      refine' (law_use (k := 7) (P := LawFrom7) h7 ?hb7) w C N9 qual fa cdv ⟨A, B, feed, X, T, G, len, sg⟩ Kc tk rows Ts Gs ok ⟨Li, wf, tT, tG, by omega, by omega, by decide, ⟨_, k79 _ _ e17 (offall _ (by simp)), d1⟩, ⟨_, k79 _ _ e27 (offall _ (by simp)), d2'⟩, ⟨_, k79 _ _ e37 (offall _ (by simp)), d3'⟩, ⟨_, _, _, k79 _ _ eK7 (offall _ (by simp))⟩, ⟨s0, s1, by show sg.length < 1000; omega⟩, offall, kz⟩ (by first | exact Nat.le_refl _ | exact leK rfl | omega) (by first | exact Nat.le_refl _ | exact leK rfl | omega) (by first | exact Nat.le_refl _ | exact leK rfl | omega)
      case hb7 => with_unfolding_all exact rfl

end law4_c
theorem law4 (h7 : ∃ body scope, lawFrom 7 = some (body, scope) ∧ LawFrom7 body scope) : ∃ body scope, lawFrom 4 = some (body, scope) ∧ LawFrom4 body scope :=
  ⟨law4_c.lb.1.1, law4_c.lb.1.2, law4_c.lb.2, fun w C N qual fa cdv A B feed X Kc sn sw len nK tk t0 t1 o1 o2 o3 => pickAll (P := fun q : World × Cx × Hl × Str × Addr × Value × BnkA × BkA × Addr × Addr × Addr × Addr × Addr × Nat × Nat × Tok × Tok × Tok × Obj × Obj × Obj => law4_c.P q.1 q.2.1 q.2.2.1 q.2.2.2.1 q.2.2.2.2.1 q.2.2.2.2.2.1 q.2.2.2.2.2.2.1 q.2.2.2.2.2.2.2.1 q.2.2.2.2.2.2.2.2.1 q.2.2.2.2.2.2.2.2.2.1 q.2.2.2.2.2.2.2.2.2.2.1 q.2.2.2.2.2.2.2.2.2.2.2.1 q.2.2.2.2.2.2.2.2.2.2.2.2.1 q.2.2.2.2.2.2.2.2.2.2.2.2.2.1 q.2.2.2.2.2.2.2.2.2.2.2.2.2.2.1 q.2.2.2.2.2.2.2.2.2.2.2.2.2.2.2.1 q.2.2.2.2.2.2.2.2.2.2.2.2.2.2.2.2.1 q.2.2.2.2.2.2.2.2.2.2.2.2.2.2.2.2.2.1 q.2.2.2.2.2.2.2.2.2.2.2.2.2.2.2.2.2.2.1 q.2.2.2.2.2.2.2.2.2.2.2.2.2.2.2.2.2.2.2.1 q.2.2.2.2.2.2.2.2.2.2.2.2.2.2.2.2.2.2.2.2 law4_c.lb.1.1 law4_c.lb.1.2) (aWorld 0, ⟨callerA, {}, 0⟩, fun _ => none, Str.empty, 0, .none, ⟨0, 0, [], 0, 0, 0, 0, 0, 0, 0, 0, 0, 0, 0⟩, ⟨0, 0, 0⟩, 0, 0, 0, 0, 0, 0, 0, 0, 0, 0, default, default, default) (by with_unfolding_all exact law4_c.core h7) (w, C, N, qual, fa, cdv, A, B, feed, X, Kc, sn, sw, len, nK, tk, t0, t1, o1, o2, o3)⟩
end
/-! part Lg -/
section
set_option linter.unusedVariables false
theorem ent1_k0 {rows : Rws} (h : K0 rows) {k : Sh} (hk : k.op = sNot ∨ k.op = sEq → k.kind = 0) : K0 (ent1 rows k).2 := h.ent hk
theorem due_k0 {rows : Rws} (h : K0 rows) {name : Str} {ends : List Int} {kind label : Int} : K0 (due rows name ends kind label).2 := by
  unfold due
  split
  · unfold denied
    split
    · exact h
    · split
      · split
        · exact h
        · exact ent1_k0 h fun _ => rfl
      · exact h
  · rename_i h1
    split
    · exact h
    · split
      · unfold alike
        split
        · exact h
        · exact ent1_k0 h fun _ => rfl
      · rename_i h3
        exact ent1_k0 h fun q => by rcases q with q | q; exact absurd q h1; exact absurd q h3
theorem DrawOk.ext {rows rows' : Rws} {name : Str} {ends : List Int} {kind label : Int} (d : DrawOk rows name ends kind label) (e : Ext rows rows') : DrawOk rows' name ends kind label := by
  cases d with
  | not h => exact .not (h.ext e)
  | and h l => exact .and (fun t ht => (h t ht).ext e) l
  | or h l => exact .or (fun t ht => (h t ht).ext e) l
  | xor a b => exact .xor (a.ext e) (b.ext e)
  | imp a b => exact .imp (a.ext e) (b.ext e)
  | eq a b => exact .eq (a.ext e) (b.ext e)
  | dis a b c => exact .dis (a.ext e) (b.ext e) (c.ext e)
  | ite c a b s => exact .ite (c.ext e) (a.ext e) (b.ext e) s
  | app0 a => exact .app0 (a.ext e)
  | app1 a => exact .app1 (a.ext e)
def Cs (C : Cx) (K : LC) (Kc : Addr) : List Addr := [C.L + 1, C.L + 1 + 1, C.L + 1 + 1 + 1, Kc] ++ K.all
section
variable {w : World} {C : Cx} {K : LC} {Kc : Addr} {N N' : Hl} {spot spot' : Int} {rows rows' : Rws} {Ts Gs Ts' Gs' : List Int}
theorem Fst.ex (h : Fst w C K Kc N spot rows Ts Gs) : ∀ a ∈ Cs C K Kc, ∃ o, N a = some o := by
  intro a ha
  rcases List.mem_append.mp ha with ha | ha
  · simp only [List.mem_cons, List.not_mem_nil, or_false] at ha
    (rcases ha with ha | ha | ha | ha <;> subst a)
    · obtain ⟨o, e, _⟩ := h.cf; exact ⟨o, e⟩
    · obtain ⟨o, e, _⟩ := h.ct; exact ⟨o, e⟩
    · obtain ⟨o, e, _⟩ := h.cg; exact ⟨o, e⟩
    · obtain ⟨_, _, _, e⟩ := h.kc; exact ⟨_, e⟩
  · exact h.li.has a ha
theorem Fst.ne (h : Fst w C K Kc N spot rows Ts Gs) {I : Addr} (hI : N I = none) : I ∉ Cs C K Kc := fun q => by
  refine e1_1 (h.ex I q) ?_
  intro o e
  rw [hI] at e; cases e
theorem Cs.k {I : Addr} (h : I ∉ Cs C K Kc) : I ∉ K.all := fun q => h (List.mem_append_right _ q)
theorem Fst.go (h : Fst w C K Kc N spot rows Ts Gs) (L : LI w K N' spot' rows' rows' Ts' Gs') (k : ∀ a ∈ [C.L + 1, C.L + 1 + 1, C.L + 1 + 1 + 1, Kc], ∀ o, N a = some o → N' a = some o) (wf : WF rows') (k0 : K0 rows') (tT : ∀ t ∈ Ts', Typed rows' 0 t) (tG : ∀ t ∈ Gs', Typed rows' 3 t)
    (pT : 0 < Ts'.length) (pG : 0 < Gs'.length) (s0 : 0 ≤ spot') : Fst w C K Kc N' spot' rows' Ts' Gs' := by
  refine ⟨L, wf, tT, tG, pT, pG, s0, ?_, ?_, ?_, ?_, h.sg, h.off, k0⟩
  · obtain ⟨o, e, d⟩ := h.cf; exact ⟨o, k _ (by simp) _ e, d⟩
  · obtain ⟨o, e, d⟩ := h.ct; exact ⟨o, k _ (by simp) _ e, d⟩
  · obtain ⟨o, e, d⟩ := h.cg; exact ⟨o, k _ (by simp) _ e, d⟩
  · obtain ⟨n, a, b, e⟩ := h.kc; exact ⟨n, a, b, k _ (by simp) _ e⟩
theorem Fst.keepOff (h : Fst w C K Kc N spot rows Ts Gs) (k : Keep K.all N N') : ∀ a ∈ [C.L + 1, C.L + 1 + 1, C.L + 1 + 1 + 1, Kc], ∀ o, N a = some o → N' a = some o := fun a ha o e => k a o e (h.off a ha)
theorem Fst.updK (h : Fst w C K Kc N spot rows Ts Gs) {c : Addr} (hc : c ∈ K.all) (k : Keep K.all N N') {o' : Obj} : ∀ a ∈ [C.L + 1, C.L + 1 + 1, C.L + 1 + 1 + 1, Kc], ∀ o, N a = some o → upd N' c o' a = some o := fun a ha o e => by
  have : a ≠ c := by rintro rfl; exact h.off a ha hc
  rw [upd_ne this]
  exact k a o e (h.off a ha)
theorem Fst.same (h : Fst w C K Kc N spot rows Ts Gs) (L : LI w K N' spot' rows rows Ts Gs) (k : ∀ a ∈ [C.L + 1, C.L + 1 + 1, C.L + 1 + 1 + 1, Kc], ∀ o, N a = some o → N' a = some o) (s0 : 0 ≤ spot') : Fst w C K Kc N' spot' rows Ts Gs :=
  h.go L k h.wf h.k0 h.tT h.tG h.pT h.pG s0
theorem Fst.new (h : Fst w C K Kc N spot rows Ts Gs) (k : Keep [] N N') : Fst w C K Kc N' spot rows Ts Gs := h.same (h.li.new k) (fun a _ o e => k a o e (by first | exact nm0 | simp)) h.sp0
theorem Fst.offI (h : Fst w C K Kc N spot rows Ts Gs) {I : Addr} (nI : I ∉ Cs C K Kc) (o : Off I N N') : Fst w C K Kc N' spot rows Ts Gs :=
  h.same (h.li.off (Cs.k nI) o) (fun a ha x e => o.2 a x e (fun q => nI (q ▸ List.mem_append_left _ ha))) h.sp0
end
theorem mut_all (K : LC) : ∀ a ∈ K.A.mut, a ∈ K.all := fun a ha => sub_all K a (List.mem_append_left _ (List.mem_append_right _ ha))
theorem book_all (K : LC) : ∀ a ∈ [K.B.r, K.B.d], a ∈ K.all := by
  intro a ha
  simp only [List.mem_cons, List.not_mem_nil, or_false] at ha
  (rcases ha with ha | ha <;> subst a) <;> simp [LC.all]
theorem feed_all (K : LC) : ∀ a ∈ [K.feed], a ∈ K.all := by
  intro a ha
  simp only [List.mem_cons, List.not_mem_nil, or_false] at ha
  rcases ha with rfl; simp [LC.all]
/-- from a statement on, with bounds -/
def LawAt (sp : Int) (n : Nat) (body : List Stmt) (scope : Scope) : Prop :=
  ∀ (w : World) (C : Cx) (N : Hl) (qual : Str) (fa : Addr) (cdv : Value) (K : LC) (Kc : Addr) (tk : Tok) (rows : Rws) (Ts Gs : List Int) (spot : Int), Ok w C (envOfC qual scope C.L fa cdv) 60 →
    Fst w C K Kc N spot rows Ts Gs → spot ≤ sp → rows.length ≤ n → Ts.length ≤ n → Gs.length ≤ n →
    SP w C (execs body (envOfC qual scope C.L fa cdv)) (lawL K Kc tk) N (fun f l N' => f = .ret (.bool true))
namespace law7_c
def P (w : World) (C : Cx) (N : Hl) (qual : Str) (fa : Addr) (cdv : Value) (K : LC) (Kc : Addr) (tk : Tok) (rows : Rws) (Ts : List Int) (Gs : List Int) (body : List Stmt) (scope : Scope) : Prop := Ok w C (envOfC qual scope C.L fa cdv) 60 → Fst w C K Kc N 0 rows Ts Gs → rows.length ≤ 10 → Ts.length ≤ 10 → Gs.length ≤ 10 → SP w C (execs body (envOfC qual scope C.L fa cdv)) (lawL K Kc tk) N (fun f l N' => f = .ret (.bool true))
@[reducible] noncomputable def lb : {x : List Stmt × Scope // lawFrom 7 = some x} := ⟨_, by with_unfolding_all exact rfl⟩
noncomputable def V : World × Cx × Hl × Str × Addr × Value × LC × Addr × Tok × Rws × List Int × List Int := pick (aWorld 0, ⟨callerA, {}, 0⟩, fun _ => none, Str.empty, 0, .none, ⟨⟨0, 0, [], 0, 0, 0, 0, 0, 0, 0, 0, 0, 0, 0⟩, ⟨0, 0, 0⟩, 0, 0, 0, 0, 0, []⟩, 0, 0, [], [], []) fun q => P q.1 q.2.1 q.2.2.1 q.2.2.2.1 q.2.2.2.2.1 q.2.2.2.2.2.1 q.2.2.2.2.2.2.1 q.2.2.2.2.2.2.2.1 q.2.2.2.2.2.2.2.2.1 q.2.2.2.2.2.2.2.2.2.1 q.2.2.2.2.2.2.2.2.2.2.1 q.2.2.2.2.2.2.2.2.2.2.2 lb.1.1 lb.1.2
@[irreducible] noncomputable def w : World := V.1
@[irreducible] noncomputable def C : Cx := V.2.1
@[irreducible] noncomputable def N : Hl := V.2.2.1
@[irreducible] noncomputable def qual : Str := V.2.2.2.1
@[irreducible] noncomputable def fa : Addr := V.2.2.2.2.1
@[irreducible] noncomputable def cdv : Value := V.2.2.2.2.2.1
@[irreducible] noncomputable def K : LC := V.2.2.2.2.2.2.1
@[irreducible] noncomputable def Kc : Addr := V.2.2.2.2.2.2.2.1
@[irreducible] noncomputable def tk : Tok := V.2.2.2.2.2.2.2.2.1
@[irreducible] noncomputable def rows : Rws := V.2.2.2.2.2.2.2.2.2.1
@[irreducible] noncomputable def Ts : List Int := V.2.2.2.2.2.2.2.2.2.2.1
@[irreducible] noncomputable def Gs : List Int := V.2.2.2.2.2.2.2.2.2.2.2
set_option maxHeartbeats 4000000 in
theorem core (h8 : ∃ body scope, lawFrom 8 = some (body, scope) ∧ LawAt 300 24 body scope) : P w C N qual fa cdv K Kc tk rows Ts Gs lb.1.1 lb.1.2 := by
  unfold P
  intro ok F0 br bT bG
  refine SP_cons ?_
  refine SP_For ok (by walk_at "m_rfl") ?_ (fun _ => rfl)
  walk_at "n"
  refine SP_range fun q8 u8 v8 hq8 => ?_
  refine SP.gen1 hq8 fun N8 k8 eq8 => ?_
  have F8 := F0.new k8
  clear F0
  refine SP_iterR ok (lawL K Kc tk) (fun i N' => ∃ spot rows Ts Gs, Fst w C K Kc N' spot rows Ts Gs ∧ spot ≤ 20 * (i : Int) ∧ rows.length ≤ 10 + i ∧ Ts.length ≤ 10 + i ∧ Gs.length ≤ 10 + i)
    (n := 14) eq8 (by decide) (Has.refl _) (by exact rfl) ⟨_, _, _, _, F8, by decide, br, bT, bG⟩ ?_ ?_ ?_
  · intro I hI i N₁ N₂ ho hz_
    refine e4_2 hz_ ?_
    try clear hz_
    intro spot rows Ts Gs F b
    exact ⟨_, _, _, _, F.offI (F8.ne hI) ho, b⟩
  · intro I oI i tki N1 hI hi ie hIo hz_
    refine e4_5 hz_ ?_
    try clear hz_
    intro spot rows Ts Gs F b1 b2 b3 b4
    have nI := F8.ne hI
    clear F8
    refine e2_2 F.li.t ?_
    intro vT nT eT iT
    refine e2_2 F.li.g ?_
    intro vG nG eG iG
    refine e3_1 F.kc ?_
    intro nK t0 t1 eK
    refine e1_2 F.cf ?_
    intro of ef df
    refine e1_2 F.ct ?_
    intro ot et dt
    refine e1_2 F.cg ?_
    intro og eg dg
    have sp0 := F.sp0
    refine SP_cons (SP_AssignTuple ?_ (by walk_at "m_rfl") (by walk_at "m_rfl"))
    walk_at "n"
    refine SP_use ok (drawn_spec 50 F.li.fd F.sp0 (by first | exact Nat.le_refl _ | exact leK rfl | omega) eT iT F.tT eG iG F.tG F.pT F.pG (by first | exact Nat.le_refl _ | exact leK rfl | omega) (by first | exact Nat.le_refl _ | exact leK rfl | omega) eK F.li.fd.ne) (by first | exact Nat.le_refl _ | exact leK rfl | omega) (fun v N2 hz_ => ?_)
    refine e11_10 hz_ ?_
    try clear hz_
    intro q name tn en ve n ends isT label tl spot' e eq een enf iE dok hf2 s1 s2 k2
    subst e
    have nen := F.li.fresh enf
    have L2 := F.li.feed k2 hf2
    have kA2 : Keep K.all N1 N2 := k2.sub (feed_all K)
    refine SP_unpackT ok eq rfl (by walk_at "m_rfl") rfl ?_
    simp only [bindAll]
    refine Nx.next ?_
    generalize hKD : (if isT = true then (0 : Int) else 3) = KD at dok
    have dd := dok.due
    have dgo := due_good (label := label) F.wf dd
    have hel := dd.len
    have dlen := dgo.ext.len
    refine SP_cons ?_
    walk_at "n"
    refine SP_isTrue ?_ (by walk_at "m_rfl")
    walk_at "n"
    refine Br.pick (x := 0) (y := 3) (fun Q' h => ?_) (fun Q' h => ?_) (fun tkd kd hkd => ?_)
    · walk_at "n"; exact h _
    · walk_at "n"; exact h _
    rw [hKD] at hkd
    obtain rfl := hkd.symm
    walk_at "n"
    refine SP_use ok (due_spec 50 L2.b (by first | exact Nat.le_refl _ | exact leK rfl | omega) een (LO.lst _ _) iE (by first | exact Nat.le_refl _ | exact leK rfl | omega) dd.op (fun q => ?_) (fun q => ?_)) (by first | exact Nat.le_refl _ | exact leK rfl | omega) (fun v N3 ⟨td, e, hB3, k3⟩ => ?_)
    · refine e0_2 (dd.not q) ?_
      intro _ hz0_
      refine e1_2 hz0_ ?_
      try clear hz0_
      intro x hx tx
      exact ⟨x, hx, tx.1, tx.le, fun k' hk' ho => F.wf.notOk.args x k' hk' ho⟩
    · refine e0_2 (dd.eq q) ?_
      intro _ hz0_
      refine e3_2 hz0_ ?_
      try clear hz0_
      intro x y s hx _
      rw [hx]; exact (by decide : 1 < 2)
    subst e
    have L3 := L2.book k3 hB3
    have een3 := k3 _ _ een (fun q => nen (book_all K _ q))
    have kA3 : Keep K.all N1 N3 := kA2.trans (k3.sub (book_all K))
    walk_at "n"
    refine SP_cons ?_
    walk_at "n"
    refine SP_use ok (made_spec 50 L3.a L3.f F.sg (by first | exact Nat.le_refl _ | exact leK rfl | omega) F.wf.notOk een3 (LO.lst _ _) iE dok) (by first | exact Nat.le_refl _ | exact leK rfl | omega) (fun v N4 hz_ => ?_)
    refine e1_3 hz_ ?_
    try clear hz_
    intro ta e hA4 k4
    subst e
    have L4 := L3.bank k4 hA4
    have een4 := k4 _ _ een3 (fun q => nen (mut_all K _ q))
    walk_at "n"
    refine SP_use ok (made_spec 50 L4.a L4.f F.sg (by first | exact Nat.le_refl _ | exact leK rfl | omega) dgo.wf.notOk een4 (LO.lst _ _) iE (dok.ext dgo.ext)) (by first | exact Nat.le_refl _ | exact leK rfl | omega) (fun v N5 hz_ => ?_)
    refine e1_3 hz_ ?_
    try clear hz_
    intro tb e hA5 k5
    rw [dgo.again] at e hA5
    subst e
    have L5 := L4.bank k5 hA5
    have kA5 : Keep K.all N1 N5 := (kA3.trans (k4.sub (mut_all K))).trans (k5.sub (mut_all K))
    have wf' := dgo.wf
    have ty' := dgo.ty
    have ext' := dgo.ext
    have k0' : K0 (due rows name ends KD label).2 := due_k0 F.k0
    clear hA4 hA5 hB3 dgo L2 L3 L4 een3 een4 een k3 k4 k5
    generalize due rows name ends KD label = d at *
    walk_at "n"
    refine SP_newList (fun q6 hq6 => ?_) (sz (by simp))
    refine SP.gen1 hq6 fun N6 k6 e6 => ?_
    walk_at "n"
    refine SP_cons ?_
    walk_at "n"
    refine SP_newList (fun q7 hq7 => ?_) (sz (by simp))
    refine SP.gen1 hq7 fun N7 k7 e7 => ?_
    walk_at "n"
    refine SP_neLI ok (k7 _ _ e6 (by first | exact nm0 | simp)) (LO.lst _ _) (.cons d.1 ta (.cons d.1 tb .nil)) e7 (LO.lst _ _) (.cons d.1 td (.cons d.1 td .nil)) ?_
    walk_at "n"
    refine Br.of_ff (by simp) ?_
    have L7 := L5.new (k6.trans k7)
    have kA7 : Keep K.all N1 N7 := kA5.trans ((k6.trans k7).sub (by simp))
    have hO7 := L7.a.o
    walk_at "n"
    refine SP_use ok (size_spec 50 L7.a (by first | exact Nat.le_refl _ | exact leK rfl | omega)) (by first | exact Nat.le_refl _ | exact leK rfl | omega) (fun v N8 hz_ => ?_)
    refine e0_2 hz_ ?_
    try clear hz_
    intro hy0_ e'
    obtain ⟨tz, e⟩ := hy0_
    subst e e'
    walk_at "n"
    refine SP_sItem L7.b.dicB (bookF_rows K.B) ?_ (by walk_at "m_rfl")
    walk_at "n"
    refine e2_3 L7.b.row ?_
    intro nr ks hr hlen hks
    refine SP_lenL hr (LO.lst _ _) (by first | exact Nat.le_refl _ | exact leK rfl | omega) fun tl2 => ?_
    walk_at "n"
    refine Br.of_ff (by simp [hlen]) ?_
    walk_at "n"
    refine e0_2 (id ty') ?_
    intro d1 hz0_
    refine e1_2 hz0_ ?_
    try clear hz0_
    intro kd' hkd' ekd
    refine SP_use ok (sort_spec 50 L7.a d1 hkd' (by first | exact Nat.le_refl _ | exact leK rfl | omega)) (by first | exact Nat.le_refl _ | exact leK rfl | omega) (fun v N8 hz_ => ?_)
    refine e0_2 hz_ ?_
    try clear hz_
    intro hy0_ e'
    obtain ⟨tz2, e⟩ := hy0_
    subst e e'
    walk_at "n"
    refine SP_isTrue ?_ (by walk_at "m_rfl")
    walk_at "n"
    refine Br.pick (x := 0) (y := 3) (fun Q' h => ?_) (fun Q' h => ?_) (fun tkd2 kd2 hkd2 => ?_)
    · walk_at "n"; exact h _
    · walk_at "n"; exact h _
    rw [hKD] at hkd2
    obtain rfl := hkd2.symm
    walk_at "n"
    refine Br.of_ff (by simp [ekd]) ?_
    walk_at "n"
    refine Br.ff ?_
    walk_at "n"
    refine SP_cons ?_
    have hIo7 := kA7 _ _ hIo (Cs.k nI)
    have et7 := kA7 _ _ et (F.off _ (by simp))
    have eg7 := kA7 _ _ eg (F.off _ (by simp))
    walk_at "n"
    refine SP_isTrue ?_ (by walk_at "m_rfl")
    walk_at "n"
    cases isT with
    | false =>
      refine Br.ff ?_
      have hK : KD = 3 := by simpa using hKD.symm
      subst hK
      walk_at "n"
      refine e2_2 L7.g ?_
      intro vG' nG' eG' iG'
      refine SP_mAppend eG' ?_
      dsimp only
      walk_at "n"
      have lg := iG'.length
      refine SP_append eG' (sz (by first | exact Nat.le_refl _ | exact leK rfl | omega)) ⟨trivial, ?_⟩
      walk_at "n"
      have nIG : I ≠ K.G := fun q => Cs.k nI (q ▸ by simp [LC.all])
      refine TurnEnd.next (by rw [upd_ne nIG]; exact hIo7) ⟨by walk_at "m_has", spot', _, _, _, F.go (L7.addG eG' iG') (F.updK (by simp [LC.all]) kA7) wf' k0' (fun t ht => (F.tT t ht).ext ext') ?_ F.pT (by simp) (by first | exact Nat.le_refl _ | exact leK rfl | omega), by omega, by omega, by omega, by simp; omega⟩
      intro t ht
      rcases List.mem_append.mp ht with ht | ht
      · exact (F.tG t ht).ext ext'
      · rw [List.mem_singleton] at ht; subst ht; exact ty'
    | true =>
      refine Br.tt ?_
      have hK : KD = 0 := by simpa using hKD.symm
      subst hK
      walk_at "n"
      refine e2_2 L7.t ?_
      intro vT' nT' eT' iT'
      refine SP_mAppend eT' ?_
      dsimp only
      walk_at "n"
      have lg := iT'.length
      refine SP_append eT' (sz (by first | exact Nat.le_refl _ | exact leK rfl | omega)) ⟨trivial, ?_⟩
      walk_at "n"
      have nIT : I ≠ K.T := fun q => Cs.k nI (q ▸ by simp [LC.all])
      refine TurnEnd.next (by rw [upd_ne nIT]; exact hIo7) ⟨by walk_at "m_has", spot', _, _, _, F.go (L7.addT eT' iT') (F.updK (by simp [LC.all]) kA7) wf' k0' ?_ (fun t ht => (F.tG t ht).ext ext') (by simp) F.pG (by first | exact Nat.le_refl _ | exact leK rfl | omega), by omega, by omega, by simp; omega, by omega⟩
      intro t ht
      rcases List.mem_append.mp ht with ht | ht
      · exact (F.tT t ht).ext ext'
      · rw [List.mem_singleton] at ht; subst ht; exact ty'
  · intro l' N9 hl' hz_
    refine e4_5 hz_ ?_
    try clear hz_
    intro spot rows Ts Gs F b1 b2 b3 b4
    refine Nx.next (SP.has hl' ?_)
    refine' (law_use (k := 8) (P := LawAt 300 24) h8 ?hb8) w C N9 qual fa cdv K Kc tk rows Ts Gs spot ok F (by first | exact Nat.le_refl _ | exact leK rfl | omega) (by first | exact Nat.le_refl _ | exact leK rfl | omega) (by first | exact Nat.le_refl _ | exact leK rfl | omega) (by first | exact Nat.le_refl _ | exact leK rfl | omega)
    case hb8 => with_unfolding_all exact rfl

end law7_c
theorem law7 (h8 : ∃ body scope, lawFrom 8 = some (body, scope) ∧ LawAt 300 24 body scope) : ∃ body scope, lawFrom 7 = some (body, scope) ∧ LawFrom7 body scope :=
  ⟨law7_c.lb.1.1, law7_c.lb.1.2, law7_c.lb.2, fun w C N qual fa cdv K Kc tk rows Ts Gs => pickAll (P := fun q : World × Cx × Hl × Str × Addr × Value × LC × Addr × Tok × Rws × List Int × List Int => law7_c.P q.1 q.2.1 q.2.2.1 q.2.2.2.1 q.2.2.2.2.1 q.2.2.2.2.2.1 q.2.2.2.2.2.2.1 q.2.2.2.2.2.2.2.1 q.2.2.2.2.2.2.2.2.1 q.2.2.2.2.2.2.2.2.2.1 q.2.2.2.2.2.2.2.2.2.2.1 q.2.2.2.2.2.2.2.2.2.2.2 law7_c.lb.1.1 law7_c.lb.1.2) (aWorld 0, ⟨callerA, {}, 0⟩, fun _ => none, Str.empty, 0, .none, ⟨⟨0, 0, [], 0, 0, 0, 0, 0, 0, 0, 0, 0, 0, 0⟩, ⟨0, 0, 0⟩, 0, 0, 0, 0, 0, []⟩, 0, 0, [], [], []) (by with_unfolding_all exact law7_c.core h8) (w, C, N, qual, fa, cdv, K, Kc, tk, rows, Ts, Gs)⟩
end
/-! part Lh -/
section
set_option linter.unusedVariables false
def pyHalf (op : Str) (as : List Int) : PyData := .tuple [.str op, .tuple (as.map .int)]
theorem half_eqv (op : Str) (as : List Int) : PyData.eqv (pyHalf op as) (pyHalf op as) = true := by
  simp only [pyHalf, PyData.eqv, PyData.eqvAll, eqvAll_ints]
  simp
theorem half_lay {op : Str} (as : List Int) (h : PyData.strOk op = true) : (pyHalf op as).canLay0 = true := by
  simp [pyHalf, PyData.canLay0, PyData.canLayAll0, canLay_ints, h]
theorem half_depth (op : Str) (as : List Int) : (pyHalf op as).depth ≤ 8 := by
  have := depth_ints as
  simp only [pyHalf, PyData.depth, PyData.depthAll]
  omega
namespace law8_c
def P (w : World) (C : Cx) (N : Hl) (qual : Str) (fa : Addr) (cdv : Value) (K : LC) (Kc : Addr) (tk : Tok) (rows : Rws) (Ts : List Int) (Gs : List Int) (spot : Int) (body : List Stmt) (scope : Scope) : Prop := Ok w C (envOfC qual scope C.L fa cdv) 60 → Fst w C K Kc N spot rows Ts Gs → spot ≤ 300 → rows.length ≤ 24 → Ts.length ≤ 24 → Gs.length ≤ 24 → SP w C (execs body (envOfC qual scope C.L fa cdv)) (lawL K Kc tk) N (fun f l N' => f = .ret (.bool true))
@[reducible] noncomputable def lb : {x : List Stmt × Scope // lawFrom 8 = some x} := ⟨_, by with_unfolding_all exact rfl⟩
noncomputable def V : World × Cx × Hl × Str × Addr × Value × LC × Addr × Tok × Rws × List Int × List Int × Int := pick (aWorld 0, ⟨callerA, {}, 0⟩, fun _ => none, Str.empty, 0, .none, ⟨⟨0, 0, [], 0, 0, 0, 0, 0, 0, 0, 0, 0, 0, 0⟩, ⟨0, 0, 0⟩, 0, 0, 0, 0, 0, []⟩, 0, 0, [], [], [], 0) fun q => P q.1 q.2.1 q.2.2.1 q.2.2.2.1 q.2.2.2.2.1 q.2.2.2.2.2.1 q.2.2.2.2.2.2.1 q.2.2.2.2.2.2.2.1 q.2.2.2.2.2.2.2.2.1 q.2.2.2.2.2.2.2.2.2.1 q.2.2.2.2.2.2.2.2.2.2.1 q.2.2.2.2.2.2.2.2.2.2.2.1 q.2.2.2.2.2.2.2.2.2.2.2.2 lb.1.1 lb.1.2
@[irreducible] noncomputable def w : World := V.1
@[irreducible] noncomputable def C : Cx := V.2.1
@[irreducible] noncomputable def N : Hl := V.2.2.1
@[irreducible] noncomputable def qual : Str := V.2.2.2.1
@[irreducible] noncomputable def fa : Addr := V.2.2.2.2.1
@[irreducible] noncomputable def cdv : Value := V.2.2.2.2.2.1
@[irreducible] noncomputable def K : LC := V.2.2.2.2.2.2.1
@[irreducible] noncomputable def Kc : Addr := V.2.2.2.2.2.2.2.1
@[irreducible] noncomputable def tk : Tok := V.2.2.2.2.2.2.2.2.1
@[irreducible] noncomputable def rows : Rws := V.2.2.2.2.2.2.2.2.2.1
@[irreducible] noncomputable def Ts : List Int := V.2.2.2.2.2.2.2.2.2.2.1
@[irreducible] noncomputable def Gs : List Int := V.2.2.2.2.2.2.2.2.2.2.2.1
@[irreducible] noncomputable def spot : Int := V.2.2.2.2.2.2.2.2.2.2.2.2
set_option maxHeartbeats 4000000 in
theorem core (h9 : ∃ body scope, lawFrom 9 = some (body, scope) ∧ LawAt 300 24 body scope) : P w C N qual fa cdv K Kc tk rows Ts Gs spot lb.1.1 lb.1.2 := by
  unfold P
  intro ok F0 bs br bT bG
  refine SP_cons ?_
  refine SP_For ok (by walk_at "m_rfl") ?_ (fun _ => rfl)
  walk_at "n"
  refine SP_sItem F0.li.b.dicB (bookF_rows K.B) ?_ (by walk_at "m_rfl")
  refine e2_3 F0.li.b.row ?_
  intro nr ks hr hlen hks
  refine SP_iterV ok (lawL K Kc tk) (fun i N' => Keep [] N N' ∧ Fst w C K Kc N' spot rows Ts Gs) hr (LO.lst _ _) (Has.refl _) (by exact rfl) ⟨Keep.refl _ _, F0⟩ ?_ ?_ ?_ ?_
  · intro I hI i N₁ N₂ ho hz_
    refine e0_2 hz_ ?_
    try clear hz_
    intro hK F
    refine ⟨fun a o ea hna => ho.2 a o (hK a o ea hna) ?_, F.offI (F0.ne hI) ho⟩
    (first | exact neH ea hI (by intro e_; cases e_) | exact Ne.symm (neH ea hI (by intro e_; cases e_)) | (rintro rfl; rw [hI] at ea; cases ea))
  · intro i N' hz_
    refine e0_2 hz_ ?_
    try clear hz_
    intro hK _
    exact ⟨_, hK _ _ hr (by first | exact nm0 | simp), LO.lst _ _⟩
  · intro I oI i v N1 hI hi hv ie hIo hz_
    refine e0_2 hz_ ?_
    try clear hz_
    intro hK F
    have hir : i < rows.length := by omega
    have hk := List.getElem?_eq_getElem hir
    generalize rows[i] = k at hk
    refine e1_3 (hks i k hk) ?_
    intro a ha hkey hok
    rw [ha] at hv; cases hv
    refine e4_2 hkey ?_
    try clear hkey
    intro u1 b u2 u3 eA hB
    have eA1 := hK _ _ eA (by first | exact nm0 | simp)
    have hB1 := hB.keep (hK.tup (by simp))
    have hkm : k ∈ rows := List.mem_of_getElem? hk
    have hkr := row_num hkm
    have hO := F.li.a.o
    refine e1_2 (id F.li.b) ?_
    intro xs hy1_ hkeys
    obtain ⟨_, _, _, hdd, hnn⟩ := hy1_
    have hnd := hdd
    refine e3_6 hnd ?_
    try clear hnd
    intro _ _ _ _ _ _ _ _ hnd
    obtain ⟨ka, kt, hat⟩ := atKey_idx hnn hnd (by rw [hkeys]; exact hkm)
    rw [hkeys] at hat
    refine SP_cons ?_
    walk_at "n"
    refine SP_sItem F.li.b.dicB (bookF_nums K.B) ?_ (by walk_at "m_rfl")
    walk_at "n"
    refine SP_dItem ok hdd ⟨u1, b, u2, u3, eA1, hB1⟩ hok hat ?_ (by walk_at "m_rfl")
    walk_at "n"
    refine SP_use ok (op_spec 50 F.li.a (num_ge _ _) hkr (by first | exact Nat.le_refl _ | exact leK rfl | omega)) (by first | exact Nat.le_refl _ | exact leK rfl | omega) (fun v N8 hz_ => ?_)
    refine e0_2 hz_ ?_
    try clear hz_
    intro hy0_ e'
    obtain ⟨tz, e⟩ := hy0_
    subst e e'
    walk_at "n"
    refine SP_sItem F.li.b.dicB (bookF_nums K.B) ?_ (by walk_at "m_rfl")
    walk_at "n"
    refine SP_dItem ok hdd ⟨u1, b, u2, u3, eA1, hB1⟩ hok hat ?_ (by walk_at "m_rfl")
    walk_at "n"
    refine SP_use ok (args_spec 50 F.li.a (num_ge _ _) hkr (by first | exact Nat.le_refl _ | exact leK rfl | omega)) (by first | exact Nat.le_refl _ | exact leK rfl | omega) (fun v N8 hz_ => ?_)
    refine e0_2 hz_ ?_
    try clear hz_
    intro hy0_ e'
    obtain ⟨a2, e, ha2⟩ := hy0_
    subst e e'
    walk_at "n"
    refine SP_newTuple (fun q2 hq2 => ?_) (sz (by simp))
    refine SP.gen1 hq2 fun N2 k2 e2 => ?_
    walk_at "n"
    have F2 := F.new k2
    have hO2 := F2.li.a.o
    have eA2 := k2 _ _ eA1 (by first | exact nm0 | simp)
    have tk2 : TupKeep _ N2 := k2.tup (by simp)
    have hB2 := hB1.keep tk2
    have ha22 := ha2.keep tk2
    refine SP_cons ?_
    iterate 4 walk_at "n1"
    refine SP_sliceT ?_ (fun _ _ => by walk_at "m_rfl")
    walk_at "n"
    refine ⟨a, _, 2, _, rfl, rfl, eA2, by decide, by simp, by simp, fun q3 N3 k3 hq3 e3 => ?_⟩
    have tk3 : TupKeep N2 N3 := k3.tup (by simp)
    have F3 := F2.new k3
    refine SP_neR ok (dx := pyHalf k.op k.args) (dy := pyHalf k.op k.args) (.tup (k3 _ _ e2 (by first | exact nm0 | simp)) (.cons (.str _ _) (.cons (.tupI (ha22.keep tk3)) .nil))) (.tup e3 (.cons (.str _ _) (.cons (.tupI (hB2.keep tk3)) .nil))) (half_lay _ hok) (half_lay _ hok) (half_depth _ _) ?_
    rw [half_eqv]
    walk_at "n"
    refine Br.ff ?_
    have eA3 := k3 _ _ eA2 (by first | exact nm0 | simp)
    have hB3 := hB2.keep tk3
    walk_at "n"
    refine SP_isTrue ?_ (by walk_at "m_rfl")
    walk_at "n"
    refine SP_use ok (is_found_spec 50 F3.li.a F3.li.b eA3 hB3 hok (by first | exact Nat.le_refl _ | exact leK rfl | omega)) (by first | exact Nat.le_refl _ | exact leK rfl | omega) (fun v N4 hz_ => ?_)
    refine e0_2 hz_ ?_
    try clear hz_
    intro e k4
    subst e
    have F4 := F3.new k4
    have eA4 := k4 _ _ eA3 (by first | exact nm0 | simp)
    have hB4 := hB3.keep (k4.tup (by simp))
    walk_at "n"
    refine Br.ff ?_
    walk_at "n"
    refine SP_isTrue ?_ (by walk_at "m_rfl")
    walk_at "n"
    refine SP_itemT eA4 (by decide) (by decide) rfl ?_ (by walk_at "m_rfl")
    walk_at "n"
    refine SP_newTuple (fun q5 hq5 => ?_) (sz (by simp))
    refine SP.gen1 hq5 fun N5 k5 e5 => ?_
    have F5 := F4.new k5
    have hB5 := hB4.keep (k5.tup (by simp))
    walk_at "n"
    refine SP_use ok (is_found_spec (k := ⟨sXor, k.args, 0, 7⟩) 50 F5.li.a F5.li.b e5 hB5 okXor (by first | exact Nat.le_refl _ | exact leK rfl | omega)) (by first | exact Nat.le_refl _ | exact leK rfl | omega) (fun v N6 hz_ => ?_)
    refine e0_2 hz_ ?_
    try clear hz_
    intro e k6
    subst e
    have F6 := F5.new k6
    walk_at "n"
    refine Br.ff ?_
    walk_at "n"
    refine Br.ff ?_
    walk_at "n"
    have kk : Keep [] _ N6 := (((k2.trans k3).trans k4).trans k5).trans k6
    exact TurnEnd.next (kk _ _ hIo (by first | exact nm0 | simp)) ⟨by walk_at "m_has", hK.trans kk, F6⟩
  · intro l' N9 hl' hz_
    refine e0_2 hz_ ?_
    try clear hz_
    intro _ F
    refine Nx.next (SP.has hl' ?_)
    refine' (law_use (k := 9) (P := LawAt 300 24) h9 ?hb9) w C N9 qual fa cdv K Kc tk rows Ts Gs spot ok F bs br bT bG
    case hb9 => with_unfolding_all exact rfl

end law8_c
theorem law8 (h9 : ∃ body scope, lawFrom 9 = some (body, scope) ∧ LawAt 300 24 body scope) : ∃ body scope, lawFrom 8 = some (body, scope) ∧ LawAt 300 24 body scope :=
  ⟨law8_c.lb.1.1, law8_c.lb.1.2, law8_c.lb.2, fun w C N qual fa cdv K Kc tk rows Ts Gs spot => pickAll (P := fun q : World × Cx × Hl × Str × Addr × Value × LC × Addr × Tok × Rws × List Int × List Int × Int => law8_c.P q.1 q.2.1 q.2.2.1 q.2.2.2.1 q.2.2.2.2.1 q.2.2.2.2.2.1 q.2.2.2.2.2.2.1 q.2.2.2.2.2.2.2.1 q.2.2.2.2.2.2.2.2.1 q.2.2.2.2.2.2.2.2.2.1 q.2.2.2.2.2.2.2.2.2.2.1 q.2.2.2.2.2.2.2.2.2.2.2.1 q.2.2.2.2.2.2.2.2.2.2.2.2 law8_c.lb.1.1 law8_c.lb.1.2) (aWorld 0, ⟨callerA, {}, 0⟩, fun _ => none, Str.empty, 0, .none, ⟨⟨0, 0, [], 0, 0, 0, 0, 0, 0, 0, 0, 0, 0, 0⟩, ⟨0, 0, 0⟩, 0, 0, 0, 0, 0, []⟩, 0, 0, [], [], [], 0) (by with_unfolding_all exact law8_c.core h9) (w, C, N, qual, fa, cdv, K, Kc, tk, rows, Ts, Gs, spot)⟩
end
/-! part Lj -/
section
set_option linter.unusedVariables false
theorem dns_ok {rows : Rws} (hd : Dag rows) {n : Int} : ∀ (l s : List Int), (∀ x ∈ l, 1 ≤ x ∧ x ≤ n) → s.Nodup → (∀ y ∈ s, 1 ≤ y ∧ y ≤ n) →
    (l.foldl (fun s t => dn rows t s) s).Nodup ∧ ∀ y ∈ l.foldl (fun s t => dn rows t s) s, 1 ≤ y ∧ y ≤ n
  | [], s, _, h1, h2 => ⟨h1, h2⟩
  | t :: l, s, hl, h1, h2 => by
    have ht := hl t (by simp)
    refine dns_ok hd l (dn rows t s) (fun x hx => hl x (by simp [hx])) (dn_nodup hd ht.1 h1) fun y hy => ?_
    rcases dn_mem hd ht.1 y hy with h | h
    · exact h2 y h
    · omega
namespace law9_c
def P (w : World) (C : Cx) (N : Hl) (qual : Str) (fa : Addr) (cdv : Value) (K : LC) (Kc : Addr) (tk : Tok) (rows : Rws) (Ts : List Int) (Gs : List Int) (spot : Int) (body : List Stmt) (scope : Scope) : Prop := Ok w C (envOfC qual scope C.L fa cdv) 60 → Fst w C K Kc N spot rows Ts Gs → spot ≤ 300 → rows.length ≤ 24 → Ts.length ≤ 24 → Gs.length ≤ 24 → SP w C (execs body (envOfC qual scope C.L fa cdv)) (lawL K Kc tk) N (fun f l N' => f = .ret (.bool true))
@[reducible] noncomputable def lb : {x : List Stmt × Scope // lawFrom 9 = some x} := ⟨_, by with_unfolding_all exact rfl⟩
noncomputable def V : World × Cx × Hl × Str × Addr × Value × LC × Addr × Tok × Rws × List Int × List Int × Int := pick (aWorld 0, ⟨callerA, {}, 0⟩, fun _ => none, Str.empty, 0, .none, ⟨⟨0, 0, [], 0, 0, 0, 0, 0, 0, 0, 0, 0, 0, 0⟩, ⟨0, 0, 0⟩, 0, 0, 0, 0, 0, []⟩, 0, 0, [], [], [], 0) fun q => P q.1 q.2.1 q.2.2.1 q.2.2.2.1 q.2.2.2.2.1 q.2.2.2.2.2.1 q.2.2.2.2.2.2.1 q.2.2.2.2.2.2.2.1 q.2.2.2.2.2.2.2.2.1 q.2.2.2.2.2.2.2.2.2.1 q.2.2.2.2.2.2.2.2.2.2.1 q.2.2.2.2.2.2.2.2.2.2.2.1 q.2.2.2.2.2.2.2.2.2.2.2.2 lb.1.1 lb.1.2
@[irreducible] noncomputable def w : World := V.1
@[irreducible] noncomputable def C : Cx := V.2.1
@[irreducible] noncomputable def N : Hl := V.2.2.1
@[irreducible] noncomputable def qual : Str := V.2.2.2.1
@[irreducible] noncomputable def fa : Addr := V.2.2.2.2.1
@[irreducible] noncomputable def cdv : Value := V.2.2.2.2.2.1
@[irreducible] noncomputable def K : LC := V.2.2.2.2.2.2.1
@[irreducible] noncomputable def Kc : Addr := V.2.2.2.2.2.2.2.1
@[irreducible] noncomputable def tk : Tok := V.2.2.2.2.2.2.2.2.1
@[irreducible] noncomputable def rows : Rws := V.2.2.2.2.2.2.2.2.2.1
@[irreducible] noncomputable def Ts : List Int := V.2.2.2.2.2.2.2.2.2.2.1
@[irreducible] noncomputable def Gs : List Int := V.2.2.2.2.2.2.2.2.2.2.2.1
@[irreducible] noncomputable def spot : Int := V.2.2.2.2.2.2.2.2.2.2.2.2
set_option maxHeartbeats 4000000 in
theorem core (h13 : ∃ body scope, lawFrom 13 = some (body, scope) ∧ LawAt 400 24 body scope) : P w C N qual fa cdv K Kc tk rows Ts Gs spot lb.1.1 lb.1.2 := by
  unfold P
  intro ok F0 bs br bT bG
  refine e2_2 F0.li.t ?_
  intro vT nT eT iT
  refine e2_2 F0.li.g ?_
  intro vG nG eG iG
  refine e1_2 F0.cf ?_
  intro of ef df
  refine e1_2 F0.ct ?_
  intro ot et dt
  refine e1_2 F0.cg ?_
  intro og eg dg
  have sp0 := F0.sp0
  have nTf : K.T ≠ K.feed := F0.li.at 2 0 (by decide) rfl rfl
  have nGf : K.G ≠ K.feed := F0.li.at 3 0 (by decide) rfl rfl
  have c1 : C.L + 1 ∉ [K.feed] := fun q => F0.off _ (by simp) (feed_all K _ q)
  have c2 : C.L + 1 + 1 ∉ [K.feed] := fun q => F0.off _ (by simp) (feed_all K _ q)
  have c3 : C.L + 1 + 1 + 1 ∉ [K.feed] := fun q => F0.off _ (by simp) (feed_all K _ q)
  have hd := F0.wf.dag
  have lT := iT.length
  have lG := iG.length
  refine SP_cons ?_
  refine SP_AssignComp ok ?_ (by walk_at "m_rfl") (by walk_at "m_rfl") (by decide) rfl (by decide) rfl (by walk_at "m_rfl") (fun _ => rfl)
  walk_at "n"
  refine SP_use ok (dip_spec 50 F0.li.fd F0.sp0 (by first | exact Nat.le_refl _ | exact leK rfl | omega) (by decide)) (by first | exact Nat.le_refl _ | exact leK rfl | omega) (fun v N2 hz_ => ?_)
  refine e2_5 hz_ ?_
  try clear hz_
  intro res tr e r0 r1 hf2 k2
  subst e
  walk_at "n"
  obtain ⟨m, hm⟩ : ∃ m : Nat, (1 : Int) + res = m := ⟨(1 + res).toNat, by omega⟩
  rw [hm]
  refine SP_range fun q3 u3 v3 hq3 => ?_
  refine SP.gen1 hq3 fun N4 k4 eq4 => ?_
  have hf4 : FeedIn N4 K.feed K.X K.len (spot + 1) := hf2.keep fun a o e _ => k4 a o e (by first | exact nm0 | simp)
  have k04 : Keep [K.feed] N N4 := k2.trans (k4.sub (by simp))
  refine e2_2 hf4.some ?_
  intro of4 oX4 ef4 eX4
  refine SP_compR ok (fun i ys N' => Keep [K.feed] N4 N' ∧ FeedIn N' K.feed K.X K.len (spot + 1 + i) ∧ ∃ es, IntsAre ys es ∧ es.length = i ∧ ∀ e ∈ es, 1 ≤ e ∧ e ≤ rows.length) eq4 (by first | exact Nat.le_refl _ | exact leK rfl | omega) ⟨Keep.refl _ _, hf4.cast (by simp), [], .nil, rfl, by simp⟩ ?_ ?_ ?_
  · intro I D Cc hI hD hC i ys N₁ N₂ hk hz_
    refine e0_3 hz_ ?_
    try clear hz_
    intro a b c
    refine ⟨fun x o e hn => hk x o (a x o e hn) (nin3 hI hD hC e), b.keep fun x o e h => hk x o e ?_, c⟩
    rcases h with rfl | rfl
    · exact nin3 hI hD hC ef4
    · exact nin3 hI hD hC eX4
  · intro I D Cc i t ys N5 oI oC mm hI hD hC nD nC nDC hi eI eD eC hmm hmx hz_
    refine e0_3 hz_ ?_
    try clear hz_
    intro hk hf5 hz0_
    refine e1_3 hz0_ ?_
    try clear hz0_
    intro es ies les tes
    refine SP_tests0 ⟨rfl, Br.tt ?_⟩
    have k05 := k04.trans hk
    have ef5 := k05 _ _ ef c1
    have et5 := k05 _ _ et c2
    have eg5 := k05 _ _ eg c3
    have eT5 := k05 _ _ eT (by first | exact nm1 nTf | exact nm1 (Ne.symm nTf) | simpa using nTf)
    have eG5 := k05 _ _ eG (by first | exact nm1 nGf | exact nm1 (Ne.symm nGf) | simpa using nGf)
    walk_at "mc"
    refine SP_addL eT5 (LO.lst _ _) eG5 (LO.lst _ _) (by first | exact Nat.le_refl _ | exact leK rfl | omega) fun q6 n6 hq6 => ?_
    refine SP.gen1 hq6 fun N6 k6 e6 => ?_
    have ef6 := k6 _ _ ef5 (by first | exact nm0 | simp)
    have et6 := k6 _ _ et5 (by first | exact nm0 | simp)
    have eg6 := k6 _ _ eg5 (by first | exact nm0 | simp)
    have eT6 := k6 _ _ eT5 (by first | exact nm0 | simp)
    have eG6 := k6 _ _ eG5 (by first | exact nm0 | simp)
    have hf6 : FeedIn N6 K.feed K.X K.len (spot + 1 + i) := hf5.keep fun a o e _ => k6 a o e (by first | exact nm0 | simp)
    walk_at "mc"
    refine SP_lenL eT6 (LO.lst _ _) (by first | exact Nat.le_refl _ | exact leK rfl | omega) fun tl1 => ?_
    walk_at "mc"
    refine SP_lenL eG6 (LO.lst _ _) (by first | exact Nat.le_refl _ | exact leK rfl | omega) fun tl2 => ?_
    walk_at "mc"
    have pT := F0.pT
    refine SP_use ok (dip_spec 50 hf6 (by first | exact Nat.le_refl _ | exact leK rfl | omega) (by first | exact Nat.le_refl _ | exact leK rfl | omega) (by first | exact Nat.le_refl _ | exact leK rfl | omega)) (by first | exact Nat.le_refl _ | exact leK rfl | omega) (fun v N7 hz_ => ?_)
    refine e2_5 hz_ ?_
    try clear hz_
    intro res2 tr2 e r20 r21 hf7 k7
    subst e
    refine e2_2 hf6.some ?_
    intro of6 _ ef6' _
    have e7 := k7 _ _ e6 (by simpa using neN hq6 (hf5.some.choose_spec.choose_spec.1))
    have hlt : res2.toNat < (vT ++ vG).length := by rw [List.length_append]; omega
    refine e2_2 ((PyProof.Rows.IntsAre.append iT iG).at _ _ (List.getElem?_eq_getElem hlt)) ?_
    intro x tx ex hx
    have hv := List.getElem?_eq_getElem hlt
    rw [ex] at hv
    walk_at "mc"
    refine SP_itemL e7 (LO.lst _ _) r20 (by first | exact Nat.le_refl _ | exact leK rfl | omega) hv ?_ (by walk_at "m_rfl")
    have kk := k6.sub (ds' := [K.feed]) (by simp) |>.trans k7
    refine ⟨rfl, kk _ _ eI (by simpa using neN hI ef4), kk _ _ eD (by simpa using neN hD ef4), kk _ _ eC (by simpa using neN hC ef4), hk.trans kk, hf7.cast (by first | exact Nat.le_refl _ | exact leK rfl | omega), es ++ [x], ints_snoc ies x tx, by simp [les], ?_⟩
    intro e he
    rcases List.mem_append.mp he with he | he
    · exact tes e he
    · rw [List.mem_singleton] at he; subst he
      rcases List.mem_append.mp (List.mem_of_getElem? hx) with h | h
      · have := F0.tT _ h; exact ⟨this.1, this.le⟩
      · have := F0.tG _ h; exact ⟨this.1, this.le⟩
  rintro D ys N6 hD ⟨hk, hf6, es, ies, les, tes⟩ eD
  refine Nx.next ?_
  have k06 := k04.trans hk
  have L6 := F0.li.feed k06 hf6
  have F6 := F0.same L6 (F0.keepOff (k06.sub (feed_all K))) (by first | exact Nat.le_refl _ | exact leK rfl | omega)
  clear F0 L6 k06 hk hf6 k04 hf4 k2 hf2 eT eG ef et eg eX4
  have lys := ies.length
  obtain ⟨e0, es', rfl⟩ : ∃ e0 es', es = e0 :: es' := by
    cases es with
    | nil => simp at les; omega
    | cons a b => exact ⟨a, b, rfl⟩
  refine e2_2 ies.cons_inv ?_
  intro te ys' hy2_ _
  subst hy2_
  refine SP_cons ?_
  walk_at "n"
  refine SP_newList (fun se hse => ?_) (sz (by simp))
  walk_at "n"
  refine SP.gen1 hse fun N8 k8 e8 => ?_
  have F8 := F6.new k8
  have eD8 := k8 _ _ eD (by first | exact nm0 | simp)
  have nse := F6.li.fresh hse
  have nseD : D ≠ se := (neN hse eD).symm
  refine SP_cons ?_
  refine SP_For ok (by walk_at "m_rfl") ?_ (fun _ => rfl)
  walk_at "n"
  have tks : ∀ N', Keep [se] N8 N' → TupKeep N8 N' := fun N' k => k.tup (by
    intro a ha
    rw [List.mem_singleton] at ha; subst ha
    exact ⟨_, e8, lst_nt _ _⟩)
  have Fs : ∀ N', Keep [se] N8 N' → Fst w C K Kc N' (spot + 1 + m) rows Ts Gs := fun N' k =>
    F8.same (F8.li.keepAll (tks N' k) fun a ha o e => k a o e (by rw [List.mem_singleton]; rintro rfl; exact nse ha))
      (fun a ha o e => k a o e (by rw [List.mem_singleton]; rintro rfl; exact F6.ne hse (List.mem_append_left _ ha))) (by first | exact Nat.le_refl _ | exact leK rfl | omega)
  refine SP_iterS ok ((Str.ofString "seen", .ref se) :: (Str.ofString "roots", .ref D) :: lawL K Kc tk) (fun i N' => Keep [se] N8 N' ∧ ∃ vs n, N' se = some (lst vs n) ∧ IntsAre vs (((e0 :: es').take i).foldl (fun s t => dn rows t s) [])) (.inl ⟨_, _, eD8, ies⟩) (by walk_at "m_has") (by exact rfl)
    ⟨Keep.refl _ _, _, _, e8, .nil⟩ ?_ ?_ ?_ ?_
  · intro I hI i N₁ N₂ ho hz_
    refine e0_2 hz_ ?_
    try clear hz_
    intro hK hz0_
    refine e2_2 hz0_ ?_
    try clear hz0_
    intro vs n e h
    refine ⟨fun a o ea hna => ho.2 a o (hK a o ea hna) ?_, vs, n, ho.2 _ _ e (neN hI e8).symm, h⟩
    (first | exact neH ea hI (by intro e_; cases e_) | exact Ne.symm (neH ea hI (by intro e_; cases e_)) | (rintro rfl; rw [hI] at ea; cases ea))
  · rintro i N' ⟨hK, _⟩ o e
    exact hK _ _ e (by first | exact nm1 nseD | exact nm1 (Ne.symm nseD) | simpa using nseD)
  · intro I oI i t tt N1 hI ht ie hIo hz_
    refine e0_2 hz_ ?_
    try clear hz_
    intro hK hz0_
    refine e2_2 hz0_ ?_
    try clear hz0_
    intro vs n e hvs
    have F1 := Fs _ hK
    have htm := tes t (List.mem_of_getElem? ht)
    refine SP_cons ?_
    walk_at "n"
    have ok1 := dns_ok hd (n := rows.length) ((e0 :: es').take i) [] (fun x hx => tes x (List.mem_of_mem_take hx)) List.nodup_nil (by simp)
    have hdn : down rows rows.length t (((e0 :: es').take i).foldl (fun s t => dn rows t s) []) = dn rows t (((e0 :: es').take i).foldl (fun s t => dn rows t s) []) := down_fuel hd _ _ _ _ htm.1 (by first | exact Nat.le_refl _ | exact leK rfl | omega) (by first | exact Nat.le_refl _ | exact leK rfl | omega)
    have ok2 := dns_ok hd (n := rows.length) [t] _ (fun x hx => by rw [List.mem_singleton] at hx; subst hx; exact htm) ok1.1 ok1.2
    have l2 := nodup_len ok2.1 ok2.2
    refine SP_use ok (down_spec (by first | exact Nat.le_refl _ | exact leK rfl | omega) hd rows.length _ t tt se vs n _ F1.li.b htm.1 (by first | exact Nat.le_refl _ | exact leK rfl | omega) htm.2 e hvs (fun q => nse (q ▸ by simp [LC.all])) (by rw [hdn]; exact Nat.le_trans l2 (by first | exact Nat.le_refl _ | exact leK rfl | omega))) (by first | exact Nat.le_refl _ | exact leK rfl | omega) (fun v N2 hz_ => ?_)
    refine e0_3 hz_ ?_
    try clear hz_
    intro e' k2 hz0_
    refine e2_2 hz0_ ?_
    try clear hz0_
    intro vs2 n2 e2 h2
    subst e'
    refine ⟨trivial, ?_⟩
    walk_at "n"
    refine TurnEnd.next (k2 _ _ hIo (by simpa using neN hI e8)) ⟨by walk_at "m_has", hK.trans k2, vs2, n2, e2, ?_⟩
    rw [hdn] at h2
    rw [List.take_add_one, ht, List.foldl_append]
    exact h2
  · intro l' N9 hl' hz_
    refine e0_2 hz_ ?_
    try clear hz_
    intro hK hz0_
    refine e2_2 hz0_ ?_
    try clear hz0_
    intro vs n e9 hvs
    refine Nx.next (SP.has hl' ?_)
    have F9 := Fs _ hK
    have hO9 := F9.li.a.o
    have eD9 := hK _ _ eD8 (by first | exact nm1 nseD | exact nm1 (Ne.symm nseD) | simpa using nseD)
    rw [List.take_of_length_le (Nat.le_refl _)] at hvs
    refine SP_cons ?_
    walk_at "n"
    refine SP_use ok (parts_of_all_spec 50 F9.li.a (.inl ⟨_, _, eD9, ies⟩) tes hd F9.wf.len3 (by first | exact Nat.le_refl _ | exact leK rfl | omega)) (by first | exact Nat.le_refl _ | exact leK rfl | omega) (fun v N10 hz_ => ?_)
    refine e3_5 hz_ ?_
    try clear hz_
    intro qp vp np e hqp ep ip k10
    subst e
    walk_at "n"
    have F10 := F9.new k10
    have hO10 := F10.li.a.o
    have eD10 := k10 _ _ eD9 (by first | exact nm0 | simp)
    refine SP_neLI ok ep (LO.lst _ _) ip (k10 _ _ e9 (by first | exact nm0 | simp)) (LO.lst _ _) hvs ?_
    walk_at "n"
    refine Br.of_ff (by simp) ?_
    walk_at "n"
    refine SP_itemL eD10 (LO.lst _ _) (by decide) (by decide) rfl ?_ (by walk_at "m_rfl")
    walk_at "n"
    have ht0 := tes e0 (by simp)
    refine SP_use ok (parts_spec 50 F10.li.a ht0.1 ht0.2 hd F10.wf.len3 (by first | exact Nat.le_refl _ | exact leK rfl | omega)) (by first | exact Nat.le_refl _ | exact leK rfl | omega) (fun v N11 hz_ => ?_)
    refine e3_4 hz_ ?_
    try clear hz_
    intro qs vs1 ns e es1 is1 k11
    subst e
    walk_at "n"
    refine SP_neg (k := 1) ?_
    walk_at "n"
    refine ⟨_, rfl, fun t' => ?_⟩
    have F11 := F10.new k11
    obtain ⟨k0, hk0⟩ : ∃ k, rowOf rows e0 = some k := ⟨_, List.getElem?_eq_getElem (by omega : (e0 - 1).toNat < rows.length)⟩
    rw [dn_out hd ht0.1 (by simp) hk0] at is1
    have ls1 := is1.length
    rw [List.length_append, List.length_singleton] at ls1
    generalize hfd : k0.args.foldl (fun s x => dn rows x s) [] = fd at is1 ls1
    have hlt : (-1 + (vs1.length : Int)).toNat < vs1.length := by omega
    refine e2_2 (is1.at _ _ (List.getElem?_eq_getElem hlt)) ?_
    intro x tx ex hx
    have hv := List.getElem?_eq_getElem hlt
    rw [ex] at hv
    have hx0 : x = e0 := by
      rw [show (-1 + (vs1.length : Int)).toNat = fd.length by omega, List.getElem?_append_right (Nat.le_refl _)] at hx
      simpa using hx.symm
    subst hx0
    refine SP_itemLneg es1 (LO.lst _ _) (by decide) (by first | exact Nat.le_refl _ | exact leK rfl | omega) (by decide) hv ?_ (by walk_at "m_rfl")
    walk_at "n"
    refine SP_itemL (k11 _ _ eD10 (by first | exact nm0 | simp)) (LO.lst _ _) (by decide) (by decide) rfl ?_ (by walk_at "m_rfl")
    walk_at "n"
    refine Br.of_ff (by simp) ?_
    walk_at "n"
    refine Br.ff ?_
    walk_at "n"
    refine SP.has (l₀ := lawL K Kc tk) (by walk_at "m_has") ?_
    refine' (law_use (k := 13) (P := LawAt 400 24) h13 ?hb13) w C N11 qual fa cdv K Kc tk rows Ts Gs (spot + 1 + m) ok F11 (by first | exact Nat.le_refl _ | exact leK rfl | omega) br bT bG
    case hb13 => with_unfolding_all exact rfl

end law9_c
theorem law9 (h13 : ∃ body scope, lawFrom 13 = some (body, scope) ∧ LawAt 400 24 body scope) : ∃ body scope, lawFrom 9 = some (body, scope) ∧ LawAt 300 24 body scope :=
  ⟨law9_c.lb.1.1, law9_c.lb.1.2, law9_c.lb.2, fun w C N qual fa cdv K Kc tk rows Ts Gs spot => pickAll (P := fun q : World × Cx × Hl × Str × Addr × Value × LC × Addr × Tok × Rws × List Int × List Int × Int => law9_c.P q.1 q.2.1 q.2.2.1 q.2.2.2.1 q.2.2.2.2.1 q.2.2.2.2.2.1 q.2.2.2.2.2.2.1 q.2.2.2.2.2.2.2.1 q.2.2.2.2.2.2.2.2.1 q.2.2.2.2.2.2.2.2.2.1 q.2.2.2.2.2.2.2.2.2.2.1 q.2.2.2.2.2.2.2.2.2.2.2.1 q.2.2.2.2.2.2.2.2.2.2.2.2 law9_c.lb.1.1 law9_c.lb.1.2) (aWorld 0, ⟨callerA, {}, 0⟩, fun _ => none, Str.empty, 0, .none, ⟨⟨0, 0, [], 0, 0, 0, 0, 0, 0, 0, 0, 0, 0, 0⟩, ⟨0, 0, 0⟩, 0, 0, 0, 0, 0, []⟩, 0, 0, [], [], [], 0) (by with_unfolding_all exact law9_c.core h13) (w, C, N, qual, fa, cdv, K, Kc, tk, rows, Ts, Gs, spot)⟩
end
/-! part Lk -/
section
set_option linter.unusedVariables false
def ShapeOk (N : Hl) (rows : Rws) (v : Value) : Prop := ∃ a k, v = .ref a ∧ KeyT N a k ∧ OpOk k ∧ k ∈ rows ∧ (k.op ≠ sAnd ∧ k.op ≠ sOr) ∧ ((k.op = sNot ∨ k.op = sEq) → k.kind = 0)
theorem shapes_read {N : Hl} {rows : Rws} : ∀ {ys : List Value}, (∀ v ∈ ys, ShapeOk N rows v) → ∃ ds, RdAll N ys ds ∧ PyData.canLayAll0 ds = true ∧ PyData.depthAll ds ≤ 3 ∧ PyData.eqvAll ds [] = decide (ys = [])
  | [], _ => ⟨[], .nil, by simp [PyData.canLayAll0], by simp [PyData.depthAll], by simp [PyData.eqvAll]⟩
  | v :: ys, h => by
    refine e1_4 (shapes_read (ys := ys) fun v hv => h v (by simp [hv])) ?_
    intro ds h1 h2 h3 h4
    refine e2_4 (h v (by simp)) ?_
    intro a k hy2_ hy3_ ho _
    subst hy2_
    obtain ⟨t1, b, t2, t3, e, hb⟩ := hy3_
    have hp : RdN N (.ref a) k.py := .tup e (.cons (.str _ _) (.cons (.tupI hb) (.cons (.int _ _) (.cons (.int _ _) .nil))))
    refine ⟨k.py :: ds, .cons hp h1, by simp [PyData.canLayAll0, h2, canLay_sh ho], ?_, by simp [PyData.eqvAll]⟩
    have := depth_sh k
    simp only [PyData.depthAll]
    omega
theorem ShapeOk.keep {N N' : Hl} {rows : Rws} {v : Value} (h : ShapeOk N rows v) (k : TupKeep N N') : ShapeOk N' rows v := by
  refine e2_3 h ?_
  try clear h
  intro a k' e hk r
  exact ⟨a, k', e, hk.keep k, r⟩
namespace law13_c
def P (w : World) (C : Cx) (N : Hl) (qual : Str) (fa : Addr) (cdv : Value) (K : LC) (Kc : Addr) (tk : Tok) (rows : Rws) (Ts : List Int) (Gs : List Int) (spot : Int) (body : List Stmt) (scope : Scope) : Prop := Ok w C (envOfC qual scope C.L fa cdv) 60 → Fst w C K Kc N spot rows Ts Gs → spot ≤ 400 → rows.length ≤ 24 → Ts.length ≤ 24 → Gs.length ≤ 24 → SP w C (execs body (envOfC qual scope C.L fa cdv)) (lawL K Kc tk) N (fun f l N' => f = .ret (.bool true))
@[reducible] noncomputable def lb : {x : List Stmt × Scope // lawFrom 13 = some x} := ⟨_, by with_unfolding_all exact rfl⟩
noncomputable def V : World × Cx × Hl × Str × Addr × Value × LC × Addr × Tok × Rws × List Int × List Int × Int := pick (aWorld 0, ⟨callerA, {}, 0⟩, fun _ => none, Str.empty, 0, .none, ⟨⟨0, 0, [], 0, 0, 0, 0, 0, 0, 0, 0, 0, 0, 0⟩, ⟨0, 0, 0⟩, 0, 0, 0, 0, 0, []⟩, 0, 0, [], [], [], 0) fun q => P q.1 q.2.1 q.2.2.1 q.2.2.2.1 q.2.2.2.2.1 q.2.2.2.2.2.1 q.2.2.2.2.2.2.1 q.2.2.2.2.2.2.2.1 q.2.2.2.2.2.2.2.2.1 q.2.2.2.2.2.2.2.2.2.1 q.2.2.2.2.2.2.2.2.2.2.1 q.2.2.2.2.2.2.2.2.2.2.2.1 q.2.2.2.2.2.2.2.2.2.2.2.2 lb.1.1 lb.1.2
@[irreducible] noncomputable def w : World := V.1
@[irreducible] noncomputable def C : Cx := V.2.1
@[irreducible] noncomputable def N : Hl := V.2.2.1
@[irreducible] noncomputable def qual : Str := V.2.2.2.1
@[irreducible] noncomputable def fa : Addr := V.2.2.2.2.1
@[irreducible] noncomputable def cdv : Value := V.2.2.2.2.2.1
@[irreducible] noncomputable def K : LC := V.2.2.2.2.2.2.1
@[irreducible] noncomputable def Kc : Addr := V.2.2.2.2.2.2.2.1
@[irreducible] noncomputable def tk : Tok := V.2.2.2.2.2.2.2.2.1
@[irreducible] noncomputable def rows : Rws := V.2.2.2.2.2.2.2.2.2.1
@[irreducible] noncomputable def Ts : List Int := V.2.2.2.2.2.2.2.2.2.2.1
@[irreducible] noncomputable def Gs : List Int := V.2.2.2.2.2.2.2.2.2.2.2.1
@[irreducible] noncomputable def spot : Int := V.2.2.2.2.2.2.2.2.2.2.2.2
set_option maxHeartbeats 4000000 in
theorem core  : P w C N qual fa cdv K Kc tk rows Ts Gs spot lb.1.1 lb.1.2 := by
  unfold P
  intro ok F0 bs br bT bG
  refine SP_cons ?_
  refine SP_AssignComp ok ?_ (by walk_at "m_rfl") (by walk_at "m_rfl") (by decide) rfl (by decide) rfl (by walk_at "m_rfl") (fun _ => rfl)
  walk_at "n"
  refine SP_sItem F0.li.b.dicB (bookF_rows K.B) ?_ (by walk_at "m_rfl")
  refine e2_3 F0.li.b.row ?_
  intro nr ks hr hlen hks
  refine SP_compL ok (fun i ys N' => Keep [] N N' ∧ (∀ v ∈ ys, ShapeOk N rows v) ∧ ys.length ≤ i) hr (LO.lst _ _) (by first | exact Nat.le_refl _ | exact leK rfl | omega) ⟨Keep.refl _ _, by simp, by simp⟩ ?_ ?_ ?_ ?_
  · intro I D Cc hI hD hC i ys N₁ N₂ hk hz_
    refine e0_2 hz_ ?_
    try clear hz_
    intro a b
    exact ⟨fun x o e hn => hk x o (a x o e hn) (nin3 hI hD hC e), b⟩
  · intro i ys N' hz_
    refine e0_2 hz_ ?_
    try clear hz_
    intro hK _
    exact ⟨_, hK _ _ hr (by first | exact nm0 | simp), LO.lst _ _⟩
  · intro I D Cc i v ys N1 oI oC m hI hD hC nD nC nDC hv eI eD eC hm hmx hz_
    refine e0_3 hz_ ?_
    try clear hz_
    intro hK hS hyl
    have hir : i < rows.length := by have := (List.getElem?_eq_some_iff.mp hv).1; omega
    have hk := List.getElem?_eq_getElem hir
    generalize rows[i] = k at hk
    refine e1_3 (hks i k hk) ?_
    intro a ha hkey hok
    rw [ha] at hv; cases hv
    have hkm : k ∈ rows := List.mem_of_getElem? hk
    refine e4_2 (id hkey) ?_
    intro u1 b u2 u3 eA hB
    have eA1 := hK _ _ eA (by first | exact nm0 | simp)
    have hB1 := hB.keep (hK.tup (by simp))
    refine SP_tests1 ?_
    walk_at "mc"
    refine SP_localC (Ok.nm ok rfl _ _) (by walk_at "m_rfl") eC hm hmx ?_ (by decide)
    walk_at "mc"
    refine SP_itemT eA1 (by decide) (by decide) rfl ?_ (by walk_at "m_rfl")
    walk_at "mc"
    refine SP_newTuple (fun q2 hq2 => ?_) (sz (by simp))
    refine SP.gen1 hq2 fun N2 k2 e2 => ?_
    refine SP_neT ok (hB1.keep (k2.tup (by simp))) ⟨_, e2, .nil⟩ ?_
    walk_at "mc"
    have eI2 := k2 _ _ eI (by first | exact nm0 | simp)
    have eD2 := k2 _ _ eD (by first | exact nm0 | simp)
    have eC2 := k2 _ _ eC (by first | exact nm0 | simp)
    have eA2 := k2 _ _ eA1 (by first | exact nm0 | simp)
    by_cases hne : k.args = []
    · refine Br.of_ff (by first | exact nm1 hne | exact nm1 (Ne.symm hne) | simpa using hne) ?_
      exact ⟨rfl, Br.ff ⟨rfl, eI2, eD2, eC2, hK.trans k2, hS, by omega⟩⟩
    · refine Br.of_tt (by first | exact nm1 hne | exact nm1 (Ne.symm hne) | simpa using hne) ?_
      walk_at "mc"
      refine SP_localC (Ok.nm ok rfl _ _) (by walk_at "m_rfl") eC2 hm hmx ?_ (by decide)
      walk_at "mc"
      refine SP_itemT eA2 (by decide) (by decide) rfl ?_ (by walk_at "m_rfl")
      walk_at "mc"
      refine SP_newTuple (fun q3 hq3 => ?_) (sz (by simp))
      refine SP.gen1 hq3 fun N3 k3 e3 => ?_
      refine SP_notInStrs e3 (.cons sAnd _ (.cons sOr _ .nil)) ?_
      walk_at "mc"
      have eI3 := k3 _ _ eI2 (by first | exact nm0 | simp)
      have eD3 := k3 _ _ eD2 (by first | exact nm0 | simp)
      have eC3 := k3 _ _ eC2 (by first | exact nm0 | simp)
      by_cases hao : k.op ≠ sAnd ∧ k.op ≠ sOr
      · refine Br.of_tt (by first | exact nm1 hao | exact nm1 (Ne.symm hao) | simpa using hao) ?_
        walk_at "mc"
        refine ⟨rfl, Br.tt ?_⟩
        refine SP_localC (Ok.nm ok rfl _ _) (by walk_at "m_rfl") eC3 hm hmx ?_ (by decide)
        refine ⟨rfl, eI3, eD3, eC3, (hK.trans k2).trans k3, ?_, by simp; omega⟩
        intro v hv
        rcases List.mem_append.mp hv with hv | hv
        · exact hS v hv
        · rw [List.mem_singleton] at hv; subst hv
          exact ⟨a, k, rfl, hkey, hok, hkm, hao, F0.k0 k hkm⟩
      · refine Br.of_ff (by first | exact nm1 hao | exact nm1 (Ne.symm hao) | simpa using hao) ?_
        exact ⟨rfl, Br.ff ⟨rfl, eI3, eD3, eC3, (hK.trans k2).trans k3, hS, by omega⟩⟩
  rintro D ys N6 hD ⟨hK, hS, hyl⟩ eD
  refine Nx.next ?_
  have F6 := F0.new hK
  have nD := F0.li.fresh hD
  have hS6 : ∀ v ∈ ys, ShapeOk N6 rows v := fun v hv => (hS v hv).keep (hK.tup (by simp))
  clear hS hK
  have sp0 := F0.sp0
  refine SP_cons ?_
  refine SP_For ok (by walk_at "m_rfl") ?_ (fun _ => rfl)
  walk_at "n"
  refine SP_range fun q8 u8 v8 hq8 => ?_
  refine SP.gen1 hq8 fun N8 k8 eq8 => ?_
  have F8 := F6.new k8
  have eD8 := k8 _ _ eD (by first | exact nm0 | simp)
  have hS8 : ∀ v ∈ ys, ShapeOk N8 rows v := fun v hv => (hS6 v hv).keep (k8.tup (by simp))
  clear hS6 F6 F0 eD
  have subA : ∀ a ∈ [K.feed, K.B.r, K.B.d] ++ K.A.mut, a ∈ K.all := by
    intro a ha
    rcases List.mem_append.mp ha with ha | ha
    · simp only [List.mem_cons, List.not_mem_nil, or_false] at ha
      (rcases ha with ha | ha | ha <;> subst a) <;> simp [LC.all]
    · exact mut_all K a ha
  have ntA : ∀ a ∈ [K.feed, K.B.r, K.B.d] ++ K.A.mut, ∃ o, N8 a = some o ∧ o.cls ≠ .type "tuple" := by
    intro a ha
    rcases List.mem_append.mp ha with ha | ha
    · simp only [List.mem_cons, List.not_mem_nil, or_false] at ha
      (rcases ha with ha | ha | ha <;> subst a)
      · exact F8.li.fd.nt _ (by simp)
      · exact F8.li.b.nt _ (by simp)
      · exact F8.li.b.nt _ (by simp)
    · exact F8.li.a.nt a ha
  refine e1_2 F8.cf ?_
  intro of ef df
  refine e1_2 F8.ct ?_
  intro ot et dt
  refine e1_2 F8.cg ?_
  intro og eg dg
  refine SP_iterR ok ((Str.ofString "some", .ref D) :: lawL K Kc tk) (fun i N' => Keep ([K.feed, K.B.r, K.B.d] ++ K.A.mut) N8 N' ∧ ∃ rows' spot', LI w K N' spot' rows' rows' Ts Gs ∧ WF rows' ∧ (∀ k ∈ rows, k ∈ rows') ∧ (∀ t ∈ Ts, Typed rows' 0 t) ∧ (∀ t ∈ Gs, Typed rows' 3 t) ∧ rows'.length ≤ rows.length + i ∧ 0 ≤ spot' ∧ spot' ≤ spot + 4 * (i : Int))
    (n := 3) eq8 (by decide) (by walk_at "m_has") (by exact rfl) ⟨Keep.refl _ _, rows, spot, F8.li, F8.wf, fun _ h => h, F8.tT, F8.tG, by omega, sp0, by omega⟩ ?_ ?_ ?_
  · intro I hI i N₁ N₂ ho hz_
    refine e0_2 hz_ ?_
    try clear hz_
    intro hK hz0_
    refine e2_2 hz0_ ?_
    try clear hz0_
    intro rows' spot' L b
    refine ⟨fun a o ea hna => ho.2 a o (hK a o ea hna) ?_, rows', spot', L.off (Cs.k (F8.ne hI)) ho, b⟩
    (first | exact neH ea hI (by intro e_; cases e_) | exact Ne.symm (neH ea hI (by intro e_; cases e_)) | (rintro rfl; rw [hI] at ea; cases ea))
  · intro I oI i tki N1 hI hi ie hIo hz_
    refine e0_2 hz_ ?_
    try clear hz_
    intro hK hz0_
    refine e2_8 hz0_ ?_
    try clear hz0_
    intro rows' spot' L wf' sub' tT' tG' rl' s0' s1'
    have nI := F8.ne hI
    have off : ∀ a, a ∉ K.all → a ∉ [K.feed, K.B.r, K.B.d] ++ K.A.mut := fun a h q => h (subA a q)
    have eD1 := hK _ _ eD8 (off _ nD)
    have hS1 : ∀ v ∈ ys, ShapeOk N1 rows v := fun v hv => (hS8 v hv).keep (hK.tup ntA)
    have ef1 := hK _ _ ef (off _ (F8.off _ (by simp)))
    have et1 := hK _ _ et (off _ (F8.off _ (by simp)))
    have eg1 := hK _ _ eg (off _ (F8.off _ (by simp)))
    refine e1_4 (shapes_read hS1) ?_
    intro ds rd rl rdp req
    refine SP_cons ?_
    walk_at "n"
    refine SP_newList (fun q2 hq2 => ?_) (sz (by simp))
    refine SP.gen1 hq2 fun N2 k2 e2 => ?_
    have tk2 : TupKeep N1 N2 := k2.tup (by simp)
    have eD2 := k2 _ _ eD1 (by first | exact nm0 | simp)
    have hS2 : ∀ v ∈ ys, ShapeOk N2 rows v := fun v hv => (hS1 v hv).keep tk2
    refine e1_4 (shapes_read hS2) ?_
    intro ds rd rl rdp req
    refine SP_neR ok (dx := .list ds) (dy := .list []) (.list eD2 (LO.lst _ _) rd) (.list e2 (LO.lst _ _) .nil) (by rw [PyData.canLay0]; exact rl) (by simp [PyData.canLay0, PyData.canLayAll0]) (by rw [PyData.depth]; omega) ?_
    rw [PyData.eqv, req]
    walk_at "n"
    have L2 := L.new k2
    have K2 := hK.trans (k2.sub (by simp))
    by_cases hy : ys = []
    · refine Br.of_ff (by first | exact nm1 hy | exact nm1 (Ne.symm hy) | simpa using hy) ?_
      walk_at "n"
      exact TurnEnd.next (k2 _ _ hIo (by first | exact nm0 | simp)) ⟨by walk_at "m_has", K2, rows', spot', L2, wf', sub', tT', tG', by omega, s0', by omega⟩
    · refine Br.of_tt (by first | exact nm1 hy | exact nm1 (Ne.symm hy) | simpa using hy) ?_
      have ypos : 0 < ys.length := List.length_pos_iff.mpr hy
      have ef2 := k2 _ _ ef1 (by first | exact nm0 | simp)
      have et2 := k2 _ _ et1 (by first | exact nm0 | simp)
      have eg2 := k2 _ _ eg1 (by first | exact nm0 | simp)
      refine SP_cons ?_
      walk_at "n"
      refine SP_lenL eD2 (LO.lst _ _) (by first | exact Nat.le_refl _ | exact leK rfl | omega) fun tl1 => ?_
      walk_at "n"
      refine SP_use ok (dip_spec 50 L2.fd s0' (by first | exact Nat.le_refl _ | exact leK rfl | omega) (by first | exact Nat.le_refl _ | exact leK rfl | omega)) (by first | exact Nat.le_refl _ | exact leK rfl | omega) (fun v N3 hz_ => ?_)
      refine e2_5 hz_ ?_
      try clear hz_
      intro res tr e r0 r1 hf3 k3
      subst e
      have L3 := L2.feed k3 hf3
      have tk3 : TupKeep N2 N3 := k3.tup L2.fd.nt
      have k3A : Keep K.all N2 N3 := k3.sub (feed_all K)
      have eD3 := k3A _ _ eD2 nD
      have ef3 := k3A _ _ ef2 (F8.off _ (by simp))
      have et3 := k3A _ _ et2 (F8.off _ (by simp))
      have eg3 := k3A _ _ eg2 (F8.off _ (by simp))
      have hlt : res.toNat < ys.length := by omega
      have hv := List.getElem?_eq_getElem hlt
      refine e2_6 ((hS2 _ (List.getElem_mem hlt)).keep tk3) ?_
      intro a k ea hkey hok hkm hao hk0
      rw [ea] at hv
      refine e4_2 hkey ?_
      try clear hkey
      intro u1 b u2 u3 eA3 hB3
      walk_at "n"
      refine SP_itemL eD3 (LO.lst _ _) r0 (by first | exact Nat.le_refl _ | exact leK rfl | omega) hv ?_ (by walk_at "m_rfl")
      walk_at "n"
      refine SP_cons ?_
      walk_at "n"
      refine SP_isTrue ?_ (by walk_at "m_rfl")
      walk_at "n"
      refine SP_itemT eA3 (by decide) (by decide) rfl ?_ (by walk_at "m_rfl")
      walk_at "n"
      refine SP_itemT eA3 (by decide) (by decide) rfl ?_ (by walk_at "m_rfl")
      walk_at "n"
      refine SP_itemT eA3 (by decide) (by decide) rfl ?_ (by walk_at "m_rfl")
      walk_at "n"
      refine SP_itemT eA3 (by decide) (by decide) rfl ?_ (by walk_at "m_rfl")
      walk_at "n"
      refine SP_newTuple (fun q4 hq4 => ?_) (sz (by simp))
      refine SP.gen1 hq4 fun N4 k4 e4 => ?_
      have L4 := L3.new k4
      have tk4 : TupKeep N3 N4 := k4.tup (by simp)
      walk_at "n"
      refine SP_use ok (is_again_spec 50 L4 wf' (by first | exact Nat.le_refl _ | exact leK rfl | omega) (by first | exact Nat.le_refl _ | exact leK rfl | omega) (by first | exact Nat.le_refl _ | exact leK rfl | omega) tT' tG' F8.pT F8.pG (by first | exact Nat.le_refl _ | exact leK rfl | omega) (by first | exact Nat.le_refl _ | exact leK rfl | omega) e4 (k4 _ _ eA3 (by first | exact nm0 | simp)) (hB3.keep tk4) (sub' k hkm) hao hk0) (by first | exact Nat.le_refl _ | exact leK rfl | omega) (fun v N5 hz_ => ?_)
      refine e0_2 hz_ ?_
      try clear hz_
      intro e hz0_
      refine e2_6 hz0_ ?_
      try clear hz0_
      intro rows2 spot2 L5 wf5 ex5 s5 s6 k5
      subst e
      walk_at "n"
      refine Br.ff ?_
      walk_at "n"
      have xl := ex5.len
      have k35 : Keep ([K.feed, K.B.r, K.B.d] ++ K.A.mut) N1 N5 := (((k2.sub (by simp)).trans (k3.sub (by simp))).trans (k4.sub (by simp))).trans k5
      refine TurnEnd.next (k35 _ _ hIo (off _ (Cs.k nI))) ⟨by walk_at "m_has", hK.trans k35, rows2, spot2, L5, wf5, fun x hx => ?_, fun t ht => (tT' t ht).ext ex5, fun t ht => (tG' t ht).ext ex5, by omega, by omega, by omega⟩
      refine e1_2 ex5 ?_
      try clear ex5
      intro y ey _
      rw [ey]
      exact List.mem_append_left _ (sub' x hx)
  · rintro l' N9 hl' _
    refine Nx.next (SP.has hl' ?_)
    refine SP_cons ?_
    walk_at "n"
    rfl

end law13_c
theorem law13 : ∃ body scope, lawFrom 13 = some (body, scope) ∧ LawAt 400 24 body scope :=
  ⟨law13_c.lb.1.1, law13_c.lb.1.2, law13_c.lb.2, fun w C N qual fa cdv K Kc tk rows Ts Gs spot => pickAll (P := fun q : World × Cx × Hl × Str × Addr × Value × LC × Addr × Tok × Rws × List Int × List Int × Int => law13_c.P q.1 q.2.1 q.2.2.1 q.2.2.2.1 q.2.2.2.2.1 q.2.2.2.2.2.1 q.2.2.2.2.2.2.1 q.2.2.2.2.2.2.2.1 q.2.2.2.2.2.2.2.2.1 q.2.2.2.2.2.2.2.2.2.1 q.2.2.2.2.2.2.2.2.2.2.1 q.2.2.2.2.2.2.2.2.2.2.2.1 q.2.2.2.2.2.2.2.2.2.2.2.2 law13_c.lb.1.1 law13_c.lb.1.2) (aWorld 0, ⟨callerA, {}, 0⟩, fun _ => none, Str.empty, 0, .none, ⟨⟨0, 0, [], 0, 0, 0, 0, 0, 0, 0, 0, 0, 0, 0⟩, ⟨0, 0, 0⟩, 0, 0, 0, 0, 0, []⟩, 0, 0, [], [], [], 0) (by with_unfolding_all exact law13_c.core ) (w, C, N, qual, fa, cdv, K, Kc, tk, rows, Ts, Gs, spot)⟩
end
/-! part Fin -/
section
theorem law_all : ∃ body scope, lawFrom 0 = some (body, scope) ∧ LawSP body scope := law_walk (law4 (law7 (law8 (law9 law13))))
theorem finish {w : World} {h₀ : Heap} {body : List Stmt} {scope : Scope} (hb : lawFrom 0 = some (body, scope)) (hk : scope.kind = .function) {qual : Str} {fa : Addr} {cdv : Value} {s : Shared} {m : Str → Option Value} {sa : Addr} {vs : List Value} {ns : List Int} {o1 o2 o3 : Obj}
    (KX : (KH w.params).In h₀) (T : ∃ p loose mean mg mb, Top p loose mean mg mb h₀)
    (F : Fr h₀ h₀.objs.size s.heap m) (hm : m (Str.ofString "script") = some (.ref sa)) (N0 : News h₀ h₀.objs.size s.heap [(h₀.objs.size + 1 + 1 + 1, o3), (h₀.objs.size + 1 + 1, o2), (h₀.objs.size + 1, o1)])
    (d1 : o1.data = .cell none) (d2 : o2.data = .cell none) (d3 : o3.data = .cell none) (hsc : h₀.IsList sa vs.toArray) (hi : IntsAre vs ns) (hlen : ns.length ≤ 63)
    {R : Flow → Shared → Prop} {E : Value → Shared → Prop} (k : ∀ h' tk' m', Fr h₀ h₀.objs.size h' m' → R (.ret (.bool true)) { s with heap := h', toks := tk' }) :
    wpAny (model PG w) (callerA.deeper (envOfC qual scope h₀.objs.size fa cdv)) (execs body (envOfC qual scope h₀.objs.size fa cdv)) R E s := by
  have hz : sysModules < h₀.objs.size := by obtain ⟨_, _, _, _, _, T⟩ := T; obtain ⟨oM, _, _, hM, _⟩ := T.g; exact Nat.lt_trans (by decide) (Heap.lt_size hM)
  have ok : Ok w ⟨callerA.deeper (envOfC qual scope h₀.objs.size fa cdv), h₀, h₀.objs.size⟩ (envOfC qual scope h₀.objs.size fa cdv) 60 :=
    ⟨rfl, rfl, hk, rfl, rfl, ⟨callerA, h₀, [], below_caller h₀, Around.frames_deeper rfl⟩, KX, T, rfl, by show (301 + 1 + 60 : Nat) ≤ 900; decide, by show (4 + 3 + 8 * 60 : Nat) ≤ 9000; decide⟩
  have n12 : h₀.objs.size + 1 ≠ h₀.objs.size + 1 + 1 := by omega
  have n13 : h₀.objs.size + 1 ≠ h₀.objs.size + 1 + 1 + 1 := by omega
  have n23 : h₀.objs.size + 1 + 1 ≠ h₀.objs.size + 1 + 1 + 1 := by omega
  let N : Hl := upd (upd (upd (fun _ => none) (h₀.objs.size + 1 + 1 + 1) o3) (h₀.objs.size + 1 + 1) o2) (h₀.objs.size + 1) o1
  have e1 : N (h₀.objs.size + 1) = some o1 := upd_self ..
  have e2 : N (h₀.objs.size + 1 + 1) = some o2 := (upd_ne n12.symm).trans (upd_self ..)
  have e3 : N (h₀.objs.size + 1 + 1 + 1) = some o3 := (upd_ne n13.symm).trans ((upd_ne n23.symm).trans (upd_self ..))
  have hN : Led h₀ h₀.objs.size s.heap N := by
    have key : ∀ a o, N a = some o → (a, o) ∈ [(h₀.objs.size + 1 + 1 + 1, o3), (h₀.objs.size + 1 + 1, o2), (h₀.objs.size + 1, o1)] := by
      intro a o e
      by_cases c1 : a = h₀.objs.size + 1
      · subst c1; rw [e1] at e; cases e; simp
      · by_cases c2 : a = h₀.objs.size + 1 + 1
        · subst c2; rw [e2] at e; cases e; simp
        · by_cases c3 : a = h₀.objs.size + 1 + 1 + 1
          · subst c3; rw [e3] at e; cases e; simp
          · have : N a = none := (upd_ne c1).trans ((upd_ne c2).trans (upd_ne c3))
            rw [this] at e; cases e
    intro a o e
    have hmem := key a o e
    have x := N0 _ hmem
    refine ⟨x.1, x.2.1, x.2.2, ?_⟩
    simp only [List.mem_cons, Prod.mk.injEq, List.not_mem_nil, or_false] at hmem
    rcases hmem with h | h | h <;> rw [h.1]
    · exact Nat.lt_of_lt_of_le hz (Nat.le_add_right _ 3)
    · exact Nat.lt_of_lt_of_le hz (Nat.le_add_right _ 2)
    · exact Nat.lt_of_lt_of_le hz (Nat.le_add_right _ 1)
  have hl : Loc h₀ h₀.objs.size s.heap [(Str.ofString "script", .ref sa)] := by
    refine ⟨m, F, ?_, hz⟩
    intro x v e
    rw [List.lookup_cons] at e
    split at e
    · rename_i hx
      cases e
      rw [eq_of_beq hx]; exact hm
    · cases e
  have L := law_use (k := 0) (P := LawSP) law_all hb w ⟨callerA.deeper (envOfC qual scope h₀.objs.size fa cdv), h₀, h₀.objs.size⟩ N qual fa cdv sa vs ns o1 o2 o3 ok e1 d1 e2 d2 e3 d3 hsc hi (by rw [hi.length]; exact hlen)
  refine wpAny_mono (L s hl hN) (fun f s' hp => ?_) (fun _ _ e => e.elim)
  refine e4_4 hp ?_
  try clear hp
  intro h' tk' l' N'' hy4_ hy5_ _ hy7_
  subst hy4_
  obtain ⟨m', F', _⟩ := hy5_
  subst hy7_
  exact k h' tk' m' F'
set_option maxHeartbeats 8000000 in
theorem tj : PySem.Challenge.rw_nz0140_01.Holds := by
  refine holds_law said fun sd => ?_
  refine holds_open (q := q) (loose := loose) (Xt := fun s => xlAt q [] s && recOk (RowW.records PySem.Challenge.rw_nz0140_01.row.toRowW) s) (XP := XL q []) (Yf := HK.obs) (Ya := HK.val) (YP := HK.says) (N := 4000) left (Hook.of HK) (Hook.keeps HK) (fun s e => xl_of s (Bool.and_eq_true_iff.mp e).1) XL.keeps (by rfl) (by rfl) (by rfl) (fun s e => recFacts_of (Bool.and_eq_true_iff.mp e).2) (by rfl) (by first | assumption | decide +kernel) (by decide +kernel) ⟨rfl, rfl, rfl, rfl, rfl, by decide +kernel⟩ ?hw ?hc
  case hw => w_witness2
  case hc =>
    intro w s₀ s₁ mg mb G Y fa o pm cd doc dV kV ho hd hcd hD hmg hg args vals as hpre hlay hrd hwl hlo
    have KX := kIn_of Y
    have T := G.T
    clear hmg
    wrow_args hpre hlay hrd hwl hlo
    refine enter_call ?_
    w_top on
    try refine codeAny_mono ?_ (fun _ _ g => GoodW.toG g)
    w_call any ho hd hcd hD T F
    rename_i ns hs hlay0 hL0 hr0 hl2 l1 l2 sa vs l3 hL ra w1 r0 hI hr hcond hcond2 h1 tk1 o3 o2 o1 d3 d2 d1 N0 X0
    refine finish (by with_unfolding_all exact rfl) (by exact rfl) KX ⟨_, _, _, _, _, T⟩ F (by with_unfolding_all exact rfl) N0 (by with_unfolding_all exact d1) (by with_unfolding_all exact d2) (by with_unfolding_all exact d3) hL hI (by first | exact Nat.le_refl _ | exact leK rfl | omega) (fun h' tk' m' F' => goodW_bool F' hg (raisesW_false ?_) ?_)
    · wrow_none_raised
    · wrow_post
end
end Mine
theorem PySem.Challenge.cw_nz0140_01_holds : PySem.Challenge.rw_nz0140_01.Holds :=
  Mine.tj
