import PyProof.Rows.All
import Wide.All
import Open.Line
import Open.Boot
import Open.Tree
import OpenK.AllK
import Wide.FinOn
import KE.KIsNot
import Lean
import PySem.Challenge.RW_pb0516_01
open PySem PySem.W PyProof.Rows PySem.Calls
set_option Elab.async false
set_option linter.unusedVariables false
set_option maxRecDepth 100000
set_option compiler.extract_closed false
namespace Mine
def topRunT (tb : String → Option Builtin) (p : Program) (w : World) (n₀ : Nat) (ann : Option Value) : Nat → SharedT → Thread → Option SharedT
  | 0, _, _ => none
  | n + 1, s, t => match through t with
    | true => some s
    | false => match stepOk n₀ ann t with
      | false => none
      | true => match stepT (denote tb) p w s t with
        | some (s', t') => topRunT tb p w n₀ ann n s' t'
        | none => none
theorem topRun_of {tb : String → Option Builtin} {p : Program} {w : World} {n₀ : Nat} {ann : Option Value} : ∀ {n : Nat} {s s' : SharedT} {t : Thread},
    topRunT tb p w n₀ ann n s t = some s' → topRun tb p w n₀ ann n s.abs t = some s'.abs
  | 0, _, _, _, h => by cases h
  | n + 1, s, s', t, h => by
    unfold topRunT at h
    unfold topRun
    cases he : through t with
    | true => rw [he] at h; cases h; rfl
    | false =>
      rw [he] at h
      cases hk : stepOk n₀ ann t with
      | false => rw [hk] at h; cases h
      | true =>
        rw [hk] at h
        cases hs : stepT (denote tb) p w s t with
        | none => rw [hs] at h; cases h
        | some r => obtain ⟨s₂, t₂⟩ := r; rw [hs] at h; rw [stepT_spec hs]; exact topRun_of h
theorem left_of_tree {p q : Program} {loose : List Str} {Xt : Shared → Bool} {α : Type} {Yf : Shared → α} {Ya : World → α} {N : Nat} {g0 : Bool} {H₀ : Params → BT} {n₀ : Nat} {life : Life} {gs₀ : Array GenState} {d₀ : Drawn} {k₀ : Nat} {ann : Option Value}
    (open_ : ∀ w : World, (fencedOpening treeTable p w N).map (fun s => (s.heap, s.gens, s.drawn, s.toks)) = some (absHeap (H₀ w.params) n₀ life, gs₀, d₀, k₀))
    (size : ∀ w : World, ((absHeap (H₀ w.params) n₀ life).isNs mainGlobals && gs₀.size == 0, (absHeap (H₀ w.params) n₀ life).nsMap mainGlobals "__annotations__") = (true, ann))
    (run : ∀ w : World, (fun os => (topRunT treeTable p w n₀ ann N ⟨H₀ w.params, n₀, life, gs₀, d₀, k₀, os⟩ (topStub p)).map fun s =>
        ((staticsOk (importedModules p.main.body) (absHeap (H₀ w.params) n₀ life) s.abs.heap && namesBound p s.abs.heap && gensDone s.abs && laidKept (absHeap (H₀ w.params) n₀ life) s.abs.heap),
          openSeen q loose (importedModules p.main.body) Xt g0 s.abs, Yf s.abs)) = fun _ => some (true, openGood q loose, Ya w)) : LeftO p q loose Xt Yf Ya N g0 := fun w => by
  obtain ⟨⟨h, gs, d, k, os⟩, e, e'⟩ := Option.map_eq_some_iff.mp (open_ w)
  obtain ⟨rfl, rfl, rfl, rfl⟩ : h = absHeap (H₀ w.params) n₀ life ∧ gs = gs₀ ∧ d = d₀ ∧ k = k₀ := by simpa using e'
  obtain ⟨z1, z3⟩ : _ ∧ _ := by simpa only [Prod.mk.injEq] using size w
  have r := congrFun (run w) os
  obtain ⟨s, rs, l⟩ := Option.map_eq_some_iff.mp r
  obtain ⟨l1, l2, l3⟩ : _ ∧ _ ∧ _ := by simpa only [Prod.mk.injEq] using l
  have rr := topRun_of rs
  have t : topFrom treeTable p w N ⟨absHeap (H₀ w.params) n₀ life, gs, d, k, os⟩ = some s.abs := by
    unfold topFrom
    dsimp only
    rw [z1, z3, absHeap_size]
    rw [show (SharedT.abs ⟨H₀ w.params, n₀, life, gs, d, k, os⟩) = ⟨absHeap (H₀ w.params) n₀ life, gs, d, k, os⟩ from rfl] at rr
    rw [rr]
    show (match staticsOk (importedModules p.main.body) (absHeap (H₀ w.params) n₀ life) s.abs.heap && namesBound p s.abs.heap && gensDone s.abs && laidKept (absHeap (H₀ w.params) n₀ life) s.abs.heap with | true => _ | false => _) = _
    rw [l1]
  unfold openEnds
  rw [e]
  show (topFrom treeTable p w N _).map _ = _
  rw [t]
  exact congrArg some (Prod.ext l2 l3)
end Mine
namespace Mine
noncomputable abbrev pw : Program := PySem.Challenge.pw_pb0516_01
noncomputable def stT (i : Nat) : Stmt := pw.main.body.getD i (.Pass default)
noncomputable def stM (i j : Nat) : Stmt := match stT i with
  | .ClassDef _ _ _ b _ _ _ _ _ _ _ => b.getD j (.Pass default)
  | s => s
noncomputable def nmOf : Stmt → Str
  | .FunctionDef n .. => n
  | _ => Str.ofString ""
noncomputable def argsOf : Stmt → Arguments
  | .FunctionDef _ a .. => a
  | _ => default
noncomputable def bodyOf : Stmt → List Stmt
  | .FunctionDef _ _ b .. => b
  | _ => []
noncomputable def scopeOf : Stmt → Scope
  | .FunctionDef _ _ _ _ _ _ sc .. => sc
  | _ => default
noncomputable def fnD (st : Stmt) (qual : Str) (dV kV doc pm : Value) (an : Option Addr) (cd ct : Value) : FuncData :=
  { name := nmOf st, qualname := qual, params := argsOf st, body := .stmts (bodyOf st), scope := scopeOf st, globals := mainGlobals, closure := [], defaults := dV, kwdefaults := kV, doc := doc, pyModule := pm, annotations := an, code := cd, closureTuple := ct, builtins := builtinsNs }
noncomputable def en (P : Params) (k : Str) (t : Tok) (v : Value) : DictEntry := ⟨PyData.keyHash P k, .str k t, v⟩
noncomputable def KAs : List Addr := [3, 62, 68, 69, 71, 72, 92, 93, 110, 111, 113, 114, 131, 132, 134, 135, 145, 146, 147, 153, 154, 160, 161, 167, 168, 169, 175, 176, 177, 183, 184, 190, 191, 204, 205, 211, 212, 218, 219, 225, 226, 232, 233, 246, 247, 253, 254, 260, 261, 267, 268, 274, 275, 288, 289, 302, 303, 309, 310, 314, 315, 321, 322, 323, 329, 330, 336, 337, 343, 344, 352, 358, 359, 361, 362, 400, 401, 407, 408, 409, 415, 416, 422, 423, 429, 430, 450, 451, 460, 461, 478, 479, 485, 486, 492, 493, 499, 500, 544, 545, 642, 643, 651, 652, 665, 666, 672, 673, 679, 680, 686, 687, 691, 692, 698, 699, 703, 704, 710, 711, 715, 716, 720, 721, 725, 726]
noncomputable def KK (P : Params) : Frag := [
  (3, ⟨(.type "dict"), none, .dict [en P "__name__" 165 (.str "law_pb0516_01" 1098), en P "__doc__" 166 .none, en P "__package__" 167 .none, en P "__loader__" 168 (.builtin "__main__.__loader__#opaque"), en P "__spec__" 169 .none, en P "__annotations__" 170 (.ref 6), en P "__builtins__" 171 (.ref 4), en P "__file__" 173 (.str "/claim/cut.py" 172), en P "__cached__" 174 .none, en P "_wall" 193 (.ref 21), en P "GRAIN" 197 (.int 1000000 196), en P "PostError" 226 (.ref 39), en P "PsError" 242 (.ref 52), en P "READ_ONLY" 246 (.int 2 245), en P "UNLIMITED" 248 (.int 3 247), en P "Thing" 283 (.ref 72), en P "Text" 318 (.ref 93), en P "Row" 353 (.ref 114), en P "Span" 386 (.ref 135), en P "integer" 393 (.ref 146), en P "name" 401 (.ref 154), en P "operator_thing" 408 (.ref 161), en P "null" 414 (.ref 168), en P "of_row" 423 (.ref 176), en P "of_packed" 431 (.ref 184), en P "is_number" 438 (.ref 191), en P "in_millionths" 445 (.ref 198), en P "is_in_array" 452 (.ref 205), en P "is_proc" 459 (.ref 212), en P "body_of" 466 (.ref 219), en P "is_local" 474 (.ref 226), en P "access_of" 481 (.ref 233), en P "can_read" 488 (.ref 240), en P "has_access" 495 (.ref 247), en P "with_access" 503 (.ref 254), en P "check_part" 512 (.ref 261), en P "is_text_span" 519 (.ref 268), en P "item" 527 (.ref 275), en P "octets_of_span" 534 (.ref 282), en P "things_of_span" 541 (.ref 289), en P "thing_octets" 548 (.ref 296), en P "key_of" 555 (.ref 303), en P "bind_walk" 570 (.ref 310), en P "operators_called" 576 (.ref 315), en P "bind_depth" 589 (.ref 322), en P "bind_copied" 604 (.ref 330), en P "bind_bare_copy" 613 (.ref 337), en P "bind_like" 622 (.ref 344), en P "ITEM_COST" 626 (.int 8 625), en P "ENTRY_COST" 628 (.int 16 627), en P "MOST_COST" 632 (.int 16777216 631), en P "Limits" 700 (.ref 362), en P "VmSave" 735 (.ref 383), en P "BodyMaker" 837 (.ref 461), en P "BodyChanger" 948 (.ref 545), en P "Memory" 1078 (.ref 643), en P "memory_check_many" 1086 (.ref 652), en P "memory_put_back" 1097 (.ref 659), en P "_law_draw" 1110 (.ref 666), en P "_law_item" 1122 (.ref 673), en P "_law_thing" 1133 (.ref 680), en P "_law_proc" 1141 (.ref 687), en P "_law_made" 1147 (.ref 692), en P "_law_walk" 1160 (.ref 699), en P "_law_depth" 1166 (.ref 704), en P "_law_is_like" 1174 (.ref 711), en P "_law_is_copy" 1180 (.ref 716), en P "_law_are_asked_right" 1186 (.ref 721), en P "law" 1192 (.ref 726)].toArray 69, [].toArray⟩),
  (62, ⟨(.type "tuple"), none, .seq [(.bool false), (.int 3 247)].toArray 0, [].toArray⟩),
  (68, ⟨(.type "code"), none, .fields [(.str "__init__" 261), (.str "Thing.__init__" 262), (.str "/claim/cut.py" 263), (.int 17 0), (.int 5 0), (.int 0 0), (.int 0 0), (.int 3 0), (.ref 63), (.bool true), (.int 181 0), (.ref 64), .none, (.ref 65), (.ref 66), (.ref 67), (.int 269 0), (.int 17 0), (.str "/claim/cut.py" 270)].toArray, [].toArray⟩),
  (69, ⟨(.type "function"), none, .func (fnD (stM 8 0) "Thing.__init__" (.ref 62) .none .none (.str "postcore.objects" 243) none (.ref 68) .none), [].toArray⟩),
  (71, ⟨(.type "dict"), none, .dict [en P "__module__" 256 (.str "postcore.objects" 243), en P "__firstlineno__" 260 (.int 15 259), en P "__init__" 271 (.ref 69), en P "__static_attributes__" 276 (.ref 70), en P "__dict__" 278 (.ref 73), en P "__weakref__" 280 (.ref 74), en P "__doc__" 281 .none].toArray 4, [].toArray⟩),
  (72, ⟨(.type "type"), none, .cls { name := "Thing", bases := [(.type "object")], mro := [(.ref 72), (.type "object")], ns := 71, qualname := "Thing", hasDict := true, slotNames := [], subclasses := [], abstract := false, collection := none, hasDel := false }, [none, none, some (.str "Thing" 249), some (.str "Thing" 257), some (.builtin "object.__new__"), some (.bool true)].toArray⟩),
  (92, ⟨(.type "dict"), none, .dict [en P "__module__" 291 (.str "postcore.objects" 243), en P "__firstlineno__" 295 (.int 22 294), en P "__init__" 306 (.ref 90), en P "__static_attributes__" 311 (.ref 91), en P "__dict__" 313 (.ref 94), en P "__weakref__" 315 (.ref 95), en P "__doc__" 316 .none].toArray 4, [].toArray⟩),
  (93, ⟨(.type "type"), none, .cls { name := "Text", bases := [(.type "object")], mro := [(.ref 93), (.type "object")], ns := 92, qualname := "Text", hasDict := true, slotNames := [], subclasses := [], abstract := false, collection := none, hasDel := false }, [none, none, some (.str "Text" 284), some (.str "Text" 292), some (.builtin "object.__new__"), some (.bool true)].toArray⟩),
  (110, ⟨(.type "code"), none, .fields [(.str "__init__" 331), (.str "Row.__init__" 332), (.str "/claim/cut.py" 333), (.int 31 0), (.int 5 0), (.int 0 0), (.int 0 0), (.int 3 0), (.ref 105), (.bool true), (.int 181 0), (.ref 106), .none, (.ref 107), (.ref 108), (.ref 109), (.int 339 0), (.int 31 0), (.str "/claim/cut.py" 340)].toArray, [].toArray⟩),
  (111, ⟨(.type "function"), none, .func (fnD (stM 10 0) "Row.__init__" .none .none .none (.str "postcore.objects" 243) none (.ref 110) .none), [].toArray⟩),
  (113, ⟨(.type "dict"), none, .dict [en P "__module__" 326 (.str "postcore.objects" 243), en P "__firstlineno__" 330 (.int 29 329), en P "__init__" 341 (.ref 111), en P "__static_attributes__" 346 (.ref 112), en P "__dict__" 348 (.ref 115), en P "__weakref__" 350 (.ref 116), en P "__doc__" 351 .none].toArray 4, [].toArray⟩),
  (114, ⟨(.type "type"), none, .cls { name := "Row", bases := [(.type "object")], mro := [(.ref 114), (.type "object")], ns := 113, qualname := "Row", hasDict := true, slotNames := [], subclasses := [], abstract := false, collection := none, hasDel := false }, [none, none, some (.str "Row" 319), some (.str "Row" 327), some (.builtin "object.__new__"), some (.bool true)].toArray⟩),
  (131, ⟨(.type "code"), none, .fields [(.str "__init__" 366), (.str "Span.__init__" 367), (.str "/claim/cut.py" 368), (.int 38 0), (.int 4 0), (.int 0 0), (.int 0 0), (.int 3 0), (.ref 126), (.bool true), (.int 181 0), (.ref 127), .none, (.ref 128), (.ref 129), (.ref 130), (.int 373 0), (.int 38 0), (.str "/claim/cut.py" 374)].toArray, [].toArray⟩),
  (132, ⟨(.type "function"), none, .func (fnD (stM 11 0) "Span.__init__" .none .none .none (.str "postcore.objects" 243) none (.ref 131) .none), [].toArray⟩),
  (134, ⟨(.type "dict"), none, .dict [en P "__module__" 361 (.str "postcore.objects" 243), en P "__firstlineno__" 365 (.int 36 364), en P "__init__" 375 (.ref 132), en P "__static_attributes__" 379 (.ref 133), en P "__dict__" 381 (.ref 136), en P "__weakref__" 383 (.ref 137), en P "__doc__" 384 .none].toArray 4, [].toArray⟩),
  (135, ⟨(.type "type"), none, .cls { name := "Span", bases := [(.type "object")], mro := [(.ref 135), (.type "object")], ns := 134, qualname := "Span", hasDict := true, slotNames := [], subclasses := [], abstract := false, collection := none, hasDel := false }, [none, none, some (.str "Span" 354), some (.str "Span" 362), some (.builtin "object.__new__"), some (.bool true)].toArray⟩),
  (145, ⟨(.type "code"), none, .fields [(.str "integer" 387), (.str "integer" 388), (.str "/claim/cut.py" 389), (.int 42 0), (.int 1 0), (.int 0 0), (.int 0 0), (.int 3 0), (.ref 140), (.bool true), (.int 181 0), (.ref 141), .none, (.ref 142), (.ref 143), (.ref 144), (.int 391 0), (.int 42 0), (.str "/claim/cut.py" 392)].toArray, [].toArray⟩),
  (146, ⟨(.type "function"), none, .func (fnD (stT 12) "integer" .none .none .none (.str "postcore.objects" 243) none (.ref 145) .none), [].toArray⟩),
  (147, ⟨(.type "tuple"), none, .seq [(.bool false)].toArray 0, [].toArray⟩),
  (153, ⟨(.type "code"), none, .fields [(.str "name" 394), (.str "name" 395), (.str "/claim/cut.py" 396), (.int 44 0), (.int 2 0), (.int 0 0), (.int 0 0), (.int 3 0), (.ref 148), (.bool true), (.int 181 0), (.ref 149), .none, (.ref 150), (.ref 151), (.ref 152), (.int 399 0), (.int 44 0), (.str "/claim/cut.py" 400)].toArray, [].toArray⟩),
  (154, ⟨(.type "function"), none, .func (fnD (stT 13) "name" (.ref 147) .none .none (.str "postcore.objects" 243) none (.ref 153) .none), [].toArray⟩),
  (160, ⟨(.type "code"), none, .fields [(.str "operator_thing" 402), (.str "operator_thing" 403), (.str "/claim/cut.py" 404), (.int 46 0), (.int 1 0), (.int 0 0), (.int 0 0), (.int 3 0), (.ref 155), (.bool true), (.int 181 0), (.ref 156), .none, (.ref 157), (.ref 158), (.ref 159), (.int 406 0), (.int 46 0), (.str "/claim/cut.py" 407)].toArray, [].toArray⟩),
  (161, ⟨(.type "function"), none, .func (fnD (stT 14) "operator_thing" .none .none .none (.str "postcore.objects" 243) none (.ref 160) .none), [].toArray⟩),
  (167, ⟨(.type "code"), none, .fields [(.str "null" 409), (.str "null" 410), (.str "/claim/cut.py" 411), (.int 48 0), (.int 0 0), (.int 0 0), (.int 0 0), (.int 3 0), (.ref 162), (.bool true), (.int 181 0), (.ref 163), .none, (.ref 164), (.ref 165), (.ref 166), (.int 412 0), (.int 48 0), (.str "/claim/cut.py" 413)].toArray, [].toArray⟩),
  (168, ⟨(.type "function"), none, .func (fnD (stT 15) "null" .none .none .none (.str "postcore.objects" 243) none (.ref 167) .none), [].toArray⟩),
  (169, ⟨(.type "tuple"), none, .seq [(.bool false), (.int 3 247)].toArray 0, [].toArray⟩),
  (175, ⟨(.type "code"), none, .fields [(.str "of_row" 415), (.str "of_row" 416), (.str "/claim/cut.py" 417), (.int 50 0), (.int 3 0), (.int 0 0), (.int 0 0), (.int 3 0), (.ref 170), (.bool true), (.int 181 0), (.ref 171), .none, (.ref 172), (.ref 173), (.ref 174), (.int 421 0), (.int 50 0), (.str "/claim/cut.py" 422)].toArray, [].toArray⟩),
  (176, ⟨(.type "function"), none, .func (fnD (stT 16) "of_row" (.ref 169) .none .none (.str "postcore.objects" 243) none (.ref 175) .none), [].toArray⟩),
  (177, ⟨(.type "tuple"), none, .seq [(.bool false)].toArray 0, [].toArray⟩),
  (183, ⟨(.type "code"), none, .fields [(.str "of_packed" 424), (.str "of_packed" 425), (.str "/claim/cut.py" 426), (.int 52 0), (.int 2 0), (.int 0 0), (.int 0 0), (.int 3 0), (.ref 178), (.bool true), (.int 181 0), (.ref 179), .none, (.ref 180), (.ref 181), (.ref 182), (.int 429 0), (.int 52 0), (.str "/claim/cut.py" 430)].toArray, [].toArray⟩),
  (184, ⟨(.type "function"), none, .func (fnD (stT 17) "of_packed" (.ref 177) .none .none (.str "postcore.objects" 243) none (.ref 183) .none), [].toArray⟩),
  (190, ⟨(.type "code"), none, .fields [(.str "is_number" 432), (.str "is_number" 433), (.str "/claim/cut.py" 434), (.int 54 0), (.int 1 0), (.int 0 0), (.int 0 0), (.int 3 0), (.ref 185), (.bool true), (.int 181 0), (.ref 186), .none, (.ref 187), (.ref 188), (.ref 189), (.int 436 0), (.int 54 0), (.str "/claim/cut.py" 437)].toArray, [].toArray⟩),
  (191, ⟨(.type "function"), none, .func (fnD (stT 18) "is_number" .none .none .none (.str "postcore.objects" 243) none (.ref 190) .none), [].toArray⟩),
  (204, ⟨(.type "code"), none, .fields [(.str "is_in_array" 446), (.str "is_in_array" 447), (.str "/claim/cut.py" 448), (.int 62 0), (.int 1 0), (.int 0 0), (.int 0 0), (.int 3 0), (.ref 199), (.bool true), (.int 181 0), (.ref 200), .none, (.ref 201), (.ref 202), (.ref 203), (.int 450 0), (.int 62 0), (.str "/claim/cut.py" 451)].toArray, [].toArray⟩),
  (205, ⟨(.type "function"), none, .func (fnD (stT 20) "is_in_array" .none .none .none (.str "postcore.objects" 243) none (.ref 204) .none), [].toArray⟩),
  (211, ⟨(.type "code"), none, .fields [(.str "is_proc" 453), (.str "is_proc" 454), (.str "/claim/cut.py" 455), (.int 64 0), (.int 1 0), (.int 0 0), (.int 0 0), (.int 3 0), (.ref 206), (.bool true), (.int 181 0), (.ref 207), .none, (.ref 208), (.ref 209), (.ref 210), (.int 457 0), (.int 64 0), (.str "/claim/cut.py" 458)].toArray, [].toArray⟩),
  (212, ⟨(.type "function"), none, .func (fnD (stT 21) "is_proc" .none .none .none (.str "postcore.objects" 243) none (.ref 211) .none), [].toArray⟩),
  (218, ⟨(.type "code"), none, .fields [(.str "body_of" 460), (.str "body_of" 461), (.str "/claim/cut.py" 462), (.int 66 0), (.int 1 0), (.int 0 0), (.int 0 0), (.int 3 0), (.ref 213), (.bool true), (.int 181 0), (.ref 214), .none, (.ref 215), (.ref 216), (.ref 217), (.int 464 0), (.int 66 0), (.str "/claim/cut.py" 465)].toArray, [].toArray⟩),
  (219, ⟨(.type "function"), none, .func (fnD (stT 22) "body_of" .none .none .none (.str "postcore.objects" 243) none (.ref 218) .none), [].toArray⟩),
  (225, ⟨(.type "code"), none, .fields [(.str "is_local" 467), (.str "is_local" 468), (.str "/claim/cut.py" 469), (.int 70 0), (.int 1 0), (.int 0 0), (.int 0 0), (.int 3 0), (.ref 220), (.bool true), (.int 181 0), (.ref 221), .none, (.ref 222), (.ref 223), (.ref 224), (.int 472 0), (.int 70 0), (.str "/claim/cut.py" 473)].toArray, [].toArray⟩),
  (226, ⟨(.type "function"), none, .func (fnD (stT 23) "is_local" .none .none .none (.str "postcore.objects" 243) none (.ref 225) .none), [].toArray⟩),
  (232, ⟨(.type "code"), none, .fields [(.str "access_of" 475), (.str "access_of" 476), (.str "/claim/cut.py" 477), (.int 73 0), (.int 1 0), (.int 0 0), (.int 0 0), (.int 3 0), (.ref 227), (.bool true), (.int 181 0), (.ref 228), .none, (.ref 229), (.ref 230), (.ref 231), (.int 479 0), (.int 73 0), (.str "/claim/cut.py" 480)].toArray, [].toArray⟩),
  (233, ⟨(.type "function"), none, .func (fnD (stT 24) "access_of" .none .none .none (.str "postcore.objects" 243) none (.ref 232) .none), [].toArray⟩),
  (246, ⟨(.type "code"), none, .fields [(.str "has_access" 489), (.str "has_access" 490), (.str "/claim/cut.py" 491), (.int 77 0), (.int 1 0), (.int 0 0), (.int 0 0), (.int 3 0), (.ref 241), (.bool true), (.int 181 0), (.ref 242), .none, (.ref 243), (.ref 244), (.ref 245), (.int 493 0), (.int 77 0), (.str "/claim/cut.py" 494)].toArray, [].toArray⟩),
  (247, ⟨(.type "function"), none, .func (fnD (stT 26) "has_access" .none .none .none (.str "postcore.objects" 243) none (.ref 246) .none), [].toArray⟩),
  (253, ⟨(.type "code"), none, .fields [(.str "with_access" 496), (.str "with_access" 497), (.str "/claim/cut.py" 498), (.int 79 0), (.int 2 0), (.int 0 0), (.int 0 0), (.int 3 0), (.ref 248), (.bool true), (.int 181 0), (.ref 249), .none, (.ref 250), (.ref 251), (.ref 252), (.int 501 0), (.int 79 0), (.str "/claim/cut.py" 502)].toArray, [].toArray⟩),
  (254, ⟨(.type "function"), none, .func (fnD (stT 27) "with_access" .none .none .none (.str "postcore.objects" 243) none (.ref 253) .none), [].toArray⟩),
  (260, ⟨(.type "code"), none, .fields [(.str "check_part" 504), (.str "check_part" 505), (.str "/claim/cut.py" 506), (.int 85 0), (.int 3 0), (.int 0 0), (.int 0 0), (.int 3 0), (.ref 255), (.bool true), (.int 181 0), (.ref 256), .none, (.ref 257), (.ref 258), (.ref 259), (.int 510 0), (.int 85 0), (.str "/claim/cut.py" 511)].toArray, [].toArray⟩),
  (261, ⟨(.type "function"), none, .func (fnD (stT 28) "check_part" .none .none .none (.str "postcore.objects" 243) none (.ref 260) .none), [].toArray⟩),
  (267, ⟨(.type "code"), none, .fields [(.str "is_text_span" 513), (.str "is_text_span" 514), (.str "/claim/cut.py" 515), (.int 88 0), (.int 1 0), (.int 0 0), (.int 0 0), (.int 3 0), (.ref 262), (.bool true), (.int 181 0), (.ref 263), .none, (.ref 264), (.ref 265), (.ref 266), (.int 517 0), (.int 88 0), (.str "/claim/cut.py" 518)].toArray, [].toArray⟩),
  (268, ⟨(.type "function"), none, .func (fnD (stT 29) "is_text_span" .none .none .none (.str "postcore.objects" 243) none (.ref 267) .none), [].toArray⟩),
  (274, ⟨(.type "code"), none, .fields [(.str "item" 520), (.str "item" 521), (.str "/claim/cut.py" 522), (.int 90 0), (.int 2 0), (.int 0 0), (.int 0 0), (.int 3 0), (.ref 269), (.bool true), (.int 181 0), (.ref 270), .none, (.ref 271), (.ref 272), (.ref 273), (.int 525 0), (.int 90 0), (.str "/claim/cut.py" 526)].toArray, [].toArray⟩),
  (275, ⟨(.type "function"), none, .func (fnD (stT 30) "item" .none .none .none (.str "postcore.objects" 243) none (.ref 274) .none), [].toArray⟩),
  (288, ⟨(.type "code"), none, .fields [(.str "things_of_span" 535), (.str "things_of_span" 536), (.str "/claim/cut.py" 537), (.int 97 0), (.int 1 0), (.int 0 0), (.int 0 0), (.int 3 0), (.ref 283), (.bool true), (.int 181 0), (.ref 284), .none, (.ref 285), (.ref 286), (.ref 287), (.int 539 0), (.int 97 0), (.str "/claim/cut.py" 540)].toArray, [].toArray⟩),
  (289, ⟨(.type "function"), none, .func (fnD (stT 32) "things_of_span" .none .none .none (.str "postcore.objects" 243) none (.ref 288) .none), [].toArray⟩),
  (302, ⟨(.type "code"), none, .fields [(.str "key_of" 549), (.str "key_of" 550), (.str "/claim/cut.py" 551), (.int 107 0), (.int 1 0), (.int 0 0), (.int 0 0), (.int 3 0), (.ref 297), (.bool true), (.int 181 0), (.ref 298), .none, (.ref 299), (.ref 300), (.ref 301), (.int 553 0), (.int 107 0), (.str "/claim/cut.py" 554)].toArray, [].toArray⟩),
  (303, ⟨(.type "function"), none, .func (fnD (stT 34) "key_of" .none .none .none (.str "postcore.objects" 243) none (.ref 302) .none), [].toArray⟩),
  (309, ⟨(.type "code"), none, .fields [(.str "bind_walk" 558), (.str "bind_walk" 559), (.str "/claim/cut.py" 560), (.int 122 0), (.int 1 0), (.int 0 0), (.int 0 0), (.int 3 0), (.ref 304), (.bool true), (.int 181 0), (.ref 305), .none, (.ref 306), (.ref 307), (.ref 308), (.int 568 0), (.int 122 0), (.str "/claim/cut.py" 569)].toArray, [].toArray⟩),
  (310, ⟨(.type "function"), none, .func (fnD (stT 36) "bind_walk" .none .none .none (.str "postcore.binding" 556) none (.ref 309) .none), [].toArray⟩),
  (314, ⟨(.type "code"), none, .fields [(.str "operators_called" 571), (.str "operators_called" 572), (.str "/claim/cut.py" 573), (.int 136 0), (.int 1 0), (.int 0 0), (.int 0 0), (.int 3 0), (.ref 311), (.bool true), (.int 181 0), (.ref 312), .none, .none, .none, (.ref 313), (.int 574 0), (.int 136 0), (.str "/claim/cut.py" 575)].toArray, [].toArray⟩),
  (315, ⟨(.type "function"), none, .func (fnD (stT 37) "operators_called" .none .none .none (.str "postcore.binding" 556) none (.ref 314) .none), [].toArray⟩),
  (321, ⟨(.type "code"), none, .fields [(.str "bind_depth" 577), (.str "bind_depth" 578), (.str "/claim/cut.py" 579), (.int 142 0), (.int 1 0), (.int 0 0), (.int 0 0), (.int 3 0), (.ref 316), (.bool true), (.int 181 0), (.ref 317), .none, (.ref 318), (.ref 319), (.ref 320), (.int 587 0), (.int 142 0), (.str "/claim/cut.py" 588)].toArray, [].toArray⟩),
  (322, ⟨(.type "function"), none, .func (fnD (stT 38) "bind_depth" .none .none .none (.str "postcore.binding" 556) none (.ref 321) .none), [].toArray⟩),
  (323, ⟨(.type "tuple"), none, .seq [(.bool false)].toArray 0, [].toArray⟩),
  (329, ⟨(.type "code"), none, .fields [(.str "bind_copied" 590), (.str "bind_copied" 591), (.str "/claim/cut.py" 592), (.int 167 0), (.int 3 0), (.int 0 0), (.int 0 0), (.int 3 0), (.ref 324), (.bool true), (.int 181 0), (.ref 325), .none, (.ref 326), (.ref 327), (.ref 328), (.int 602 0), (.int 167 0), (.str "/claim/cut.py" 603)].toArray, [].toArray⟩),
  (330, ⟨(.type "function"), none, .func (fnD (stT 39) "bind_copied" (.ref 323) .none .none (.str "postcore.binding" 556) none (.ref 329) .none), [].toArray⟩),
  (336, ⟨(.type "code"), none, .fields [(.str "bind_bare_copy" 605), (.str "bind_bare_copy" 606), (.str "/claim/cut.py" 607), (.int 184 0), (.int 2 0), (.int 0 0), (.int 0 0), (.int 3 0), (.ref 331), (.bool true), (.int 181 0), (.ref 332), .none, (.ref 333), (.ref 334), (.ref 335), (.int 611 0), (.int 184 0), (.str "/claim/cut.py" 612)].toArray, [].toArray⟩),
  (337, ⟨(.type "function"), none, .func (fnD (stT 40) "bind_bare_copy" .none .none .none (.str "postcore.binding" 556) none (.ref 336) .none), [].toArray⟩),
  (343, ⟨(.type "code"), none, .fields [(.str "bind_like" 614), (.str "bind_like" 615), (.str "/claim/cut.py" 616), (.int 187 0), (.int 2 0), (.int 0 0), (.int 0 0), (.int 3 0), (.ref 338), (.bool true), (.int 181 0), (.ref 339), .none, (.ref 340), (.ref 341), (.ref 342), (.int 620 0), (.int 187 0), (.str "/claim/cut.py" 621)].toArray, [].toArray⟩),
  (344, ⟨(.type "function"), none, .func (fnD (stT 41) "bind_like" .none .none .none (.str "postcore.binding" 556) none (.ref 343) .none), [].toArray⟩),
  (352, ⟨(.type "tuple"), none, .seq [(.int 500 645), (.int 20 646), (.int 250 647), (.int 15 648), (.int 31 649), (.int 65535 650), (.int 65535 651), (.int 65535 652), (.int 127 653), (.int 1500 654), (.int 11 655), (.int 15 656), (.int 600 657), (.int 16777216 631)].toArray 0, [].toArray⟩),
  (358, ⟨(.type "code"), none, .fields [(.str "__init__" 658), (.str "Limits.__init__" 659), (.str "/claim/cut.py" 660), (.int 198 0), (.int 15 0), (.int 0 0), (.int 0 0), (.int 3 0), (.ref 353), (.bool true), (.int 181 0), (.ref 354), .none, (.ref 355), (.ref 356), (.ref 357), (.int 676 0), (.int 198 0), (.str "/claim/cut.py" 677)].toArray, [].toArray⟩),
  (359, ⟨(.type "function"), none, .func (fnD (stM 46 0) "Limits.__init__" (.ref 352) .none .none (.str "postcore.memory" 623) none (.ref 358) .none), [].toArray⟩),
  (361, ⟨(.type "dict"), none, .dict [en P "__module__" 640 (.str "postcore.memory" 623), en P "__firstlineno__" 644 (.int 196 643), en P "__init__" 678 (.ref 359), en P "__static_attributes__" 693 (.ref 360), en P "__dict__" 695 (.ref 363), en P "__weakref__" 697 (.ref 364), en P "__doc__" 698 .none].toArray 4, [].toArray⟩),
  (362, ⟨(.type "type"), none, .cls { name := "Limits", bases := [(.type "object")], mro := [(.ref 362), (.type "object")], ns := 361, qualname := "Limits", hasDict := true, slotNames := [], subclasses := [], abstract := false, collection := none, hasDel := false }, [none, none, some (.str "Limits" 633), some (.str "Limits" 641), some (.builtin "object.__new__"), some (.bool true)].toArray⟩),
  (400, ⟨(.type "code"), none, .fields [(.str "__init__" 748), (.str "BodyMaker.__init__" 749), (.str "/claim/cut.py" 750), (.int 222 0), (.int 2 0), (.int 0 0), (.int 0 0), (.int 3 0), (.ref 395), (.bool true), (.int 181 0), (.ref 396), .none, (.ref 397), (.ref 398), (.ref 399), (.int 753 0), (.int 222 0), (.str "/claim/cut.py" 754)].toArray, [].toArray⟩),
  (401, ⟨(.type "function"), none, .func (fnD (stM 48 0) "BodyMaker.__init__" .none .none .none (.str "postcore.memory" 623) none (.ref 400) .none), [].toArray⟩),
  (407, ⟨(.type "code"), none, .fields [(.str "level" 756), (.str "BodyMaker.level" 757), (.str "/claim/cut.py" 758), (.int 234 0), (.int 1 0), (.int 0 0), (.int 0 0), (.int 3 0), (.ref 402), (.bool true), (.int 181 0), (.ref 403), .none, (.ref 404), (.ref 405), (.ref 406), (.int 760 0), (.int 234 0), (.str "/claim/cut.py" 761)].toArray, [].toArray⟩),
  (408, ⟨(.type "function"), none, .func (fnD (stM 48 1) "BodyMaker.level" .none .none .none (.str "postcore.memory" 623) none (.ref 407) .none), [].toArray⟩),
  (409, ⟨(.type "property"), none, .fields [(.ref 408), .none, .none, .none, (.str "level" 763), (.bool false)].toArray, [].toArray⟩),
  (415, ⟨(.type "code"), none, .fields [(.str "body_level" 764), (.str "BodyMaker.body_level" 765), (.str "/claim/cut.py" 766), (.int 238 0), (.int 1 0), (.int 0 0), (.int 0 0), (.int 3 0), (.ref 410), (.bool true), (.int 181 0), (.ref 411), .none, (.ref 412), (.ref 413), (.ref 414), (.int 768 0), (.int 238 0), (.str "/claim/cut.py" 769)].toArray, [].toArray⟩),
  (416, ⟨(.type "function"), none, .func (fnD (stM 48 2) "BodyMaker.body_level" .none .none .none (.str "postcore.memory" 623) none (.ref 415) .none), [].toArray⟩),
  (422, ⟨(.type "code"), none, .fields [(.str "take_room" 771), (.str "BodyMaker.take_room" 772), (.str "/claim/cut.py" 773), (.int 241 0), (.int 2 0), (.int 0 0), (.int 0 0), (.int 3 0), (.ref 417), (.bool true), (.int 181 0), (.ref 418), .none, (.ref 419), (.ref 420), (.ref 421), (.int 776 0), (.int 241 0), (.str "/claim/cut.py" 777)].toArray, [].toArray⟩),
  (423, ⟨(.type "function"), none, .func (fnD (stM 48 3) "BodyMaker.take_room" .none .none .none (.str "postcore.memory" 623) none (.ref 422) .none), [].toArray⟩),
  (429, ⟨(.type "code"), none, .fields [(.str "check_room" 779), (.str "BodyMaker.check_room" 780), (.str "/claim/cut.py" 781), (.int 251 0), (.int 2 0), (.int 0 0), (.int 0 0), (.int 3 0), (.ref 424), (.bool true), (.int 181 0), (.ref 425), .none, (.ref 426), (.ref 427), (.ref 428), (.int 784 0), (.int 251 0), (.str "/claim/cut.py" 785)].toArray, [].toArray⟩),
  (430, ⟨(.type "function"), none, .func (fnD (stM 48 4) "BodyMaker.check_room" .none .none .none (.str "postcore.memory" 623) none (.ref 429) .none), [].toArray⟩),
  (450, ⟨(.type "code"), none, .fields [(.str "make_row" 803), (.str "BodyMaker.make_row" 804), (.str "/claim/cut.py" 805), (.int 261 0), (.int 2 0), (.int 0 0), (.int 0 0), (.int 3 0), (.ref 445), (.bool true), (.int 181 0), (.ref 446), .none, (.ref 447), (.ref 448), (.ref 449), (.int 809 0), (.int 261 0), (.str "/claim/cut.py" 810)].toArray, [].toArray⟩),
  (451, ⟨(.type "function"), none, .func (fnD (stM 48 7) "BodyMaker.make_row" .none .none .none (.str "postcore.memory" 623) none (.ref 450) .none), [].toArray⟩),
  (460, ⟨(.type "dict"), none, .dict [en P "__module__" 743 (.str "postcore.memory" 623), en P "__firstlineno__" 747 (.int 220 746), en P "__init__" 755 (.ref 401), en P "level" 763 (.ref 409), en P "body_level" 770 (.ref 416), en P "take_room" 778 (.ref 423), en P "check_room" 786 (.ref 430), en P "make_text" 794 (.ref 437), en P "text_of_octets" 802 (.ref 444), en P "make_row" 811 (.ref 451), en P "make_dict" 819 (.ref 458), en P "__static_attributes__" 830 (.ref 459), en P "__dict__" 832 (.ref 462), en P "__weakref__" 834 (.ref 463), en P "__doc__" 835 .none].toArray 4, [].toArray⟩),
  (461, ⟨(.type "type"), none, .cls { name := "BodyMaker", bases := [(.type "object")], mro := [(.ref 461), (.type "object")], ns := 460, qualname := "BodyMaker", hasDict := true, slotNames := [], subclasses := [(.ref 545)], abstract := false, collection := none, hasDel := false }, [none, none, some (.str "BodyMaker" 736), some (.str "BodyMaker" 744), some (.builtin "object.__new__"), some (.bool true)].toArray⟩),
  (478, ⟨(.type "code"), none, .fields [(.str "is_elder" 850), (.str "BodyChanger.is_elder" 851), (.str "/claim/cut.py" 852), (.int 276 0), (.int 2 0), (.int 0 0), (.int 0 0), (.int 3 0), (.ref 473), (.bool true), (.int 181 0), (.ref 474), .none, (.ref 475), (.ref 476), (.ref 477), (.int 855 0), (.int 276 0), (.str "/claim/cut.py" 856)].toArray, [].toArray⟩),
  (479, ⟨(.type "function"), none, .func (fnD (stM 49 0) "BodyChanger.is_elder" .none .none .none (.str "postcore.memory" 623) none (.ref 478) .none), [].toArray⟩),
  (485, ⟨(.type "code"), none, .fields [(.str "check_holds" 858), (.str "BodyChanger.check_holds" 859), (.str "/claim/cut.py" 860), (.int 279 0), (.int 3 0), (.int 0 0), (.int 0 0), (.int 3 0), (.ref 480), (.bool true), (.int 181 0), (.ref 481), .none, (.ref 482), (.ref 483), (.ref 484), (.int 864 0), (.int 279 0), (.str "/claim/cut.py" 865)].toArray, [].toArray⟩),
  (486, ⟨(.type "function"), none, .func (fnD (stM 49 1) "BodyChanger.check_holds" .none .none .none (.str "postcore.memory" 623) none (.ref 485) .none), [].toArray⟩),
  (492, ⟨(.type "code"), none, .fields [(.str "put_item" 867), (.str "BodyChanger.put_item" 868), (.str "/claim/cut.py" 869), (.int 283 0), (.int 4 0), (.int 0 0), (.int 0 0), (.int 3 0), (.ref 487), (.bool true), (.int 181 0), (.ref 488), .none, (.ref 489), (.ref 490), (.ref 491), (.int 874 0), (.int 283 0), (.str "/claim/cut.py" 875)].toArray, [].toArray⟩),
  (493, ⟨(.type "function"), none, .func (fnD (stM 49 2) "BodyChanger.put_item" .none .none .none (.str "postcore.memory" 623) none (.ref 492) .none), [].toArray⟩),
  (499, ⟨(.type "code"), none, .fields [(.str "put_items" 877), (.str "BodyChanger.put_items" 878), (.str "/claim/cut.py" 879), (.int 286 0), (.int 4 0), (.int 0 0), (.int 0 0), (.int 3 0), (.ref 494), (.bool true), (.int 181 0), (.ref 495), .none, (.ref 496), (.ref 497), (.ref 498), (.int 886 0), (.int 286 0), (.str "/claim/cut.py" 887)].toArray, [].toArray⟩),
  (500, ⟨(.type "function"), none, .func (fnD (stM 49 3) "BodyChanger.put_items" .none .none .none (.str "postcore.memory" 623) none (.ref 499) .none), [].toArray⟩),
  (544, ⟨(.type "dict"), none, .dict [en P "__module__" 845 (.str "postcore.memory" 623), en P "__firstlineno__" 849 (.int 274 848), en P "is_elder" 857 (.ref 479), en P "check_holds" 866 (.ref 486), en P "put_item" 876 (.ref 493), en P "put_items" 888 (.ref 500), en P "put_octet" 898 (.ref 507), en P "put_octets" 908 (.ref 514), en P "grow" 916 (.ref 521), en P "put_entry" 926 (.ref 528), en P "drop_entry" 935 (.ref 535), en P "set_access" 944 (.ref 542), en P "__static_attributes__" 945 (.ref 543), en P "__doc__" 946 .none].toArray 2, [].toArray⟩),
  (545, ⟨(.type "type"), none, .cls { name := "BodyChanger", bases := [(.ref 461)], mro := [(.ref 545), (.ref 461), (.type "object")], ns := 544, qualname := "BodyChanger", hasDict := true, slotNames := [], subclasses := [(.ref 643)], abstract := false, collection := none, hasDel := false }, [some (.ref 466), none, some (.str "BodyChanger" 838), some (.str "BodyChanger" 846), some (.builtin "object.__new__"), some (.bool true)].toArray⟩),
  (642, ⟨(.type "dict"), none, .dict [en P "__module__" 956 (.str "postcore.memory" 623), en P "__firstlineno__" 960 (.int 311 959), en P "save" 968 (.ref 562), en P "place_of_save" 978 (.ref 569), en P "is_saved" 986 (.ref 576), en P "note_of" 994 (.ref 583), en P "sure_place" 1003 (.ref 590), en P "newer_than" 1012 (.ref 597), en P "restore" 1027 (.ref 604), en P "settle_costs" 1039 (.ref 611), en P "status" 1046 (.ref 618), en P "collect" 1054 (.ref 625), en P "reclaim" 1063 (.ref 633), en P "journal_things" 1070 (.ref 640), en P "__static_attributes__" 1075 (.ref 641), en P "__doc__" 1076 .none].toArray 2, [].toArray⟩),
  (643, ⟨(.type "type"), none, .cls { name := "Memory", bases := [(.ref 545)], mro := [(.ref 643), (.ref 545), (.ref 461), (.type "object")], ns := 642, qualname := "Memory", hasDict := true, slotNames := [], subclasses := [], abstract := false, collection := none, hasDel := false }, [some (.ref 548), none, some (.str "Memory" 949), some (.str "Memory" 957), some (.builtin "object.__new__"), some (.bool true)].toArray⟩),
  (651, ⟨(.type "code"), none, .fields [(.str "memory_check_many" 1079), (.str "memory_check_many" 1080), (.str "/claim/cut.py" 1081), (.int 376 0), (.int 2 0), (.int 0 0), (.int 0 0), (.int 3 0), (.ref 646), (.bool true), (.int 181 0), (.ref 647), .none, (.ref 648), (.ref 649), (.ref 650), (.int 1084 0), (.int 376 0), (.str "/claim/cut.py" 1085)].toArray, [].toArray⟩),
  (652, ⟨(.type "function"), none, .func (fnD (stT 51) "memory_check_many" .none .none .none (.str "postcore.memory" 623) none (.ref 651) .none), [].toArray⟩),
  (665, ⟨(.type "code"), none, .fields [(.str "_law_draw" 1100), (.str "_law_draw" 1101), (.str "/claim/cut.py" 1102), (.int 399 0), (.int 2 0), (.int 0 0), (.int 0 0), (.int 3 0), (.ref 660), (.bool true), (.int 181 0), (.ref 661), .none, (.ref 662), (.ref 663), (.ref 664), (.int 1108 0), (.int 399 0), (.str "/claim/cut.py" 1109)].toArray, [].toArray⟩),
  (666, ⟨(.type "function"), none, .func (fnD (stT 54) "_law_draw" .none .none .none (.str "law_pb0516_01" 1098) none (.ref 665) .none), [].toArray⟩),
  (672, ⟨(.type "code"), none, .fields [(.str "_law_item" 1111), (.str "_law_item" 1112), (.str "/claim/cut.py" 1113), (.int 405 0), (.int 3 0), (.int 0 0), (.int 0 0), (.int 3 0), (.ref 667), (.bool true), (.int 181 0), (.ref 668), .none, (.ref 669), (.ref 670), (.ref 671), (.int 1120 0), (.int 405 0), (.str "/claim/cut.py" 1121)].toArray, [].toArray⟩),
  (673, ⟨(.type "function"), none, .func (fnD (stT 55) "_law_item" .none .none .none (.str "law_pb0516_01" 1098) none (.ref 672) .none), [].toArray⟩),
  (679, ⟨(.type "code"), none, .fields [(.str "_law_thing" 1123), (.str "_law_thing" 1124), (.str "/claim/cut.py" 1125), (.int 416 0), (.int 2 0), (.int 0 0), (.int 0 0), (.int 3 0), (.ref 674), (.bool true), (.int 181 0), (.ref 675), .none, (.ref 676), (.ref 677), (.ref 678), (.int 1131 0), (.int 416 0), (.str "/claim/cut.py" 1132)].toArray, [].toArray⟩),
  (680, ⟨(.type "function"), none, .func (fnD (stT 56) "_law_thing" .none .none .none (.str "law_pb0516_01" 1098) none (.ref 679) .none), [].toArray⟩),
  (686, ⟨(.type "code"), none, .fields [(.str "_law_proc" 1134), (.str "_law_proc" 1135), (.str "/claim/cut.py" 1136), (.int 427 0), (.int 2 0), (.int 0 0), (.int 0 0), (.int 3 0), (.ref 681), (.bool true), (.int 181 0), (.ref 682), .none, (.ref 683), (.ref 684), (.ref 685), (.int 1139 0), (.int 427 0), (.str "/claim/cut.py" 1140)].toArray, [].toArray⟩),
  (687, ⟨(.type "function"), none, .func (fnD (stT 57) "_law_proc" .none .none .none (.str "law_pb0516_01" 1098) none (.ref 686) .none), [].toArray⟩),
  (691, ⟨(.type "code"), none, .fields [(.str "_law_made" 1142), (.str "_law_made" 1143), (.str "/claim/cut.py" 1144), (.int 429 0), (.int 2 0), (.int 0 0), (.int 0 0), (.int 3 0), (.ref 688), (.bool true), (.int 181 0), (.ref 689), .none, .none, .none, (.ref 690), (.int 1145 0), (.int 429 0), (.str "/claim/cut.py" 1146)].toArray, [].toArray⟩),
  (692, ⟨(.type "function"), none, .func (fnD (stT 58) "_law_made" .none .none .none (.str "law_pb0516_01" 1098) none (.ref 691) .none), [].toArray⟩),
  (698, ⟨(.type "code"), none, .fields [(.str "_law_walk" 1148), (.str "_law_walk" 1149), (.str "/claim/cut.py" 1150), (.int 435 0), (.int 3 0), (.int 0 0), (.int 0 0), (.int 3 0), (.ref 693), (.bool true), (.int 181 0), (.ref 694), .none, (.ref 695), (.ref 696), (.ref 697), (.int 1158 0), (.int 435 0), (.str "/claim/cut.py" 1159)].toArray, [].toArray⟩),
  (699, ⟨(.type "function"), none, .func (fnD (stT 59) "_law_walk" .none .none .none (.str "law_pb0516_01" 1098) none (.ref 698) .none), [].toArray⟩),
  (703, ⟨(.type "code"), none, .fields [(.str "_law_depth" 1161), (.str "_law_depth" 1162), (.str "/claim/cut.py" 1163), (.int 443 0), (.int 3 0), (.int 0 0), (.int 0 0), (.int 3 0), (.ref 700), (.bool true), (.int 181 0), (.ref 701), .none, .none, .none, (.ref 702), (.int 1164 0), (.int 443 0), (.str "/claim/cut.py" 1165)].toArray, [].toArray⟩),
  (704, ⟨(.type "function"), none, .func (fnD (stT 60) "_law_depth" .none .none .none (.str "law_pb0516_01" 1098) none (.ref 703) .none), [].toArray⟩),
  (710, ⟨(.type "code"), none, .fields [(.str "_law_is_like" 1167), (.str "_law_is_like" 1168), (.str "/claim/cut.py" 1169), (.int 447 0), (.int 2 0), (.int 0 0), (.int 0 0), (.int 3 0), (.ref 705), (.bool true), (.int 181 0), (.ref 706), .none, (.ref 707), (.ref 708), (.ref 709), (.int 1172 0), (.int 447 0), (.str "/claim/cut.py" 1173)].toArray, [].toArray⟩),
  (711, ⟨(.type "function"), none, .func (fnD (stT 61) "_law_is_like" .none .none .none (.str "law_pb0516_01" 1098) none (.ref 710) .none), [].toArray⟩),
  (715, ⟨(.type "code"), none, .fields [(.str "_law_is_copy" 1175), (.str "_law_is_copy" 1176), (.str "/claim/cut.py" 1177), (.int 449 0), (.int 5 0), (.int 0 0), (.int 0 0), (.int 3 0), (.ref 712), (.bool true), (.int 181 0), (.ref 713), .none, .none, .none, (.ref 714), (.int 1178 0), (.int 449 0), (.str "/claim/cut.py" 1179)].toArray, [].toArray⟩),
  (716, ⟨(.type "function"), none, .func (fnD (stT 62) "_law_is_copy" .none .none .none (.str "law_pb0516_01" 1098) none (.ref 715) .none), [].toArray⟩),
  (720, ⟨(.type "code"), none, .fields [(.str "_law_are_asked_right" 1181), (.str "_law_are_asked_right" 1182), (.str "/claim/cut.py" 1183), (.int 478 0), (.int 2 0), (.int 0 0), (.int 0 0), (.int 3 0), (.ref 717), (.bool true), (.int 181 0), (.ref 718), .none, .none, .none, (.ref 719), (.int 1184 0), (.int 478 0), (.str "/claim/cut.py" 1185)].toArray, [].toArray⟩),
  (721, ⟨(.type "function"), none, .func (fnD (stT 63) "_law_are_asked_right" .none .none .none (.str "law_pb0516_01" 1098) none (.ref 720) .none), [].toArray⟩),
  (725, ⟨(.type "code"), none, .fields [(.str "law" 1187), (.str "law" 1188), (.str "/claim/cut.py" 1189), (.int 483 0), (.int 1 0), (.int 0 0), (.int 0 0), (.int 3 0), (.ref 722), (.bool true), (.int 181 0), (.ref 723), .none, .none, .none, (.ref 724), (.int 1190 0), (.int 483 0), (.str "/claim/cut.py" 1191)].toArray, [].toArray⟩),
  (726, ⟨(.type "function"), none, .func (fnD (stT 64) "law" .none .none .none (.str "law_pb0516_01" 1098) none (.ref 725) .none), [].toArray⟩)]
end Mine
set_option maxHeartbeats 0
namespace Mine
noncomputable def bootT (P : Params) : BT :=
  .node (boot_o_0 P) (.node (boot_o_1 P) (.node (boot_o_3 P) (.node (boot_o_7 P) .nil .nil) .nil) (.node (boot_o_5 P) (.node (boot_o_9 P) .nil .nil) .nil))
    (.node (boot_o_2 P) (.node (boot_o_4 P) (.node (boot_o_8 P) .nil .nil) .nil) (.node (boot_o_6 P) (.node (boot_o_10 P) .nil .nil) .nil))
theorem boot_is (P : Params) : absHeap (bootT P) 11 {} = boot_heap P := by rfl
noncomputable def q : Program := view pw [64]
noncomputable def otherNames : List Str := pw.boundNames.filter fun n => n != ("law" : Str)
theorem open_ok : ∀ w : World, (fencedOpening treeTable pw w 6000).map (fun s => (s.heap, s.gens, s.drawn, s.toks)) = some (absHeap (bootT w.params) 11 {}, (Array.mk [] : Array GenState), boot_drawn, boot_toks) := by
  intro w
  rw [boot_is]
  exact boot_open (by rfl) (by rfl) (fun s => by rfl) w
theorem size_ok : ∀ w : World, ((absHeap (bootT w.params) 11 {}).isNs mainGlobals && (Array.mk [] : Array GenState).size == 0, (absHeap (bootT w.params) 11 {}).nsMap mainGlobals "__annotations__") = (true, some (.ref 6)) := by
  intro w
  kernel_rfl
theorem KAs_ok : ∀ P, KAs = (KK P).map (·.1) := by intro P; kernel_rfl
theorem run_ok : ∀ w : World, (fun os => (topRunT treeTable pw w 11 (some (.ref 6)) 6000 ⟨bootT w.params, 11, {}, (Array.mk [] : Array GenState), boot_drawn, boot_toks, os⟩ (topStub pw)).map fun s =>
        ((staticsOk (importedModules pw.main.body) (absHeap (bootT w.params) 11 {}) s.abs.heap && namesBound pw s.abs.heap && gensDone s.abs && laidKept (absHeap (bootT w.params) 11 {}) s.abs.heap),
          openSeen q otherNames (importedModules pw.main.body) (fun s => xlAt q [] s && recOk (RowW.records PySem.Challenge.rw_pb0516_01.row.toRowW) s) true s.abs, (kHook KK KAs KAs_ok).obs s.abs)) = fun _ => some (true, openGood q otherNames, (kHook KK KAs KAs_ok).val w) := by
  intro w; kernel_rfl
theorem left_ok : LeftO pw q otherNames (fun s => xlAt q [] s && recOk (RowW.records PySem.Challenge.rw_pb0516_01.row.toRowW) s) (kHook KK KAs KAs_ok).obs (kHook KK KAs KAs_ok).val 6000 :=
  left_of_tree open_ok size_ok run_ok
end Mine
set_option maxHeartbeats 0
namespace Mine
abbrev rr : OpenRow := PySem.Challenge.rw_pb0516_01.row
theorem c0 : PySem.Challenge.rw_pb0516_01.wellSaid = true := by
  unfold OpenLaw.wellSaid
  repeat' (with_reducible refine Bool.and_eq_true_iff.mpr ⟨?_, ?_⟩)
  all_goals decide +kernel
theorem c1 : chainsOk q = true := by kernel_rfl
theorem c3 : (frees rr.toRowW && rr.within.isEmpty) = true := by kernel_rfl
theorem c4 : pw.bare := ⟨rfl, rfl, rfl, rfl, rfl, by decide +kernel⟩
theorem c2 : opensWell pw = true := by kernel_rfl
theorem c6 : rr.toRowW.promised := by w_witness2
noncomputable def lawD : DefRec × List (Str × PySem.Expr) := ({ name := Str.ofString "law", params := argsOf (stT 64), body := bodyOf (stT 64), scope := scopeOf (stT 64), pos := (stT 64).pos }, [])
theorem c5 : defOf q (Str.ofString "law") = some (lawD.1, lawD.2) := by kernel_rfl
theorem c7 : pw.theDef (Str.ofString "law") = some (lawD.1.params, lawD.1.body, lawD.1.scope) := by kernel_rfl
theorem c8 : kwWritten? lawD.1.params.kwonlyargs lawD.1.params.kw_defaults = some lawD.2 := by kernel_rfl
theorem of_walk (h : WalkO q otherNames (XL q []) (kHook KK KAs KAs_ok).says rr.toRowW lawD.1 lawD.2 fun f vs => PySem.call f vs) : PySem.Challenge.rw_pb0516_01.Holds :=
  holds_law c0 fun said => holds_open (r := rr) (q := q) (loose := otherNames) (Xt := fun s => xlAt q [] s && recOk (RowW.records rr.toRowW) s) (XP := XL q []) (Yf := (kHook KK KAs KAs_ok).obs) (Ya := (kHook KK KAs KAs_ok).val) (YP := (kHook KK KAs KAs_ok).says) (N := 6000) left_ok
    (Hook.of (kHook KK KAs KAs_ok)) (Hook.keeps (kHook KK KAs KAs_ok)) (fun s e => xl_of s (Bool.and_eq_true_iff.mp e).1) XL.keeps c5 c7 c8 (fun s e => recFacts_of (Bool.and_eq_true_iff.mp e).2) (by rfl) said
    (Bool.and_eq_true_iff.mpr ⟨Bool.and_eq_true_iff.mpr ⟨c1, c2⟩, c3⟩) c4 c6 h
end Mine
set_option tactic.hygienic false
namespace Mine
noncomputable def cx {α : Type} {i : Nonempty α} (P : α → Prop) : α := @Classical.epsilon α i fun x => ¬ P x
theorem hk {α : Type} [i : Nonempty α] {P : α → Prop} (h : P (@cx α i P)) : ∀ x, P x := fun x => Classical.byContradiction fun hn => @Classical.epsilon_spec_aux α i (fun x => ¬ P x) ⟨x, hn⟩ h
theorem neP {α β : Type} (i : Nonempty α) (j : Nonempty β) : Nonempty (α × β) := i.elim fun a => j.elim fun b => ⟨(a, b)⟩
noncomputable def ca1 {α β : Type} (p : α × β) : α := p.1
noncomputable def cz2 {α β : Type} (p : α × β) : β := p.2
noncomputable def ca2 {α β γ : Type} (p : α × β × γ) : β := p.2.1
noncomputable def cz3 {α β γ : Type} (p : α × β × γ) : γ := p.2.2
noncomputable def ca3 {α β γ δ : Type} (p : α × β × γ × δ) : γ := p.2.2.1
noncomputable def cz4 {α β γ δ : Type} (p : α × β × γ × δ) : δ := p.2.2.2
noncomputable def ca4 {α β γ δ ε : Type} (p : α × β × γ × δ × ε) : δ := p.2.2.2.1
noncomputable def cz5 {α β γ δ ε : Type} (p : α × β × γ × δ × ε) : ε := p.2.2.2.2
noncomputable def ca5 {α β γ δ ε ζ : Type} (p : α × β × γ × δ × ε × ζ) : ε := p.2.2.2.2.1
noncomputable def cz6 {α β γ δ ε ζ : Type} (p : α × β × γ × δ × ε × ζ) : ζ := p.2.2.2.2.2
theorem hk2 {α β : Type} [i0 : Nonempty α] [i1 : Nonempty β] {P : α → β → Prop} (h : P (ca1 (@cx (α × β) (neP i0 i1) (fun p => P (ca1 p) (cz2 p)))) (cz2 (@cx (α × β) (neP i0 i1) (fun p => P (ca1 p) (cz2 p))))) : ∀ x y, P x y := fun x y => @hk (α × β) (neP i0 i1) (fun p => P (ca1 p) (cz2 p)) h (x, y)
theorem hk3 {α β γ : Type} [i0 : Nonempty α] [i1 : Nonempty β] [i2 : Nonempty γ] {P : α → β → γ → Prop} (h : P (ca1 (@cx (α × (β × γ)) (neP i0 (neP i1 i2)) (fun p => P (ca1 p) (ca2 p) (cz3 p)))) (ca2 (@cx (α × (β × γ)) (neP i0 (neP i1 i2)) (fun p => P (ca1 p) (ca2 p) (cz3 p)))) (cz3 (@cx (α × (β × γ)) (neP i0 (neP i1 i2)) (fun p => P (ca1 p) (ca2 p) (cz3 p))))) : ∀ x y z, P x y z := fun x y z => @hk (α × (β × γ)) (neP i0 (neP i1 i2)) (fun p => P (ca1 p) (ca2 p) (cz3 p)) h (x, y, z)
theorem hk4 {α β γ δ : Type} [i0 : Nonempty α] [i1 : Nonempty β] [i2 : Nonempty γ] [i3 : Nonempty δ] {P : α → β → γ → δ → Prop} (h : P (ca1 (@cx (α × (β × (γ × δ))) (neP i0 (neP i1 (neP i2 i3))) (fun p => P (ca1 p) (ca2 p) (ca3 p) (cz4 p)))) (ca2 (@cx (α × (β × (γ × δ))) (neP i0 (neP i1 (neP i2 i3))) (fun p => P (ca1 p) (ca2 p) (ca3 p) (cz4 p)))) (ca3 (@cx (α × (β × (γ × δ))) (neP i0 (neP i1 (neP i2 i3))) (fun p => P (ca1 p) (ca2 p) (ca3 p) (cz4 p)))) (cz4 (@cx (α × (β × (γ × δ))) (neP i0 (neP i1 (neP i2 i3))) (fun p => P (ca1 p) (ca2 p) (ca3 p) (cz4 p))))) : ∀ x y z u, P x y z u := fun x y z u => @hk (α × (β × (γ × δ))) (neP i0 (neP i1 (neP i2 i3))) (fun p => P (ca1 p) (ca2 p) (ca3 p) (cz4 p)) h (x, y, z, u)
theorem hk5 {α β γ δ ε : Type} [i0 : Nonempty α] [i1 : Nonempty β] [i2 : Nonempty γ] [i3 : Nonempty δ] [i4 : Nonempty ε] {P : α → β → γ → δ → ε → Prop} (h : P (ca1 (@cx (α × (β × (γ × (δ × ε)))) (neP i0 (neP i1 (neP i2 (neP i3 i4)))) (fun p => P (ca1 p) (ca2 p) (ca3 p) (ca4 p) (cz5 p)))) (ca2 (@cx (α × (β × (γ × (δ × ε)))) (neP i0 (neP i1 (neP i2 (neP i3 i4)))) (fun p => P (ca1 p) (ca2 p) (ca3 p) (ca4 p) (cz5 p)))) (ca3 (@cx (α × (β × (γ × (δ × ε)))) (neP i0 (neP i1 (neP i2 (neP i3 i4)))) (fun p => P (ca1 p) (ca2 p) (ca3 p) (ca4 p) (cz5 p)))) (ca4 (@cx (α × (β × (γ × (δ × ε)))) (neP i0 (neP i1 (neP i2 (neP i3 i4)))) (fun p => P (ca1 p) (ca2 p) (ca3 p) (ca4 p) (cz5 p)))) (cz5 (@cx (α × (β × (γ × (δ × ε)))) (neP i0 (neP i1 (neP i2 (neP i3 i4)))) (fun p => P (ca1 p) (ca2 p) (ca3 p) (ca4 p) (cz5 p))))) : ∀ x y z u v, P x y z u v := fun x y z u v => @hk (α × (β × (γ × (δ × ε)))) (neP i0 (neP i1 (neP i2 (neP i3 i4)))) (fun p => P (ca1 p) (ca2 p) (ca3 p) (ca4 p) (cz5 p)) h (x, y, z, u, v)
theorem hk6 {α β γ δ ε ζ : Type} [i0 : Nonempty α] [i1 : Nonempty β] [i2 : Nonempty γ] [i3 : Nonempty δ] [i4 : Nonempty ε] [i5 : Nonempty ζ] {P : α → β → γ → δ → ε → ζ → Prop} (h : P (ca1 (@cx (α × (β × (γ × (δ × (ε × ζ))))) (neP i0 (neP i1 (neP i2 (neP i3 (neP i4 i5))))) (fun p => P (ca1 p) (ca2 p) (ca3 p) (ca4 p) (ca5 p) (cz6 p)))) (ca2 (@cx (α × (β × (γ × (δ × (ε × ζ))))) (neP i0 (neP i1 (neP i2 (neP i3 (neP i4 i5))))) (fun p => P (ca1 p) (ca2 p) (ca3 p) (ca4 p) (ca5 p) (cz6 p)))) (ca3 (@cx (α × (β × (γ × (δ × (ε × ζ))))) (neP i0 (neP i1 (neP i2 (neP i3 (neP i4 i5))))) (fun p => P (ca1 p) (ca2 p) (ca3 p) (ca4 p) (ca5 p) (cz6 p)))) (ca4 (@cx (α × (β × (γ × (δ × (ε × ζ))))) (neP i0 (neP i1 (neP i2 (neP i3 (neP i4 i5))))) (fun p => P (ca1 p) (ca2 p) (ca3 p) (ca4 p) (ca5 p) (cz6 p)))) (ca5 (@cx (α × (β × (γ × (δ × (ε × ζ))))) (neP i0 (neP i1 (neP i2 (neP i3 (neP i4 i5))))) (fun p => P (ca1 p) (ca2 p) (ca3 p) (ca4 p) (ca5 p) (cz6 p)))) (cz6 (@cx (α × (β × (γ × (δ × (ε × ζ))))) (neP i0 (neP i1 (neP i2 (neP i3 (neP i4 i5))))) (fun p => P (ca1 p) (ca2 p) (ca3 p) (ca4 p) (ca5 p) (cz6 p))))) : ∀ x y z u v t, P x y z u v t := fun x y z u v t => @hk (α × (β × (γ × (δ × (ε × ζ))))) (neP i0 (neP i1 (neP i2 (neP i3 (neP i4 i5))))) (fun p => P (ca1 p) (ca2 p) (ca3 p) (ca4 p) (ca5 p) (cz6 p)) h (x, y, z, u, v, t)
inductive V where
  | none | bool (b : Bool) | int (i : Int) | str (s : Str) | bytes (b : Array UInt8) | ref (a : Addr) | ext (v : Value)
  deriving Inhabited
inductive VR : V → Value → Prop where
  | none : VR .none .none
  | bool (b : Bool) : VR (.bool b) (.bool b)
  | int (i : Int) (t : Tok) : VR (.int i) (.int i t)
  | str (s : Str) (t : Tok) : VR (.str s) (.str s t)
  | bytes (b : Array UInt8) (t : Tok) : VR (.bytes b) (.bytes b t)
  | ref (a : Addr) : VR (.ref a) (.ref a)
  | ext (v : Value) : VR (.ext v) v
inductive VRs : List V → List Value → Prop where
  | nil : VRs [] []
  | cons {v : V} {x : Value} {vs : List V} {xs : List Value} : VR v x → VRs vs xs → VRs (v :: vs) (x :: xs)
@[elab_as_elim] theorem VR.noneE {x : Value} {P : Value → Prop} (h : VR .none x) (g : P .none) : P x := by cases h; exact g
@[elab_as_elim] theorem VR.boolE {b : Bool} {x : Value} {P : Value → Prop} (h : VR (.bool b) x) (g : P (.bool b)) : P x := by cases h; exact g
@[elab_as_elim] theorem VR.intE {i : Int} {x : Value} {P : Value → Prop} (h : VR (.int i) x) (g : ∀ t, P (.int i t)) : P x := by cases h; exact g _
@[elab_as_elim] theorem VR.strE {i : Str} {x : Value} {P : Value → Prop} (h : VR (.str i) x) (g : ∀ t, P (.str i t)) : P x := by cases h; exact g _
@[elab_as_elim] theorem VR.bytesE {i : Array UInt8} {x : Value} {P : Value → Prop} (h : VR (.bytes i) x) (g : ∀ t, P (.bytes i t)) : P x := by cases h; exact g _
@[elab_as_elim] theorem VR.refE {a : Addr} {x : Value} {P : Value → Prop} (h : VR (.ref a) x) (g : P (.ref a)) : P x := by cases h; exact g
@[elab_as_elim] theorem VR.extE {v x : Value} {P : Value → Prop} (h : VR (.ext v) x) (g : P v) : P x := by cases h; exact g
@[elab_as_elim] theorem VRs.nilE {xs : List Value} {P : List Value → Prop} (h : VRs [] xs) (g : P []) : P xs := by cases h; exact g
@[elab_as_elim] theorem VRs.consE {v : V} {vs : List V} {xs : List Value} {P : List Value → Prop} (h : VRs (v :: vs) xs) (g : ∀ x ys, VR v x → VRs vs ys → P (x :: ys)) : P xs := by cases h with | cons a b => exact g _ _ a b
inductive VRo : Option V → Option Value → Prop where
  | none : VRo .none .none
  | some {v : V} {x : Value} : VR v x → VRo (.some v) (.some x)
noncomputable def VRw (a : Option V) (b : Option Value) : Prop := ∀ v, a = some v → ∃ y, b = some y ∧ VR v y
theorem VRo.w {a : Option V} {b : Option Value} (h : VRo a b) : VRw a b := fun v e => by
  cases h with
  | none => cases e
  | some h => cases e; exact ⟨_, rfl, h⟩
inductive Scal where
  | str (s : Str) | int (i : Int)
  deriving DecidableEq
inductive ScR : Scal → Value → Prop where
  | str (s : Str) (t : Tok) : ScR (.str s) (.str s t)
  | int (i : Int) (t : Tok) : ScR (.int i) (.int i t)
noncomputable def scIs : Scal → Value → Bool
  | .str s, .str t _ => t == s
  | .int i, .int j _ => j == i
  | _, _ => false
theorem scIs_iff {k : Scal} {v : Value} : scIs k v = true ↔ ScR k v := by
  constructor
  · intro h
    cases k <;> cases v <;> simp only [scIs, beq_iff_eq, Bool.false_eq_true] at h <;> subst h
    · exact .str _ _
    · exact .int _ _
  · intro h; cases h <;> simp [scIs]
section
variable {prog : Program} {w : World} {A : Around} {E : Value → Shared → Prop} {s : Shared}
theorem eqBool_str_int {a : Str} {t : Tok} {b : Int} {u : Tok} {Q : Bool → Shared → Prop} (h : Q false s) : wpAny (model prog w) A (eqBool (.str a t) (.int b u)) Q E s := by
  unfold eqBool
  refine wpAny_holding ?_
  rw [if_neg (show ¬ ((Value.str a t == Value.int b u) = true) by simp)]
  exact wpAny_bind (wpAny_mono (EqMixed.eq_str_int (E := E) (Q := fun v s' => v = .bool false ∧ s' = s) ⟨rfl, rfl⟩) (fun v s' ⟨e1, e2⟩ => by subst e1; subst e2; exact wpAny_truthy_bool h) fun _ _ x => x)
theorem eqBool_int_str {a : Int} {t : Tok} {b : Str} {u : Tok} {Q : Bool → Shared → Prop} (h : Q false s) : wpAny (model prog w) A (eqBool (.int a t) (.str b u)) Q E s := by
  unfold eqBool
  refine wpAny_holding ?_
  rw [if_neg (show ¬ ((Value.int a t == Value.str b u) = true) by simp)]
  exact wpAny_bind (wpAny_mono (EqMixed.eq_int_str (E := E) (Q := fun v s' => v = .bool false ∧ s' = s) ⟨rfl, rfl⟩) (fun v s' ⟨e1, e2⟩ => by subst e1; subst e2; exact wpAny_truthy_bool h) fun _ _ x => x)
end
noncomputable def scHash (w : World) : Scal → Int
  | .str s => hashStr w s
  | .int i => hashInt i
noncomputable def scalKind (prog : Program) (w : World) : KeyKind prog w Scal where
  is := scIs
  hash := scHash w
  inj v a b ha hb := by have ha := scIs_iff.mp ha; have hb := scIs_iff.mp hb; cases ha <;> cases hb <;> rfl
  byValue k v h := by have h := scIs_iff.mp h; cases h <;> rfl
  pyHash hv h := by
    have hv := scIs_iff.mp hv
    cases hv with
    | str s t => exact wpAny_pyHash_str h
    | int i t => exact wpAny_pyHash_int h
  eqBool hu hv h := by
    have hu := scIs_iff.mp hu
    have hv := scIs_iff.mp hv
    cases hu with
    | str s t => cases hv with
      | str s' t' => exact wpAny_eqBool_str (by simpa using h)
      | int i t' => exact eqBool_str_int (by simpa using h)
    | int i t => cases hv with
      | str s' t' => exact eqBool_int_str (by simpa using h)
      | int j t' => exact wpAny_eqBool_int (by rw [show (i == j) = decide (Scal.int i = Scal.int j) by rw [Bool.eq_iff_iff]; simp]; exact h)
  «strs» k x t v h := by
    have h := scIs_iff.mp h
    cases h with
    | str s t => cases v <;> simp [scIs, Value.isStr]
abbrev Lo := Str → Option V
inductive C where
  | lo (m : Lo)
  | ns (m : Lo) (k : Nat)
  | cell (v : Option V)
  | list (xs : List V)
  | sdict (xs : List (Scal × V))
  | tdict (xs : List (List Scal × V))
  | bdict (xs : List (List UInt8 × V))
  | raw (o : Obj)
abbrev Ph := Addr → Option Obj
abbrev Sg := Addr → Option C
noncomputable def NsO (o : Obj) (m : Str → Option Value) : Prop := ∃ es ep, o.data = .dict es ep ∧ StrKeys es ∧ ∀ name, nsFind es name = m name
noncomputable def NsK (o : Obj) (m : Str → Option Value) (k : Nat) : Prop := ∃ es ep, o.data = .dict es ep ∧ StrKeys es ∧ (∀ name, nsFind es name = m name) ∧ es.size ≤ k
theorem NsK.o {o : Obj} {m : Str → Option Value} {k : Nat} (h : NsK o m k) : NsO o m := let ⟨es, ep, a, b, c, _⟩ := h; ⟨es, ep, a, b, c⟩
theorem ns_iff {h : Heap} {a : Addr} {m : Str → Option Value} : h.Ns a m ↔ ∃ o, h.get? a = some o ∧ NsO o m :=
  ⟨fun ⟨o, es, ep, a, b, c, d⟩ => ⟨o, a, es, ep, b, c, d⟩, fun ⟨o, a, es, ep, b, c, d⟩ => ⟨o, es, ep, a, b, c, d⟩⟩
inductive KVs {K : Type} : List (K × V) → List (K × Value) → Prop where
  | nil : KVs [] []
  | cons {k : K} {v : V} {x : Value} {vs xs} : VR v x → KVs vs xs → KVs ((k, v) :: vs) ((k, x) :: xs)
inductive KAVs : List (List Scal × V) → List (List Scal × Addr × Value) → Prop where
  | nil : KAVs [] []
  | cons {k : List Scal} {v : V} {a : Addr} {x : Value} {vs xs} : VR v x → KAVs vs xs → KAVs ((k, v) :: vs) ((k, a, x) :: xs)
section
variable (w : World) (H0 : Heap)
noncomputable def TupKey (φ : Ph) (ks : List Scal) (a : Addr) : Prop := ∃ o items n, φ a = some o ∧ o.cls = .type "tuple" ∧ o.data = .seq items n ∧ ItemsAre (scalKind pw w) ks items.toList
noncomputable def CR (φ : Ph) : C → Obj → Prop
  | .lo m, o => ∃ m', NsO o m' ∧ ∀ x, VRw (m x) (m' x)
  | .ns m k, o => ∃ m', NsK o m' k ∧ ∀ x, VRo (m x) (m' x)
  | .cell v, o => ∃ v', o.data = .cell v' ∧ VRw v v'
  | .list xs, o => ∃ items n, o = ⟨.type "list", none, .seq items n, #[]⟩ ∧ VRs xs items.toList
  | .raw o', o => o = o'
  | .sdict xs, o => ∃ kvs, o.IsDictOf (scalKind pw w) kvs ∧ KVs xs kvs
  | .bdict xs, o => ∃ kvs, o.IsDictOf (bytesKind pw w) kvs ∧ KVs xs kvs
  | .tdict xs, o => ∃ kvs es ep, KAVs xs kvs ∧ o.ExactDict ∧ o.data = .dict es ep ∧ es.toList = kvs.map (entryOfKey (tupleKind (scalKind pw w))) ∧ (∀ x ∈ kvs, TupKey w φ x.1 x.2.1) ∧ (kvs.map (·.1)).Nodup
structure HR (φ : Ph) (σ : Sg) (h : Heap) : Prop where
  keep : ∀ a o, φ a = some o → h.get? a = some o
  root : ∀ a o, H0.get? a = some o → φ a = some o
  cells : ∀ a c, σ a = some c → φ a = none ∧ ∃ o, h.get? a = some o ∧ CR w φ c o
  high : ∀ a c, σ a = some c → sysModules < a
  big : ∃ z o, H0.get? z = some o ∧ sysModules < z
structure EnvOk (sc : Scope) (env : Env) : Prop where
  scope : env.scope = sc
  fn : sc.kind = .function
  glob : env.globals = mainGlobals
  blt : env.builtins = builtinsNs
  apart : env.cells.Pairwise fun x y => x.2 ≠ y.2
  noL : ∀ p ∈ env.cells, p.2 ≠ env.locals
  has : ∀ x k, sc.names.lookup x = some k → (k = .cell ∨ k = .free) → ∃ c, env.cells.lookup x = some c
  ckind : ∀ p ∈ env.cells, sc.names.lookup p.1 ≠ some .local
  nd : (env.cells.map (·.1)).Nodup
noncomputable def fr (env : Env) (ρ : Lo) : Sg := fun a =>
  if a = env.locals then some (.lo fun x => if env.kindOf x = some .local then ρ x else none)
  else (env.cells.find? fun p => p.2 == a).map fun p => .cell (ρ p.1)
noncomputable def jn (τ σ : Sg) : Sg := fun a => (τ a).or (σ a)
noncomputable def upd (σ : Sg) (a : Addr) (c : C) : Sg := fun b => if b = a then some c else σ b
noncomputable def setL (ρ : Lo) (x : Str) (v : V) : Lo := fun y => if y = x then some v else ρ y
noncomputable def Room (n : Nat) (A : Around) : Prop := A.depth + 4 * n ≤ 900 ∧ A.units + 40 * n ≤ 9000 ∧ A.handled = none
structure Ok (sc : Scope) (n : Nat) (τ : Sg) (env : Env) (A : Around) (ρ : Lo) (φ : Ph) (σ : Sg) (s : Shared) : Prop where
  ok : EnvOk sc env
  room : Room n A
  dj1 : ∀ a, (fr env ρ a).isSome = true → τ a = none ∧ σ a = none
  dj2 : ∀ a, (σ a).isSome = true → τ a = none
  hr : HR w H0 φ (jn (jn τ (fr env ρ)) σ) s.heap
noncomputable def Same (s s' : Shared) : Prop := s'.gens = s.gens ∧ s'.os = s.os
inductive Post {α β : Type} (sc : Scope) (n : Nat) (τ : Sg) (env : Env) (A : Around) (s : Shared) (R : β → α → Prop) (Q : β → Lo → Ph → Sg → Prop) (x : α) (s' : Shared) : Prop
  | mk (b : β) (ρ' : Lo) (φ' : Ph) (σ' : Sg) (r : R b x) (k : Ok w H0 sc n τ env A ρ' φ' σ' s') (m : Same s s') (q : Q b ρ' φ' σ') : Post sc n τ env A s R Q x s'
inductive CPost (τ : Sg) (s : Shared) (Q : V → Ph → Sg → Prop) (x : Value) (s' : Shared) : Prop
  | mk (v : V) (φ' : Ph) (σ' : Sg) (r : VR v x) (d : ∀ a, (σ' a).isSome = true → τ a = none) (h : HR w H0 φ' (jn τ σ') s'.heap) (m : Same s s') (q : Q v φ' σ') : CPost τ s Q x s'
noncomputable def W {α β : Type} (sc : Scope) (n : Nat) (R : β → α → Prop) (t : Env → Sem α) (ρ : Lo) (φ : Ph) (σ : Sg) (Q : β → Lo → Ph → Sg → Prop) : Prop :=
  ∀ τ env A s, Ok w H0 sc n τ env A ρ φ σ s → wpAny (model pw w) A (t env) (Post w H0 sc n τ env A s R Q) (fun _ _ => False) s
noncomputable def CW (n : Nat) (f : Value) (vs : List V) (φ : Ph) (σ : Sg) (Q : V → Ph → Sg → Prop) : Prop :=
  ∀ τ A s xs, Room n A → VRs vs xs → (∀ a, (σ a).isSome = true → τ a = none) → HR w H0 φ (jn τ σ) s.heap →
    wpAny (model pw w) A (call f xs) (CPost w H0 τ s Q) (fun _ _ => False) s
end
theorem neC : Nonempty C := ⟨.cell none⟩
theorem neShared : Nonempty Shared := ⟨{}⟩
theorem neHeap : Nonempty Heap := ⟨{}⟩
theorem neAround : Nonempty Around := ⟨callerA⟩
structure Rt (w : World) (H0 : Heap) : Prop where
  K : (KK w.params).In H0
  glob : ∃ mg, H0.Ns mainGlobals mg ∧ ∀ x r, nsIn (KK w.params) mainGlobals x = some r → mg x = r
  blt : ∃ mb, H0.Ns builtinsNs mb ∧ ∀ x : Str, x ≠ "__name__" → mb x = bootBuiltins x
  lim : H0.NoLimit
noncomputable def Asked (p : World × Heap) : Prop := Rt p.1 p.2 → ∀ (sl : Addr) (is : List Int) (s : Shared), (∃ items n, p.2.get? sl = some ⟨.type "list", none, .seq items n, #[]⟩ ∧ VRs (is.map .int) items.toList) → is.length ≤ 63 → s.heap = p.2 →
  wpAny (model pw p.1) callerA (call (.ref 726) [.ref sl]) (fun x s' => x = .bool true ∧ (∀ b o, p.2.get? b = some o → s'.heap.get? b = some o) ∧ Same s s') (fun _ _ => False) s
theorem whNe : Nonempty (World × Heap) := ⟨{ draws := fun _ _ => 0, params := { strHash := fun _ => 0, shareClass := fun _ => 0, mergeTok := id, idOf := fun _ => 0, idOfShared := fun _ _ => 0, followText := fun _ => false, idOfImm := fun _ => 0 } }, {}⟩
noncomputable def wh : World × Heap := @Classical.epsilon _ whNe fun p => ¬ Asked p
@[irreducible] noncomputable def w : World := wh.1
@[irreducible] noncomputable def H0 : Heap := wh.2
theorem asked_all (h : Asked (w, H0)) : ∀ p, Asked p := fun p => Classical.byContradiction fun hn =>
  (Classical.epsilon_spec_aux whNe (fun p => ¬ Asked p) ⟨p, hn⟩) (by unfold w H0 at h; exact h)
end Mine
namespace Mine
noncomputable def Le (φ φ' : Ph) : Prop := ∀ a o, φ a = some o → φ' a = some o
theorem Le.refl (φ : Ph) : Le φ φ := fun _ _ h => h
theorem Le.trans {a b c : Ph} (x : Le a b) (y : Le b c) : Le a c := fun _ _ h => y _ _ (x _ _ h)
noncomputable def updP (φ : Ph) (a : Addr) (o : Obj) : Ph := fun b => if b = a then some o else φ b
theorem Le.upd {φ : Ph} {a : Addr} {o : Obj} (h : φ a = none) : Le φ (updP φ a o) := fun b o' e => by
  unfold updP
  by_cases hb : b = a
  · subst hb; rw [h] at e; cases e
  · rw [if_neg hb]; exact e
@[simp] theorem updP_same (φ : Ph) (a : Addr) (o : Obj) : updP φ a o a = some o := by simp [updP]
theorem upd_same (σ : Sg) (a : Addr) (c : C) : upd σ a c a = some c := by simp [upd]
theorem upd_other {σ : Sg} {a b : Addr} {c : C} (h : b ≠ a) : upd σ a c b = σ b := by simp [upd, h]
noncomputable def del (σ : Sg) (a : Addr) : Sg := fun b => if b = a then none else σ b
theorem TupKey.le {φ φ' : Ph} (l : Le φ φ') {ks : List Scal} {a : Addr} (h : TupKey w φ ks a) : TupKey w φ' ks a :=
  by obtain ⟨o, items, n, h1, h2⟩ := h; exact ⟨o, items, n, l _ _ h1, h2⟩
theorem CR.le {φ φ' : Ph} (l : Le φ φ') {c : C} {o : Obj} (h : CR w φ c o) : CR w φ' c o := by
  cases c with
  | tdict xs => exact let ⟨k, es, ep, h1, h2, h3, h4, h5, h6⟩ := h; ⟨k, es, ep, h1, h2, h3, h4, fun x hx => (h5 x hx).le l, h6⟩
  | _ => exact h
theorem jn_upd {τ σ : Sg} {a : Addr} {c : C} (h : τ a = none) : jn τ (upd σ a c) = upd (jn τ σ) a c := by
  funext b
  unfold jn upd
  by_cases hb : b = a
  · subst hb; simp [h]
  · simp [hb]
theorem jn_none {τ σ : Sg} {a : Addr} : jn τ σ a = none ↔ τ a = none ∧ σ a = none := by
  unfold jn; cases τ a <;> simp
theorem jn_right {τ σ : Sg} {a : Addr} {c : C} (h : τ a = none) (h' : σ a = some c) : jn τ σ a = some c := by simp [jn, h, h']
theorem jn_left {τ σ : Sg} {a : Addr} {c : C} (h : τ a = some c) : jn τ σ a = some c := by simp [jn, h]
theorem HR.fresh {φ : Ph} {σ : Sg} {h : Heap} (x : HR w H0 φ σ h) : σ h.objs.size = none ∧ φ h.objs.size = none := by
  constructor
  · cases e : σ h.objs.size with
    | none => rfl
    | some c => obtain ⟨_, o, ho, _⟩ := x.cells _ _ e; exact absurd (Heap.lt_size ho) (Nat.lt_irrefl _)
  · cases e : φ h.objs.size with
    | none => rfl
    | some o => exact absurd (Heap.lt_size (x.keep _ _ e)) (Nat.lt_irrefl _)
theorem HR.lt {φ : Ph} {σ : Sg} {h : Heap} (x : HR w H0 φ σ h) {a : Addr} {c : C} (e : σ a = some c) : a < h.objs.size :=
  by obtain ⟨_, _, ho, _⟩ := x.cells _ _ e; exact Heap.lt_size ho
theorem HR.ltP {φ : Ph} {σ : Sg} {h : Heap} (x : HR w H0 φ σ h) {a : Addr} {o : Obj} (e : φ a = some o) : a < h.objs.size := Heap.lt_size (x.keep _ _ e)
theorem HR.grow {φ : Ph} {σ : Sg} {h h' : Heap} (x : HR w H0 φ σ h) (k : ∀ b o, h.get? b = some o → h'.get? b = some o) : HR w H0 φ σ h' :=
  ⟨fun a o e => k _ _ (x.keep a o e), x.root, fun a c e => by obtain ⟨h1, o, h2, h3⟩ := x.cells a c e; exact ⟨h1, o, k _ _ h2, h3⟩, x.high, x.big⟩
theorem HR.past {φ : Ph} {σ : Sg} {h : Heap} (x : HR w H0 φ σ h) : sysModules < h.objs.size := by
  obtain ⟨z, o, h1, h2⟩ := x.big
  exact Nat.lt_trans h2 (Heap.lt_size (x.keep _ _ (x.root _ _ h1)))
theorem HR.push {φ : Ph} {σ : Sg} {h : Heap} (x : HR w H0 φ σ h) (o : Obj) : HR w H0 φ σ (h.push o) := x.grow fun _ _ e => Heap.get?_push_of_some _ e
theorem HR.allocC : ∀ {φ : Ph} {σ : Sg} {h : Heap} {o : Obj} {c : C} (x : HR w H0 φ σ h) (hc : CR w φ c o) (hf : o.isFreed = false), HR w H0 φ (upd σ h.objs.size c) (h.push o) := by
  refine @Mine.hk5 _ _ _ _ _ _ _ neHeap _ neC _ ?_; generalize ca1 (cx _) = φ, ca2 (cx _) = σ, ca3 (cx _) = h, ca4 (cx _) = o, cz5 (cx _) = c
  intro x hc hf
  have f := x.fresh
  have y := x.push o
  refine ⟨y.keep, y.root, fun a c' e => ?_, fun a c' e => ?_, x.big⟩
  rotate_left
  · unfold upd at e
    by_cases ha : a = h.objs.size
    · subst ha; exact x.past
    · rw [if_neg ha] at e; exact x.high a c' e
  unfold upd at e
  by_cases ha : a = h.objs.size
  · subst ha; rw [if_pos rfl] at e; cases e; exact ⟨f.2, o, Heap.get?_push_size _ hf, hc⟩
  · rw [if_neg ha] at e; exact y.cells a c' e
theorem HR.allocP {φ : Ph} {σ : Sg} {h : Heap} (x : HR w H0 φ σ h) {o : Obj} (hf : o.isFreed = false) : HR w H0 (updP φ h.objs.size o) σ (h.push o) ∧ Le φ (updP φ h.objs.size o) := by
  have f := x.fresh
  have y := x.push o
  have l : Le φ (updP φ h.objs.size o) := Le.upd f.2
  refine ⟨⟨fun a o' e => ?_, fun a o' e => l _ _ (y.root a o' e), fun a c e => ?_, x.high, x.big⟩, l⟩
  · unfold updP at e
    by_cases ha : a = h.objs.size
    · subst ha; rw [if_pos rfl] at e; cases e; exact Heap.get?_push_size _ hf
    · rw [if_neg ha] at e; exact y.keep a o' e
  · obtain ⟨h1, o', h2, h3⟩ := y.cells a c e
    refine ⟨?_, o', h2, h3.le l⟩
    have ha : a ≠ h.objs.size := fun q => by subst q; rw [f.1] at e; cases e
    unfold updP; rw [if_neg ha]; exact h1
theorem HR.set {φ : Ph} {σ : Sg} {h h' : Heap} (x : HR w H0 φ σ h) {a : Addr} {c c' : C} (e : σ a = some c) (hs : ∀ b, b ≠ a → h'.get? b = h.get? b) {o : Obj} (ho : h'.get? a = some o) (hc : CR w φ c' o) :
    HR w H0 φ (upd σ a c') h' := by
  have na := (x.cells a c e).1
  refine ⟨fun b o' eb => ?_, x.root, fun b cb eb => ?_, fun b cb eb => ?_, x.big⟩
  rotate_right
  · unfold upd at eb
    by_cases hb : b = a
    · subst hb; exact x.high _ _ e
    · rw [if_neg hb] at eb; exact x.high _ _ eb
  · have hb : b ≠ a := fun q => by subst q; rw [na] at eb; cases eb
    rw [hs b hb]; exact x.keep b o' eb
  · unfold upd at eb
    by_cases hb : b = a
    · subst hb; rw [if_pos rfl] at eb; cases eb; exact ⟨na, o, ho, hc⟩
    · rw [if_neg hb] at eb
      obtain ⟨h1, o', h2, h3⟩ := x.cells b cb eb
      exact ⟨h1, o', (hs b hb).trans h2, h3⟩
theorem HR.sub {φ : Ph} {σ σ' : Sg} {h : Heap} (x : HR w H0 φ σ h) (hs : ∀ a c, σ' a = some c → σ a = some c) : HR w H0 φ σ' h := ⟨x.keep, x.root, fun a c e => x.cells a c (hs a c e), fun a c e => x.high a c (hs a c e), x.big⟩
theorem HR.freeze {φ : Ph} {σ : Sg} {h : Heap} (x : HR w H0 φ σ h) {a : Addr} {c : C} (e : σ a = some c) : ∃ o, CR w φ c o ∧ HR w H0 (updP φ a o) (del σ a) h ∧ Le φ (updP φ a o) := by
  obtain ⟨na, o, ho, hc⟩ := x.cells a c e
  have l : Le φ (updP φ a o) := Le.upd na
  refine ⟨o, hc, ⟨fun b o' eb => ?_, fun b o' eb => l _ _ (x.root b o' eb), fun b cb eb => ?_, fun b cb eb => ?_, x.big⟩, l⟩
  rotate_right
  · unfold del at eb
    by_cases hb : b = a
    · subst hb; rw [if_pos rfl] at eb; cases eb
    · rw [if_neg hb] at eb; exact x.high _ _ eb
  · unfold updP at eb
    by_cases hb : b = a
    · subst hb; rw [if_pos rfl] at eb; cases eb; exact ho
    · rw [if_neg hb] at eb; exact x.keep b o' eb
  · unfold del at eb
    by_cases hb : b = a
    · subst hb; rw [if_pos rfl] at eb; cases eb
    · rw [if_neg hb] at eb
      obtain ⟨h1, o', h2, h3⟩ := x.cells b cb eb
      refine ⟨?_, o', h2, h3.le l⟩
      unfold updP; rw [if_neg hb]; exact h1
theorem fr_some_iff (env : Env) (ρ ρ' : Lo) (a : Addr) : (fr env ρ a).isSome = (fr env ρ' a).isSome := by
  unfold fr
  split
  · rfl
  · simp [Option.isSome_map]
theorem fr_locals (env : Env) (ρ : Lo) : fr env ρ env.locals = some (.lo fun x => if env.kindOf x = some .local then ρ x else none) := by simp [fr]
theorem find_cell {l : List (Str × Addr)} (hp : l.Pairwise fun x y => x.2 ≠ y.2) {x : Str} {c : Addr} (h : (x, c) ∈ l) : l.find? (fun p => p.2 == c) = some (x, c) := by
  induction l with
  | nil => cases h
  | cons p r ih =>
    rw [List.pairwise_cons] at hp
    rcases List.mem_cons.mp h with rfl | h
    · simp
    · have : p.2 ≠ c := hp.1 _ h
      rw [List.find?_cons_of_neg (by simpa using this)]
      exact ih hp.2 h
set_option tactic.hygienic true in
theorem lookup_mem {l : List (Str × Addr)} {x : Str} {c : Addr} (h : l.lookup x = some c) : (x, c) ∈ l := by
  induction l with
  | nil => cases h
  | cons p r ih =>
    obtain ⟨y, d⟩ := p
    rw [List.lookup_cons] at h
    split at h
    · rename_i q; cases h; rw [beq_iff_eq.mp q]; exact .head _
    · exact .tail _ (ih h)
theorem fr_cell {sc : Scope} {env : Env} (E : EnvOk sc env) (ρ : Lo) {x : Str} {c : Addr} (h : env.cells.lookup x = some c) : fr env ρ c = some (.cell (ρ x)) := by
  have hm := lookup_mem h
  unfold fr
  rw [if_neg (E.noL _ hm), find_cell E.apart hm]; rfl
theorem Ok.full_locals {sc : Scope} {n : Nat} {τ : Sg} {env : Env} {A : Around} {ρ : Lo} {φ : Ph} {σ : Sg} {s : Shared} (k : Ok w H0 sc n τ env A ρ φ σ s) :
    jn (jn τ (fr env ρ)) σ env.locals = some (.lo fun x => if env.kindOf x = some .local then ρ x else none) := by
  have d := k.dj1 env.locals (by rw [fr_locals]; rfl)
  exact jn_left (jn_right d.1 (fr_locals env ρ))
theorem Ok.full_cell {sc : Scope} {n : Nat} {τ : Sg} {env : Env} {A : Around} {ρ : Lo} {φ : Ph} {σ : Sg} {s : Shared} (k : Ok w H0 sc n τ env A ρ φ σ s) {x : Str} {c : Addr} (h : env.cells.lookup x = some c) :
    jn (jn τ (fr env ρ)) σ c = some (.cell (ρ x)) := by
  have e := fr_cell k.ok ρ h
  have d := k.dj1 c (by rw [e]; rfl)
  exact jn_left (jn_right d.1 e)
theorem Ok.full_sg {sc : Scope} {n : Nat} {τ : Sg} {env : Env} {A : Around} {ρ : Lo} {φ : Ph} {σ : Sg} {s : Shared} (k : Ok w H0 sc n τ env A ρ φ σ s) {a : Addr} {c : C} (h : σ a = some c) :
    jn (jn τ (fr env ρ)) σ a = some c := by
  refine jn_right (jn_none.mpr ⟨k.dj2 a (by rw [h]; rfl), ?_⟩) h
  cases e : fr env ρ a with
  | none => rfl
  | some x => have := (k.dj1 a (by rw [e]; rfl)).2; rw [h] at this; cases this
theorem Ok.at {sc : Scope} {n : Nat} {τ : Sg} {env : Env} {A : Around} {ρ : Lo} {φ : Ph} {σ : Sg} {s s' : Shared} (k : Ok w H0 sc n τ env A ρ φ σ s) (h : s'.heap = s.heap) : Ok w H0 sc n τ env A ρ φ σ s' :=
  ⟨k.ok, k.room, k.dj1, k.dj2, h ▸ k.hr⟩
theorem Ok.heap {sc : Scope} {n : Nat} {τ : Sg} {env : Env} {A : Around} {ρ : Lo} {φ φ' : Ph} {σ : Sg} {s s' : Shared} (k : Ok w H0 sc n τ env A ρ φ σ s) (h : HR w H0 φ' (jn (jn τ (fr env ρ)) σ) s'.heap) : Ok w H0 sc n τ env A ρ φ' σ s' :=
  ⟨k.ok, k.room, k.dj1, k.dj2, h⟩
theorem Ok.allocC {sc : Scope} {n : Nat} {τ : Sg} {env : Env} {A : Around} {ρ : Lo} {φ : Ph} {σ : Sg} {s s' : Shared} (k : Ok w H0 sc n τ env A ρ φ σ s) {o : Obj} {c : C} (hc : CR w φ c o) (hf : o.isFreed = false) (hs : s'.heap = s.heap.push o) :
    Ok w H0 sc n τ env A ρ φ (upd σ s.heap.objs.size c) s' ∧ σ s.heap.objs.size = none ∧ φ s.heap.objs.size = none := by
  have f := k.hr.fresh
  have f1 := jn_none.mp f.1
  have f2 := jn_none.mp f1.1
  refine ⟨⟨k.ok, k.room, fun a e => ?_, fun a e => ?_, ?_⟩, f1.2, f.2⟩
  · have d := k.dj1 a e
    refine ⟨d.1, ?_⟩
    have : a ≠ s.heap.objs.size := fun q => by subst q; rw [f2.2] at e; cases e
    rw [upd_other this]; exact d.2
  · by_cases ha : a = s.heap.objs.size
    · subst ha; exact f2.1
    · rw [upd_other ha] at e; exact k.dj2 a e
  · rw [jn_upd f1.1, hs]; exact k.hr.allocC hc hf
theorem Ok.allocP {sc : Scope} {n : Nat} {τ : Sg} {env : Env} {A : Around} {ρ : Lo} {φ : Ph} {σ : Sg} {s s' : Shared} (k : Ok w H0 sc n τ env A ρ φ σ s) {o : Obj} (hf : o.isFreed = false) (hs : s'.heap = s.heap.push o) :
    Ok w H0 sc n τ env A ρ (updP φ s.heap.objs.size o) σ s' ∧ Le φ (updP φ s.heap.objs.size o) ∧ σ s.heap.objs.size = none ∧ φ s.heap.objs.size = none := by
  have f := k.hr.fresh
  have y := k.hr.allocP hf
  exact ⟨⟨k.ok, k.room, k.dj1, k.dj2, by rw [hs]; exact y.1⟩, y.2, (jn_none.mp f.1).2, f.2⟩
theorem Ok.set {sc : Scope} {n : Nat} {τ : Sg} {env : Env} {A : Around} {ρ : Lo} {φ : Ph} {σ : Sg} {s s' : Shared} (k : Ok w H0 sc n τ env A ρ φ σ s) {a : Addr} {c c' : C} (e : σ a = some c) {o : Obj}
    (hs : ∀ b, b ≠ a → s'.heap.get? b = s.heap.get? b) (ho : s'.heap.get? a = some o) (hc : CR w φ c' o) : Ok w H0 sc n τ env A ρ φ (upd σ a c') s' := by
  have hk := k.dj2 a (by rw [e]; rfl)
  have hfr : fr env ρ a = none := by
    cases q : fr env ρ a with
    | none => rfl
    | some x => have := (k.dj1 a (by rw [q]; rfl)).2; rw [e] at this; cases this
  refine ⟨k.ok, k.room, fun b eb => ?_, fun b eb => ?_, ?_⟩
  · have d := k.dj1 b eb
    have : b ≠ a := fun q => by subst q; rw [hfr] at eb; cases eb
    rw [upd_other this]; exact d
  · by_cases hb : b = a
    · subst hb; exact hk
    · rw [upd_other hb] at eb; exact k.dj2 b eb
  · rw [jn_upd (jn_none.mpr ⟨hk, hfr⟩)]; exact k.hr.set (k.full_sg e) hs ho hc
theorem Ok.freeze : ∀ {sc : Scope} {n : Nat} {τ : Sg} {env : Env} {A : Around} {ρ : Lo} {φ : Ph} {σ : Sg} {s : Shared} {a : Addr} {c : C} (k : Ok w H0 sc n τ env A ρ φ σ s) (e : σ a = some c),
    ∃ o, CR w φ c o ∧ φ a = none ∧ Ok w H0 sc n τ env A ρ (updP φ a o) (del σ a) s ∧ Le φ (updP φ a o) := by
  refine @Mine.hk6 _ _ _ _ _ _ _ _ _ _ neAround _ _ ?_; generalize ca1 (cx _) = sc, ca2 (cx _) = n, ca3 (cx _) = τ, ca4 (cx _) = env, ca5 (cx _) = A, cz6 (cx _) = ρ
  refine @Mine.hk5 _ _ _ _ _ _ _ neShared _ neC _ ?_; generalize ca1 (cx _) = φ, ca2 (cx _) = σ, ca3 (cx _) = s, ca4 (cx _) = a, cz5 (cx _) = c
  intro k e
  obtain ⟨o, hc, hr, l⟩ := k.hr.freeze (k.full_sg e)
  refine ⟨o, hc, (k.hr.cells _ _ (k.full_sg e)).1, ⟨k.ok, k.room, fun b eb => ?_, fun b eb => ?_, hr.sub fun b cb eb => ?_⟩, l⟩
  · have d := k.dj1 b eb
    refine ⟨d.1, ?_⟩
    unfold del; split
    · rfl
    · exact d.2
  · unfold del at eb; split at eb
    · cases eb
    · exact k.dj2 b eb
  · by_cases hb : b = a
    · subst hb
      exfalso
      have hk := k.dj2 b (by rw [e]; rfl)
      have hfr : fr env ρ b = none := by
        cases q : fr env ρ b with
        | none => rfl
        | some x => have := (k.dj1 b (by rw [q]; rfl)).2; rw [e] at this; cases this
      unfold jn del at eb
      simp [hk, hfr] at eb
    · show del _ a b = some cb
      unfold jn del at *
      simpa [hb] using eb
theorem Ok.subσ {sc : Scope} {n : Nat} {τ : Sg} {env : Env} {A : Around} {ρ : Lo} {φ : Ph} {σ σ' : Sg} {s : Shared} (k : Ok w H0 sc n τ env A ρ φ σ s) (hs : ∀ a c, σ' a = some c → σ a = some c) : Ok w H0 sc n τ env A ρ φ σ' s := by
  have hn : ∀ a, σ a = none → σ' a = none := fun a e => by
    cases q : σ' a with
    | none => rfl
    | some c => rw [hs a c q] at e; cases e
  refine ⟨k.ok, k.room, fun a e => ⟨(k.dj1 a e).1, hn _ (k.dj1 a e).2⟩, fun a e => ?_, k.hr.sub fun a c e => ?_⟩
  · obtain ⟨c, hc⟩ := Option.isSome_iff_exists.mp e
    exact k.dj2 a (by rw [hs a c hc]; rfl)
  · unfold jn at e ⊢
    cases q : ((τ a).or (fr env ρ a)) with
    | some c' => rw [q] at e; exact e
    | none => rw [q] at e; simp only [Option.none_or] at e ⊢; exact hs a c e
theorem Same.refl (s : Shared) : Same s s := ⟨rfl, rfl⟩
theorem Same.trans {a b c : Shared} (x : Same a b) (y : Same b c) : Same a c := ⟨y.1.trans x.1, y.2.trans x.2⟩
section
variable {α β α' β' : Type} {sc : Scope} {n : Nat} {R : β → α → Prop} {R' : β' → α' → Prop} {t : Env → Sem α} {ρ : Lo} {φ : Ph} {σ : Sg} {Q : β → Lo → Ph → Sg → Prop}
theorem Post.run {α β : Type} {sc : Scope} {n : Nat} {τ : Sg} {env : Env} {A : Around} {s : Shared} {R : β → α → Prop} {Q : β → Lo → Ph → Sg → Prop} {A' : Around} {t : Sem α} {P : α → Shared → Prop} {s0 : Shared}
    (h : wpAny (model pw w) A' t (Post w H0 sc n τ env A s R Q) (fun _ _ => False) s0) (g : ∀ x s' b ρ' φ' σ', R b x → Ok w H0 sc n τ env A ρ' φ' σ' s' → Same s s' → Q b ρ' φ' σ' → P x s') : wpAny (model pw w) A' t P (fun _ _ => False) s0 :=
  wpAny_mono h (fun x s' hPt => by obtain ⟨b, ρ', φ', σ', r, k, m, q⟩ := hPt; exact g x s' b ρ' φ' σ' r k m q) fun _ _ x => x
theorem Post.runE {α β : Type} {sc : Scope} {n : Nat} {τ : Sg} {env : Env} {A : Around} {s : Shared} {R : β → α → Prop} {Q : β → Lo → Ph → Sg → Prop} {A' : Around} {E : Value → Shared → Prop} {t : Sem α} {P : α → Shared → Prop} {s0 : Shared}
    (h : wpAny (model pw w) A' t (Post w H0 sc n τ env A s R Q) (fun _ _ => False) s0) (g : ∀ x s' b ρ' φ' σ', R b x → Ok w H0 sc n τ env A ρ' φ' σ' s' → Same s s' → Q b ρ' φ' σ' → P x s') : wpAny (model pw w) A' t P E s0 :=
  wpAny_mono h (fun x s' hPt => by obtain ⟨b, ρ', φ', σ', r, k, m, q⟩ := hPt; exact g x s' b ρ' φ' σ' r k m q) fun _ _ x => x.elim
theorem W.use {M' : Prop} (h : W w H0 sc n R t ρ φ σ Q) {τ : Sg} {env : Env} {A : Around} {s : Shared} (k : Ok w H0 sc n τ env A ρ φ σ s) {Q' : α → Shared → Prop}
    (hQ : ∀ b x ρ' φ' σ' s', R b x → Ok w H0 sc n τ env A ρ' φ' σ' s' → Same s s' → Q b ρ' φ' σ' → Q' x s') : wpAny (model pw w) A (t env) Q' (fun _ _ => False) s :=
  Post.run (h τ env A s k) (fun x s' b ρ' φ' σ' h1 h2 h3 h4 => hQ b x ρ' φ' σ' s' h1 h2 h3 h4)
theorem W.mono {Q' : β → Lo → Ph → Sg → Prop} (h : W w H0 sc n R t ρ φ σ Q) (hQ : ∀ b ρ φ σ, Q b ρ φ σ → Q' b ρ φ σ) : W w H0 sc n R t ρ φ σ Q' :=
  fun τ env A s k => Post.run (h τ env A s k) (fun x s' b ρ' φ' σ' h1 h2 h3 h4 => ⟨b, ρ', φ', σ', h1, h2, h3, hQ _ _ _ _ h4⟩)
theorem W.bind {f : Env → α → Sem α'} {Q' : β' → Lo → Ph → Sg → Prop} (h : W w H0 sc n R t ρ φ σ (fun b ρ φ σ => ∀ x, R b x → W w H0 sc n R' (fun env => f env x) ρ φ σ Q')) :
    W w H0 sc n R' (fun env => t env >>= f env) ρ φ σ Q' := fun τ env A s k =>
  wpAny_bind (Post.run (h τ env A s k) (fun x s' b ρ' φ' σ' h1 h2 h3 h4 => Post.run (h4 x h1 τ env A s' h2) (fun x' s'' b' ρ'' φ'' σ'' g1 g2 g3 g4 => ⟨b', ρ'', φ'', σ'', g1, g2, h3.trans g3, g4⟩)))
theorem W.pure {b : β} {x : α} (hR : R b x) (q : Q b ρ φ σ) : W w H0 sc n R (fun _ => (Pure.pure x : Sem α)) ρ φ σ Q := fun _ _ _ s k => wpAny_pure ⟨b, ρ, φ, σ, hR, k, .refl s, q⟩
theorem W.hold {vs : Env → List Value} (h : W w H0 sc n R t ρ φ σ Q) : W w H0 sc n R (fun env => holding (vs env) (t env)) ρ φ σ Q := fun τ env A s k => wpAny_holding (h τ env A s k)
theorem W.stand {p : Env → Pos} {f : Env → Sem α} (h : W w H0 sc n R f ρ φ σ Q) : W w H0 sc n R (fun env => standAt (p env) >>= fun _ => f env) ρ φ σ Q := fun τ env A s k => wpAny_bind (wpAny_standAt (h τ env A s k))
theorem W.leaf {b : β} (h : ∀ τ env A s, Ok w H0 sc n τ env A ρ φ σ s → wpAny (model pw w) A (t env) (fun x s' => R b x ∧ s'.heap = s.heap ∧ Same s s') (fun _ _ => False) s) (q : Q b ρ φ σ) : W w H0 sc n R t ρ φ σ Q := fun τ env A s k =>
  wpAny_mono (h τ env A s k) (fun x s' hPt => by obtain ⟨h1, h2, h3⟩ := hPt; exact ⟨b, ρ, φ, σ, h1, k.at h2, h3, q⟩) fun _ _ x => x
theorem W.freeze {a : Addr} {c : C} (e : σ a = some c) (h : ∀ o, CR w φ c o → φ a = none → Le φ (updP φ a o) → W w H0 sc n R t ρ (updP φ a o) (del σ a) Q) : W w H0 sc n R t ρ φ σ Q := fun τ env A s k => by
  obtain ⟨o, hc, hn, k', l⟩ := k.freeze e
  exact h o hc hn l τ env A s k'
theorem W.drop {σ' : Sg} (hs : ∀ a c, σ' a = some c → σ a = some c) (h : W w H0 sc n R t ρ φ σ' Q) : W w H0 sc n R t ρ φ σ Q := fun τ env A s k => h τ env A s (k.subσ hs)
end
end Mine
namespace Mine
theorem Ok.root {sc : Scope} {n : Nat} {τ : Sg} {env : Env} {A : Around} {ρ : Lo} {φ : Ph} {σ : Sg} {s : Shared} (k : Ok w H0 sc n τ env A ρ φ σ s) : ∀ b o, H0.get? b = some o → s.heap.get? b = some o :=
  fun b o e => k.hr.keep _ _ (k.hr.root _ _ e)
abbrev EW (w : World) (H0 : Heap) (sc : Scope) (n : Nat) (e : PySem.Expr) (ρ : Lo) (φ : Ph) (σ : Sg) (Q : V → Lo → Ph → Sg → Prop) : Prop := W w H0 sc n VR (eval e) ρ φ σ Q
noncomputable def BR (b : Bool) (x : Bool) : Prop := x = b
abbrev TW (w : World) (H0 : Heap) (sc : Scope) (n : Nat) (e : PySem.Expr) (ρ : Lo) (φ : Ph) (σ : Sg) (Q : Bool → Lo → Ph → Sg → Prop) : Prop := W w H0 sc n BR (fun env => isTrue e env (eval e env)) ρ φ σ Q
inductive Fl where
  | next | brk | cont | ret (v : V)
inductive FR : Fl → Flow → Prop where
  | next : FR .next .next
  | brk : FR .brk .brk
  | cont : FR .cont .cont
  | ret {v : V} {x : Value} : VR v x → FR (.ret v) (.ret x)
abbrev XW (w : World) (H0 : Heap) (sc : Scope) (n : Nat) (ss : List Stmt) (ρ : Lo) (φ : Ph) (σ : Sg) (Q : Fl → Lo → Ph → Sg → Prop) : Prop := W w H0 sc n FR (execs ss) ρ φ σ Q
abbrev SW (w : World) (H0 : Heap) (sc : Scope) (n : Nat) (st : Stmt) (ρ : Lo) (φ : Ph) (σ : Sg) (Q : Fl → Lo → Ph → Sg → Prop) : Prop := W w H0 sc n FR (exec st) ρ φ σ Q
noncomputable def UR (_ : Unit) (_ : Unit) : Prop := True
abbrev AW (w : World) (H0 : Heap) (sc : Scope) (n : Nat) (t : PySem.Expr) (v : V) (ρ : Lo) (φ : Ph) (σ : Sg) (Q : Lo → Ph → Sg → Prop) : Prop := ∀ x, VR v x → W w H0 sc n UR (fun env => assign t env x) ρ φ σ (fun _ => Q)
abbrev OpW (w : World) (H0 : Heap) (sc : Scope) (n : Nat) (op : PySem.Operator) (a b : V) (ρ : Lo) (φ : Ph) (σ : Sg) (Q : V → Lo → Ph → Sg → Prop) : Prop := ∀ x y, VR a x → VR b y → W w H0 sc n VR (fun _ => binaryOp op x y) ρ φ σ Q
abbrev CmW (w : World) (H0 : Heap) (sc : Scope) (n : Nat) (op : CmpOp) (a b : V) (ρ : Lo) (φ : Ph) (σ : Sg) (Q : V → Lo → Ph → Sg → Prop) : Prop := ∀ x y, VR a x → VR b y → W w H0 sc n VR (fun _ => compareOp op x y) ρ φ σ Q
abbrev Nx (w : World) (H0 : Heap) (sc : Scope) (n : Nat) (rest : List Stmt) (Q : Fl → Lo → Ph → Sg → Prop) : Fl → Lo → Ph → Sg → Prop := fun f ρ φ σ => match f with | .next => XW w H0 sc n rest ρ φ σ Q | f => Q f ρ φ σ
abbrev RtK (Q : Fl → Lo → Ph → Sg → Prop) : V → Lo → Ph → Sg → Prop := fun v => Q (.ret v)
abbrev AsK (w : World) (H0 : Heap) (sc : Scope) (n : Nat) (t : PySem.Expr) (Q : Fl → Lo → Ph → Sg → Prop) : V → Lo → Ph → Sg → Prop := fun v ρ φ σ => AW w H0 sc n t v ρ φ σ (Q .next)
abbrev IfK (w : World) (H0 : Heap) (sc : Scope) (n : Nat) (a b : List Stmt) (Q : Fl → Lo → Ph → Sg → Prop) : Bool → Lo → Ph → Sg → Prop := fun c ρ φ σ => (c = true → XW w H0 sc n a ρ φ σ Q) ∧ (c = false → XW w H0 sc n b ρ φ σ Q)
abbrev EIfK (w : World) (H0 : Heap) (sc : Scope) (n : Nat) (a b : PySem.Expr) (Q : V → Lo → Ph → Sg → Prop) : Bool → Lo → Ph → Sg → Prop := fun c ρ φ σ => (c = true → EW w H0 sc n a ρ φ σ Q) ∧ (c = false → EW w H0 sc n b ρ φ σ Q)
abbrev OrK (w : World) (H0 : Heap) (sc : Scope) (n : Nat) (b : PySem.Expr) (Q : Bool → Lo → Ph → Sg → Prop) : Bool → Lo → Ph → Sg → Prop := fun x ρ φ σ => (x = true → Q true ρ φ σ) ∧ (x = false → TW w H0 sc n b ρ φ σ Q)
abbrev AndK (w : World) (H0 : Heap) (sc : Scope) (n : Nat) (b : PySem.Expr) (Q : Bool → Lo → Ph → Sg → Prop) : Bool → Lo → Ph → Sg → Prop := fun x ρ φ σ => (x = true → TW w H0 sc n b ρ φ σ Q) ∧ (x = false → Q false ρ φ σ)
abbrev EOrK (w : World) (H0 : Heap) (sc : Scope) (n : Nat) (b : PySem.Expr) (Q : V → Lo → Ph → Sg → Prop) : V → Lo → Ph → Sg → Prop := fun v ρ φ σ => ∃ c, v = .bool c ∧ (c = true → Q (.bool true) ρ φ σ) ∧ (c = false → EW w H0 sc n b ρ φ σ Q)
abbrev EAndK (w : World) (H0 : Heap) (sc : Scope) (n : Nat) (b : PySem.Expr) (Q : V → Lo → Ph → Sg → Prop) : V → Lo → Ph → Sg → Prop := fun v ρ φ σ => ∃ c, v = .bool c ∧ (c = true → EW w H0 sc n b ρ φ σ Q) ∧ (c = false → Q (.bool false) ρ φ σ)
abbrev NotK (Q : Bool → Lo → Ph → Sg → Prop) : Bool → Lo → Ph → Sg → Prop := fun b => Q (!b)
abbrev ENotK (Q : V → Lo → Ph → Sg → Prop) : V → Lo → Ph → Sg → Prop := fun v ρ φ σ => ∃ c, v = .bool c ∧ Q (.bool (!c)) ρ φ σ
abbrev TbK (Q : Bool → Lo → Ph → Sg → Prop) : V → Lo → Ph → Sg → Prop := fun v ρ φ σ => ∃ c, v = .bool c ∧ Q c ρ φ σ
abbrev OpK2 (w : World) (H0 : Heap) (sc : Scope) (n : Nat) (op : PySem.Operator) (a : V) (Q : V → Lo → Ph → Sg → Prop) : V → Lo → Ph → Sg → Prop := fun b ρ φ σ => OpW w H0 sc n op a b ρ φ σ Q
abbrev OpK (w : World) (H0 : Heap) (sc : Scope) (n : Nat) (op : PySem.Operator) (r : PySem.Expr) (Q : V → Lo → Ph → Sg → Prop) : V → Lo → Ph → Sg → Prop := fun a ρ φ σ => EW w H0 sc n r ρ φ σ (OpK2 w H0 sc n op a Q)
abbrev CmK2 (w : World) (H0 : Heap) (sc : Scope) (n : Nat) (op : CmpOp) (a : V) (Q : V → Lo → Ph → Sg → Prop) : V → Lo → Ph → Sg → Prop := fun b ρ φ σ => CmW w H0 sc n op a b ρ φ σ Q
abbrev CmK (w : World) (H0 : Heap) (sc : Scope) (n : Nat) (op : CmpOp) (r : PySem.Expr) (Q : V → Lo → Ph → Sg → Prop) : V → Lo → Ph → Sg → Prop := fun a ρ φ σ => EW w H0 sc n r ρ φ σ (CmK2 w H0 sc n op a Q)
abbrev AtK (w : World) (H0 : Heap) (sc : Scope) (n : Nat) (attr : Str) (Q : V → Lo → Ph → Sg → Prop) : V → Lo → Ph → Sg → Prop := fun v ρ φ σ => ∀ x, VR v x → W w H0 sc n VR (fun _ => getAttr x attr true) ρ φ σ Q
abbrev SbK2 (w : World) (H0 : Heap) (sc : Scope) (n : Nat) (e i : PySem.Expr) (v : V) (Q : V → Lo → Ph → Sg → Prop) : V → Lo → Ph → Sg → Prop := fun u ρ φ σ => ∀ x y, VR v x → VR u y → W w H0 sc n VR (fun _ => subscriptTail e i x y) ρ φ σ Q
abbrev SbK (w : World) (H0 : Heap) (sc : Scope) (n : Nat) (e i : PySem.Expr) (Q : V → Lo → Ph → Sg → Prop) : V → Lo → Ph → Sg → Prop := fun v ρ φ σ => EW w H0 sc n i ρ φ σ (SbK2 w H0 sc n e i v Q)
section
variable {sc : Scope} {n : Nat} {ρ : Lo} {φ : Ph} {σ : Sg} {Q : V → Lo → Ph → Sg → Prop}
theorem E_int {i : Int} {k : Nat} {pos : Pos} (q : Q (.int i) ρ φ σ) : EW w H0 sc n (.Constant (.int i) k pos) ρ φ σ Q :=
  W.leaf (fun τ env A s _ => wpAny_Constant_int ⟨.int _ _, rfl, rfl, rfl⟩) q
theorem E_str {x : Str} {k : Nat} {pos : Pos} (q : Q (.str x) ρ φ σ) : EW w H0 sc n (.Constant (.str x) k pos) ρ φ σ Q :=
  W.leaf (fun τ env A s _ => Constant_str ⟨.str _ _, rfl, rfl, rfl⟩) q
theorem E_bytes {x : List UInt8} {k : Nat} {pos : Pos} (q : Q (.bytes x.toArray) ρ φ σ) : EW w H0 sc n (.Constant (.bytes x) k pos) ρ φ σ Q :=
  W.leaf (fun τ env A s _ => show wpAny _ A (mkTextBytes x.toArray) _ _ s from by
    unfold mkTextBytes; exact wpAny_bind (wpAny_fresh (wpAny_pure ⟨.bytes _ _, rfl, rfl, rfl⟩))) q
theorem E_none {k : Nat} {pos : Pos} (q : Q .none ρ φ σ) : EW w H0 sc n (.Constant .none k pos) ρ φ σ Q :=
  W.leaf (fun τ env A s _ => wpAny_pure ⟨.none, rfl, rfl, rfl⟩) q
theorem E_bool {b : Bool} {k : Nat} {pos : Pos} (q : Q (.bool b) ρ φ σ) : EW w H0 sc n (.Constant (.bool b) k pos) ρ φ σ Q :=
  W.leaf (fun τ env A s _ => wpAny_pure ⟨.bool _, rfl, rfl, rfl⟩) q
theorem Ok.kind {sc : Scope} {n : Nat} {τ : Sg} {env : Env} {A : Around} {ρ : Lo} {φ : Ph} {σ : Sg} {s : Shared} (k : Ok w H0 sc n τ env A ρ φ σ s) {x : Str} {nk : Option NameKind} (h : sc.names.lookup x = nk) : env.kindOf x = nk := by
  unfold Env.kindOf; rw [k.ok.scope]; exact h
theorem Ok.fn {sc : Scope} {n : Nat} {τ : Sg} {env : Env} {A : Around} {ρ : Lo} {φ : Ph} {σ : Sg} {s : Shared} (k : Ok w H0 sc n τ env A ρ φ σ s) : env.scope.kind = .function := by rw [k.ok.scope]; exact k.ok.fn
theorem E_local {x : Str} {pos : Pos} {v : V} (hk : sc.names.lookup x = some .local) (hv : ρ x = some v) (q : Q v ρ φ σ) (hd : (x == ("__debug__" : Str)) = false := by decide) : EW w H0 sc n (.Name x pos) ρ φ σ Q := by
  refine W.leaf (b := v) (fun τ env A s k => ?_) q
  obtain ⟨_, o, ho, m', hm, hr⟩ := k.hr.cells _ _ k.full_locals
  have hns := ns_iff.mpr ⟨o, ho, hm⟩
  have hkind := k.kind hk
  obtain ⟨y, e, hy⟩ := hr x v (by dsimp only; rw [if_pos hkind]; exact hv)
  exact wpAny_Name (wpAny_loadName_local k.fn hkind hns e ⟨hy, rfl, rfl, rfl⟩) hd
theorem E_cell {x : Str} {pos : Pos} {v : V} (hk : sc.names.lookup x = some .cell) (hv : ρ x = some v) (q : Q v ρ φ σ) (hd : (x == ("__debug__" : Str)) = false := by decide) : EW w H0 sc n (.Name x pos) ρ φ σ Q := by
  refine W.leaf (b := v) (fun τ env A s k => ?_) q
  obtain ⟨c, hc⟩ := k.ok.has x _ hk (.inl rfl)
  obtain ⟨_, o, ho, m', hm, hr⟩ := k.hr.cells _ _ (k.full_cell hc)
  obtain ⟨y, e, hy⟩ := hr v hv
  subst e
  exact wpAny_Name (wpAny_loadName_cell k.fn (k.kind hk) hc ⟨o, ho, hm⟩ ⟨hy, rfl, rfl, rfl⟩) hd
theorem E_free {x : Str} {pos : Pos} {v : V} (hk : sc.names.lookup x = some .free) (hv : ρ x = some v) (q : Q v ρ φ σ) (hd : (x == ("__debug__" : Str)) = false := by decide) (hn : (x == ("__classdict__" : Str)) = false := by decide) : EW w H0 sc n (.Name x pos) ρ φ σ Q := by
  refine W.leaf (b := v) (fun τ env A s k => ?_) q
  obtain ⟨c, hc⟩ := k.ok.has x _ hk (.inr rfl)
  obtain ⟨_, o, ho, m', hm, hr⟩ := k.hr.cells _ _ (k.full_cell hc)
  obtain ⟨y, e, hy⟩ := hr v hv
  subst e
  exact wpAny_Name (wpAny_loadName_free k.fn (k.kind hk) hc ⟨o, ho, hm⟩ ⟨hy, rfl, rfl, rfl⟩ hn) hd
theorem E_glob (R : Rt w H0) {x : Str} {pos : Pos} {v : V} {y : Value} (hk : sc.names.lookup x = some .globalImplicit) (hy : nsIn (KK w.params) mainGlobals x = some (some y)) (hv : VR v y) (q : Q v ρ φ σ) (hd : (x == ("__debug__" : Str)) = false := by decide) :
    EW w H0 sc n (.Name x pos) ρ φ σ Q := by
  refine W.leaf (b := v) (fun τ env A s k => ?_) q
  obtain ⟨mg, g1, g2⟩ := R.glob
  exact Name_function_global k.fn (k.kind hk) (loadGlobal_global (by rw [k.ok.glob]; exact g1.keeps k.root) (g2 _ _ hy) ⟨hv, rfl, rfl, rfl⟩) hd
theorem E_blt (R : Rt w H0) {x : Str} {pos : Pos} {v : V} {y : Value} (hk : sc.names.lookup x = some .globalImplicit) (hy : nsIn (KK w.params) mainGlobals x = some none) (hb : bootBuiltins x = some y) (hn : x ≠ "__name__") (hv : VR v y) (q : Q v ρ φ σ) (hd : (x == ("__debug__" : Str)) = false := by decide) :
    EW w H0 sc n (.Name x pos) ρ φ σ Q := by
  refine W.leaf (b := v) (fun τ env A s k => ?_) q
  obtain ⟨mg, g1, g2⟩ := R.glob
  obtain ⟨mb, b1, b2⟩ := R.blt
  exact Name_function_global k.fn (k.kind hk) (loadGlobal_builtin (by rw [k.ok.glob]; exact g1.keeps k.root) (g2 _ _ hy) (by rw [k.ok.blt]; exact b1.keeps k.root) ((b2 x hn).trans hb) ⟨hv, rfl, rfl, rfl⟩) hd
theorem W.of_wp {α β : Type} {R : β → α → Prop} {t : Env → Sem α} {Q : β → Lo → Ph → Sg → Prop}
    (h : ∀ τ env A s, Ok w H0 sc n τ env A ρ φ σ s → wpAny (model pw w) A (t env) (Post w H0 sc n τ env A s R Q) (fun _ _ => False) s) : W w H0 sc n R t ρ φ σ Q := h
theorem two {α α' β β' γ δ : Type} {R1 : β → α → Prop} {R2 : β' → α' → Prop} {t1 : Env → Sem α} {t2 : α → Env → Sem α'} {Q : β' → Lo → Ph → Sg → Prop} {τ : Sg} {env : Env} {A : Around} {s : Shared}
    (k : Ok w H0 sc n τ env A ρ φ σ s) (h : W w H0 sc n R1 t1 ρ φ σ (fun b ρ φ σ => ∀ x, R1 b x → W w H0 sc n R2 (t2 x) ρ φ σ Q)) :
    wpAny (model pw w) A (t1 env) (fun a s₁ => wpAny (model pw w) A (t2 a env) (Post w H0 sc n τ env A s R2 Q) (fun _ _ => False) s₁) (fun _ _ => False) s :=
  Post.run (h τ env A s k) (fun x s' b ρ' φ' σ' h1 h2 h3 h4 => Post.run (h4 x h1 τ env A s' h2) (fun x' s'' b' ρ'' φ'' σ'' g1 g2 g3 g4 => ⟨b', ρ'', φ'', σ'', g1, g2, h3.trans g3, g4⟩))
theorem E_binop {l r : PySem.Expr} {op : PySem.Operator} {pos : Pos} (h : EW w H0 sc n l ρ φ σ (OpK w H0 sc n op r Q)) : EW w H0 sc n (.BinOp l op r pos) ρ φ σ Q := fun τ env A s k =>
  wpAny_BinOp (Post.run (h τ env A s k) (fun x s1 b1 ρ1 φ1 σ1 r1 k1 m1 h1 => Post.run (h1 τ env A s1 k1) (fun y s2 b2 ρ2 φ2 σ2 r2 k2 m2 h2 => Post.run (h2 x y r1 r2 τ env A s2 k2) (fun z s3 b3 ρ3 φ3 σ3 r3 k3 m3 h3 => ⟨b3, ρ3, φ3, σ3, r3, k3, m1.trans (m2.trans m3), h3⟩))))
theorem E_cmp {l r : PySem.Expr} {op : CmpOp} {pos : Pos} (h : EW w H0 sc n l ρ φ σ (CmK w H0 sc n op r Q)) (hm : behindInMarks op r = false := by with_unfolding_all rfl) :
    EW w H0 sc n (.Compare l [op] [r] pos) ρ φ σ Q := fun τ env A s k =>
  wpAny_Compare1 (Post.run (h τ env A s k) (fun x s1 b1 ρ1 φ1 σ1 r1 k1 m1 h1 => Post.run (h1 τ env A s1 k1) (fun y s2 b2 ρ2 φ2 σ2 r2 k2 m2 h2 => Post.run (h2 x y r1 r2 τ env A s2 k2) (fun z s3 b3 ρ3 φ3 σ3 r3 k3 m3 h3 => ⟨b3, ρ3, φ3, σ3, r3, k3, m1.trans (m2.trans m3), h3⟩)))) hm
theorem T_cmp {l r : PySem.Expr} {op : CmpOp} {pos : Pos} {Q : Bool → Lo → Ph → Sg → Prop} (h : EW w H0 sc n l ρ φ σ (CmK w H0 sc n op r (TbK Q))) (hm : behindInMarks op r = false := by with_unfolding_all rfl) :
    TW w H0 sc n (.Compare l [op] [r] pos) ρ φ σ Q := fun τ env A s k =>
  wpAny_isTrue_Compare1 (Post.run (h τ env A s k) (fun x s1 b1 ρ1 φ1 σ1 r1 k1 m1 h1 => Post.run (h1 τ env A s1 k1) (fun y s2 b2 ρ2 φ2 σ2 r2 k2 m2 h2 => Post.run (h2 x y r1 r2 τ env A s2 k2) (fun z s3 b3 ρ3 φ3 σ3 r3 k3 m3 hPt => by obtain ⟨c, e, h3⟩ := hPt; subst e; refine VR.boolE r3 ?_; exact wpAny_truthy_bool ⟨c, ρ3, φ3, σ3, rfl, k3, m1.trans (m2.trans m3), h3⟩)))) hm
theorem T_plain {e : PySem.Expr} {Q : Bool → Lo → Ph → Sg → Prop} (h : EW w H0 sc n e ρ φ σ (TbK Q))
    (he : ∀ env, isTrue e env (eval e env) = (do let v ← eval e env; standAt e.pos; holding [v] (truthy v)) := by intro _; rfl) : TW w H0 sc n e ρ φ σ Q := fun τ env A s k => by
  show wpAny _ _ (isTrue e env (eval e env)) _ _ _
  rw [he env]
  exact wpAny_bind (Post.run (h τ env A s k) (fun x s1 b1 ρ1 φ1 σ1 r1 k1 m1 ⟨c, e, h1⟩ => wpAny_bind (wpAny_standAt (wpAny_holding (by subst e; refine VR.boolE r1 ?_; exact wpAny_truthy_bool ⟨c, ρ1, φ1, σ1, rfl, k1, m1, h1⟩)))))
theorem T_not {e : PySem.Expr} {pos : Pos} {Q : Bool → Lo → Ph → Sg → Prop} (h : TW w H0 sc n e ρ φ σ (NotK Q)) : TW w H0 sc n (.UnaryOp .Not e pos) ρ φ σ Q := fun τ env A s k => by
  show wpAny _ _ (do return !(← isTrue e env (eval e env))) _ _ _
  exact wpAny_bind (Post.run (h τ env A s k) (fun x s1 b1 ρ1 φ1 σ1 r1 k1 m1 h1 => wpAny_pure ⟨!b1, ρ1, φ1, σ1, (by rw [show x = b1 from r1]; rfl), k1, m1, h1⟩))
theorem T_and {a b : PySem.Expr} {pos : Pos} {Q : Bool → Lo → Ph → Sg → Prop} (h : TW w H0 sc n a ρ φ σ fun x ρ φ σ => if x then TW w H0 sc n b ρ φ σ Q else Q false ρ φ σ) : TW w H0 sc n (.BoolOp .And [a, b] pos) ρ φ σ Q := fun τ env A s k => by
  show wpAny _ _ (do match (BoolOp.And : PySem.BoolOp), ← isTrue a env (eval a env) with | .And, false => pure false | .Or, true => pure true | _, _ => allTrue .And [b] env) _ _ _
  refine wpAny_bind (Post.run (h τ env A s k) (fun x s1 b1 ρ1 φ1 σ1 r1 k1 m1 h1 => ?_))
  have r1 : x = b1 := r1
  subst r1
  cases x with
  | false => exact wpAny_pure ⟨false, ρ1, φ1, σ1, rfl, k1, m1, h1⟩
  | true =>
    show wpAny _ _ (do match (BoolOp.And : PySem.BoolOp), ← isTrue b env (eval b env) with | .And, false => pure false | .Or, true => pure true | _, _ => allTrue .And [] env) _ _ _
    refine wpAny_bind (Post.run (h1 τ env A s1 k1) (fun x s2 b2 ρ2 φ2 σ2 r2 k2 m2 h2 => ?_))
    have r2 : x = b2 := r2
    subst r2
    cases x <;> exact wpAny_pure ⟨_, ρ2, φ2, σ2, rfl, k2, m1.trans m2, h2⟩
theorem T_or : ∀ {sc : Scope} {n : Nat} {ρ : Lo} {φ : Ph} {σ : Sg} {a b : PySem.Expr} {pos : Pos} {Q : Bool → Lo → Ph → Sg → Prop} (h : TW w H0 sc n a ρ φ σ fun x ρ φ σ => if x then Q true ρ φ σ else TW w H0 sc n b ρ φ σ Q), TW w H0 sc n (.BoolOp .Or [a, b] pos) ρ φ σ Q := by
  apply @Mine.hk6; generalize ca1 (cx _) = sc, ca2 (cx _) = n, ca3 (cx _) = ρ, ca4 (cx _) = φ, ca5 (cx _) = σ, cz6 (cx _) = a
  apply @Mine.hk3; generalize ca1 (cx _) = b, ca2 (cx _) = pos, cz3 (cx _) = Q
  intro h
  refine @Mine.hk4 _ _ _ _ _ _ neAround neShared _ ?_; generalize ca1 (cx _) = τ, ca2 (cx _) = env, ca3 (cx _) = A, cz4 (cx _) = s
  intro k
  show wpAny _ _ (do match (BoolOp.Or : PySem.BoolOp), ← isTrue a env (eval a env) with | .And, false => pure false | .Or, true => pure true | _, _ => allTrue .Or [b] env) _ _ _
  refine wpAny_bind (Post.run (h τ env A s k) (fun x s1 b1 ρ1 φ1 σ1 r1 k1 m1 h1 => ?_))
  have r1 : x = b1 := r1
  subst r1
  cases x with
  | true => exact wpAny_pure ⟨true, ρ1, φ1, σ1, rfl, k1, m1, h1⟩
  | false =>
    show wpAny _ _ (do match (BoolOp.Or : PySem.BoolOp), ← isTrue b env (eval b env) with | .And, false => pure false | .Or, true => pure true | _, _ => allTrue .Or [] env) _ _ _
    refine wpAny_bind (Post.run (h1 τ env A s1 k1) (fun x s2 b2 ρ2 φ2 σ2 r2 k2 m2 h2 => ?_))
    have r2 : x = b2 := r2
    subst r2
    cases x <;> exact wpAny_pure ⟨_, ρ2, φ2, σ2, rfl, k2, m1.trans m2, h2⟩
theorem X_nil {Q : Fl → Lo → Ph → Sg → Prop} (q : Q .next ρ φ σ) : XW w H0 sc n [] ρ φ σ Q := W.leaf (fun τ env A s _ => wpAny_execs_nil ⟨.next, rfl, rfl, rfl⟩) q
theorem X_cons {st : Stmt} {rest : List Stmt} {Q : Fl → Lo → Ph → Sg → Prop} (h : SW w H0 sc n st ρ φ σ (Nx w H0 sc n rest Q)) : XW w H0 sc n (st :: rest) ρ φ σ Q := fun τ env A s k => by
  refine wpAny_execs_cons (Post.run (h τ env A s k) (fun x s1 b1 ρ1 φ1 σ1 r1 k1 m1 h1 => ?_))
  cases r1 with
  | next => exact Post.run (h1 τ env A s1 k1) (fun x s2 b2 ρ2 φ2 σ2 r2 k2 m2 h2 => ⟨b2, ρ2, φ2, σ2, r2, k2, m1.trans m2, h2⟩)
  | brk => exact ⟨.brk, ρ1, φ1, σ1, .brk, k1, m1, h1⟩
  | cont => exact ⟨.cont, ρ1, φ1, σ1, .cont, k1, m1, h1⟩
  | ret hv => exact ⟨_, ρ1, φ1, σ1, .ret hv, k1, m1, h1⟩
theorem S_pass {pos : Pos} {Q : Fl → Lo → Ph → Sg → Prop} (q : Q .next ρ φ σ) : SW w H0 sc n (.Pass pos) ρ φ σ Q := W.leaf (fun τ env A s _ => wpAny_Pass ⟨.next, rfl, rfl, rfl⟩) q
theorem S_return {e : PySem.Expr} {pos : Pos} {Q : Fl → Lo → Ph → Sg → Prop} (h : EW w H0 sc n e ρ φ σ (RtK Q)) : SW w H0 sc n (.Return (some e) pos) ρ φ σ Q := fun τ env A s k =>
  wpAny_Return_some (Post.run (h τ env A s k) (fun x s1 b1 ρ1 φ1 σ1 r1 k1 m1 h1 => ⟨.ret b1, ρ1, φ1, σ1, .ret r1, k1, m1, h1⟩))
theorem S_if : ∀ {sc : Scope} {n : Nat} {ρ : Lo} {φ : Ph} {σ : Sg} {t : PySem.Expr} {a b : List Stmt} {pos : Pos} {Q : Fl → Lo → Ph → Sg → Prop} (h : TW w H0 sc n t ρ φ σ fun c ρ φ σ => if c then XW w H0 sc n a ρ φ σ Q else XW w H0 sc n b ρ φ σ Q), SW w H0 sc n (.If t a b pos) ρ φ σ Q := by
  apply @Mine.hk6; generalize ca1 (cx _) = sc, ca2 (cx _) = n, ca3 (cx _) = ρ, ca4 (cx _) = φ, ca5 (cx _) = σ, cz6 (cx _) = t
  apply @Mine.hk4; generalize ca1 (cx _) = a, ca2 (cx _) = b, ca3 (cx _) = pos, cz4 (cx _) = Q
  intro h
  refine @Mine.hk4 _ _ _ _ _ _ neAround neShared _ ?_; generalize ca1 (cx _) = τ, ca2 (cx _) = env, ca3 (cx _) = A, cz4 (cx _) = s
  intro k
  refine wpAny_If (Post.run (h τ env A s k) (fun x s1 b1 ρ1 φ1 σ1 r1 k1 m1 h1 => ?_))
  have r1 : x = b1 := r1
  subst r1
  cases x <;> exact Post.run (h1 τ env A s1 k1) (fun x s2 b2 ρ2 φ2 σ2 r2 k2 m2 h2 => ⟨b2, ρ2, φ2, σ2, r2, k2, m1.trans m2, h2⟩)
theorem E_ifexp {t a b : PySem.Expr} {pos : Pos} (h : TW w H0 sc n t ρ φ σ fun c ρ φ σ => if c then EW w H0 sc n a ρ φ σ Q else EW w H0 sc n b ρ φ σ Q) : EW w H0 sc n (.IfExp t a b pos) ρ φ σ Q := fun τ env A s k => by
  show wpAny _ _ (do if ← isTrue t env (eval t env) then eval a env else eval b env) _ _ _
  refine wpAny_bind (Post.run (h τ env A s k) (fun x s1 b1 ρ1 φ1 σ1 r1 k1 m1 h1 => ?_))
  have r1 : x = b1 := r1
  subst r1
  cases x <;> exact Post.run (h1 τ env A s1 k1) (fun x s2 b2 ρ2 φ2 σ2 r2 k2 m2 h2 => ⟨b2, ρ2, φ2, σ2, r2, k2, m1.trans m2, h2⟩)
theorem E_and {a b : PySem.Expr} {pos : Pos} (h : EW w H0 sc n a ρ φ σ fun v ρ φ σ => ∃ c, v = .bool c ∧ if c then EW w H0 sc n b ρ φ σ Q else Q (.bool false) ρ φ σ) : EW w H0 sc n (.BoolOp .And [a, b] pos) ρ φ σ Q := fun τ env A s k => by
  show wpAny _ _ (boolOp pos .And [eval a env, eval b env]) _ _ _
  unfold boolOp
  refine wpAny_bind (Post.run (h τ env A s k) (fun x s1 b1 ρ1 φ1 σ1 r1 k1 m1 hPt => ?_))
  obtain ⟨c, e, h1⟩ := hPt
  subst e; refine VR.boolE r1 ?_
  refine wpAny_bind (wpAny_standAt (wpAny_bind (wpAny_holding (wpAny_truthy_bool ?_))))
  cases c with
  | false => exact wpAny_pure ⟨_, ρ1, φ1, σ1, .bool _, k1, m1, h1⟩
  | true => exact Post.run (h1 τ env A s1 k1) (fun x s2 b2 ρ2 φ2 σ2 r2 k2 m2 h2 => ⟨b2, ρ2, φ2, σ2, r2, k2, m1.trans m2, h2⟩)
theorem E_or {a b : PySem.Expr} {pos : Pos} (h : EW w H0 sc n a ρ φ σ fun v ρ φ σ => ∃ c, v = .bool c ∧ if c then Q (.bool true) ρ φ σ else EW w H0 sc n b ρ φ σ Q) : EW w H0 sc n (.BoolOp .Or [a, b] pos) ρ φ σ Q := fun τ env A s k => by
  show wpAny _ _ (boolOp pos .Or [eval a env, eval b env]) _ _ _
  unfold boolOp
  refine wpAny_bind (Post.run (h τ env A s k) (fun x s1 b1 ρ1 φ1 σ1 r1 k1 m1 hPt => ?_))
  obtain ⟨c, e, h1⟩ := hPt
  subst e; refine VR.boolE r1 ?_
  refine wpAny_bind (wpAny_standAt (wpAny_bind (wpAny_holding (wpAny_truthy_bool ?_))))
  cases c with
  | true => exact wpAny_pure ⟨_, ρ1, φ1, σ1, .bool _, k1, m1, h1⟩
  | false => exact Post.run (h1 τ env A s1 k1) (fun x s2 b2 ρ2 φ2 σ2 r2 k2 m2 h2 => ⟨b2, ρ2, φ2, σ2, r2, k2, m1.trans m2, h2⟩)
theorem E_not {e : PySem.Expr} {pos : Pos} (h : EW w H0 sc n e ρ φ σ (ENotK Q)) : EW w H0 sc n (.UnaryOp .Not e pos) ρ φ σ Q := fun τ env A s k => by
  show wpAny _ _ (do let v ← eval e env; standAt pos; holding [v] (unaryOp .Not v)) _ _ _
  refine wpAny_bind (Post.run (h τ env A s k) (fun x s1 b1 ρ1 φ1 σ1 r1 k1 m1 hPt => ?_))
  obtain ⟨c, e, h1⟩ := hPt
  subst e; refine VR.boolE r1 ?_
  refine wpAny_bind (wpAny_standAt (wpAny_holding ?_))
  exact not_of (wpAny_truthy_bool ⟨_, ρ1, φ1, σ1, .bool _, k1, m1, h1⟩)
end
end Mine
namespace Mine
inductive BRs : List (Str × V) → List (Str × Value) → Prop where
  | nil : BRs [] []
  | cons {x : Str} {v : V} {y : Value} {vs xs} : VR v y → BRs vs xs → BRs ((x, v) :: vs) ((x, y) :: xs)
noncomputable def ofL : List (Str × V) → Lo → Lo
  | [], ρ => ρ
  | (x, v) :: r, ρ => ofL r (setL ρ x v)
theorem BRs.names {bs : List (Str × V)} {bx : List (Str × Value)} (h : BRs bs bx) : bx.map (·.1) = bs.map (·.1) := by
  induction h with
  | nil => rfl
  | cons _ _ ih => rw [List.map_cons, List.map_cons, ih]
theorem bind_local {kd : Str → Option NameKind} {bs : List (Str × V)} {bx : List (Str × Value)} (h : BRs bs bx) : ∀ {ρ : Lo} {m : Str → Option Value},
    (∀ x, VRo (if kd x = some .local then ρ x else none) (m x)) → ∀ x, VRo (if kd x = some .local then ofL bs ρ x else none) (bindL kd bx m x) := by
  induction h with
  | nil => intro ρ m h; exact h
  | @cons y v u vs xs hv _ ih =>
    intro ρ m h
    refine ih (fun x => ?_)
    unfold setL
    by_cases hy : kd y = some .local
    · rw [if_pos hy]
      by_cases e : x = y
      · subst e; rw [if_pos hy, if_pos rfl, if_pos rfl]; exact .some hv
      · rw [if_neg e, if_neg e]; exact h x
    · rw [if_neg hy]
      by_cases e : x = y
      · subst e; rw [if_neg hy]; have := h x; rw [if_neg hy] at this; exact this
      · rw [if_neg e]; exact h x
theorem bind_cell {kd : Str → Option NameKind} {bs : List (Str × V)} {bx : List (Str × Value)} (h : BRs bs bx) : ∀ {ρ : Lo} {m : Str → Option Value},
    (∀ x, kd x ≠ some .local → VRo (ρ x) (m x)) → ∀ x, kd x ≠ some .local → VRo (ofL bs ρ x) (bindC kd bx m x) := by
  induction h with
  | nil => intro ρ m h; exact h
  | @cons y v u vs xs hv _ ih =>
    intro ρ m h
    refine ih (fun x hx => ?_)
    unfold setL
    by_cases hy : kd y = some .local
    · rw [if_pos hy]
      have e : x ≠ y := fun q => hx (q ▸ hy)
      rw [if_neg e]; exact h x hx
    · rw [if_neg hy]
      by_cases e : x = y
      · rw [if_pos e, if_pos e]; exact .some hv
      · rw [if_neg e, if_neg e]; exact h x hx
noncomputable def Bind (H0 : Heap) (fd : FuncData) (vs : List V) (bs : List (Str × V)) : Prop :=
  ∀ (s : Shared) xs, VRs vs xs → (∀ a o, H0.get? a = some o → s.heap.get? a = some o) → ∃ bx, BRs bs bx ∧ BindsTo s fd ⟨xs, []⟩ bx
structure FnOk (w : World) (H0 : Heap) (f : Addr) (fd : FuncData) (body : List Stmt) : Prop where
  at_ : ∃ oc od osl, H0.get? f = some ⟨oc, od, .func fd, osl⟩
  code : H0.CodeRec fd.code fd.qualname
  body : fd.body = .stmts body
  kind : fd.scope.kind = .function
  co : fd.scope.isCoroutine = false
  gen : fd.scope.isGenerator = false
  glob : fd.globals = mainGlobals
  blt : fd.builtins = builtinsNs
  clo : fd.closure = []
  free : ∀ x, fd.scope.names.lookup x ≠ some .free
  cells : ((cellsFrom 0 fd.scope.names []).map (·.1)).Nodup
  cellk : ∀ y ∈ (cellsFrom 0 fd.scope.names []).map (·.1), fd.scope.names.lookup y = some .cell
noncomputable def noLo : Lo := fun _ => none
noncomputable def FlV : Fl → V
  | .ret v => v
  | _ => .none
theorem lookup_cell {names : List (Str × NameKind)} {x : Str} (n : Nat) (h : names.lookup x = some .cell) : ∃ c, (cellsFrom n names []).lookup x = some c :=
  Option.isSome_iff_exists.mp (cellsFrom_some names n [] (.inl h))
theorem Room.deeper {n : Nat} {A : Around} {env : Env} (h : Room (n + 1) A) : Room n (A.deeper env) := by
  obtain ⟨a, b, c⟩ := h
  exact ⟨by show A.depth + 1 + 4 * n ≤ 900; lia, by show A.units + 3 + 40 * n ≤ 9000; lia, c⟩
theorem Room.depth {n : Nat} {A : Around} (h : Room n A) : A.depth < recursionLimit := by
  have : A.depth ≤ 900 := by have := h.1; lia
  unfold recursionLimit; lia
set_option tactic.hygienic true in
theorem code_fn : ∀ {f : Addr} {fd : FuncData} {body : List Stmt} {n : Nat} {vs : List V} {bs : List (Str × V)} {φ : Ph} {σ : Sg} {Q : V → Ph → Sg → Prop} {τ : Sg} {A : Around} {s : Shared} {xs : List Value} {Rr : Result → Shared → Prop} (R : Rt w H0) (F : FnOk w H0 f fd body) (hb : Bind H0 fd vs bs) (hbk : ∀ x ∈ bs.map (·.1), fd.scope.names.lookup x = some .local ∨ fd.scope.names.lookup x = some .cell) (h : XW w H0 fd.scope n body (ofL bs noLo) φ σ fun fl _ φ σ => Q (FlV fl) φ σ) (hr : Room (n + 1) A) (hx : VRs vs xs) (hd : ∀ a, (σ a).isSome = true → τ a = none) (hh : HR w H0 φ (jn τ σ) s.heap) (hR : ∀ v x φ' σ' s', VR v x → (∀ a, (σ' a).isSome = true → τ a = none) → HR w H0 φ' (jn τ σ') s'.heap → Same s s' → Q v φ' σ' → Rr (.ok (.ret x)) s'),
    codeAny (model pw w) A (.call (.ref f) ⟨xs, []⟩) Rr s := by
  apply @Mine.hk6; generalize ca1 (cx _) = f, ca2 (cx _) = fd, ca3 (cx _) = body, ca4 (cx _) = n, ca5 (cx _) = vs, cz6 (cx _) = bs
  refine @Mine.hk6 _ _ _ _ _ _ _ _ _ _ neAround neShared _ ?_; generalize ca1 (cx _) = φ, ca2 (cx _) = σ, ca3 (cx _) = Q, ca4 (cx _) = τ, ca5 (cx _) = A, cz6 (cx _) = s
  apply @Mine.hk2; generalize ca1 (cx _) = xs, cz2 (cx _) = Rr
  intro R F hb hbk h hr hx hd hh hR
  have root : ∀ a o, H0.get? a = some o → s.heap.get? a = some o := fun a o e => hh.keep _ _ (hh.root _ _ e)
  obtain ⟨oc, od, osl, ho⟩ := F.at_
  obtain ⟨bx, hbx, hbt⟩ := hb s xs hx root
  refine codeAny_call_function hr.depth (root _ _ ho) rfl F.co F.gen F.body (F.code.keeps root) (hbt _ _ _ _ ?_)
  rw [F.clo]
  refine wpAny_newFunctionEnv_cells F.kind (fun y hy => ?_) fun env he s' x => ?_
  · have : y.1 ∈ bs.map (·.1) := by rw [← hbx.names]; exact List.mem_map_of_mem hy
    refine (hbk _ this).imp id fun e => ⟨e, ?_⟩
    obtain ⟨c, hc⟩ := lookup_cell (s.heap.objs.size + 1) e
    rw [hc]; rfl
  · subst he
    refine ⟨(R.lim.keeps root).keeps x.toInCall.keep, codeAny_func ?_⟩
    obtain ⟨h1, tk, rfl, _⟩ := x.done
    have hk1 := x.toInCall.keep
    generalize hE : newEnv fd.scope s.heap.objs.size fd.globals (cellsFrom (s.heap.objs.size + 1) fd.scope.names []) (fd.qualname ++ ".<locals>.") (some f) fd.code none fd.builtins = env at *
    have e1 : env.scope = fd.scope := by rw [← hE]; rfl
    have e2 : env.locals = s.heap.objs.size := by rw [← hE]; rfl
    have e3 : env.cells = cellsFrom (s.heap.objs.size + 1) fd.scope.names [] := by rw [← hE]; rfl
    have hkd : ∀ y, env.kindOf y = fd.scope.names.lookup y := fun y => by unfold Env.kindOf; rw [e1]
    have ok : EnvOk fd.scope env := ⟨e1, F.kind, by rw [← hE]; exact F.glob, by rw [← hE]; exact F.blt, x.apart, fun p hp q => Nat.lt_irrefl _ (q ▸ x.above p.1 p.2 hp),
      fun y k hy hkk => hkk.elim (fun e => by subst e; rw [e3]; exact lookup_cell _ hy) fun e => absurd (e ▸ hy) (F.free y),
      fun p hp q => (by
        have hin : p.1 ∈ (cellsFrom 0 fd.scope.names []).map (·.1) := by
          rw [← cellsFrom_names fd.scope.names (s.heap.objs.size + 1) 0 [] [] rfl, ← e3]; exact List.mem_map_of_mem hp
        rw [F.cellk _ hin] at q; cases q),
      (by rw [e3, cellsFrom_names fd.scope.names (s.heap.objs.size + 1) 0 [] [] rfl]; exact F.cells)⟩
    have lt : ∀ a, (fr env (ofL bs noLo) a).isSome = true → s.heap.objs.size ≤ a := fun a e => by
      unfold fr at e
      split at e
      · rename_i q; rw [q, e2]; exact Nat.le_refl _
      · rw [Option.isSome_map] at e
        obtain ⟨p, hp⟩ := Option.isSome_iff_exists.mp e
        have hm := List.mem_of_find?_eq_some hp
        have hq : (p.2 == a) = true := List.find?_some (p := fun p : Str × Addr => p.2 == a) hp
        have := x.above p.1 p.2 hm
        rw [beq_iff_eq.mp hq, e2] at this
        exact Nat.le_of_lt this
    have old : ∀ a, (jn τ σ a).isSome = true → a < s.heap.objs.size := fun a e => by
      obtain ⟨c, hc⟩ := Option.isSome_iff_exists.mp e
      exact hh.lt hc
    have dj : ∀ a, (fr env (ofL bs noLo) a).isSome = true → τ a = none ∧ σ a = none := fun a e => by
      have := lt a e
      refine jn_none.mp ?_
      cases q : jn τ σ a with
      | none => rfl
      | some c => exact absurd (old a (by rw [q]; rfl)) (Nat.not_lt.mpr this)
    have hhr : HR w H0 φ (jn (jn τ (fr env (ofL bs noLo))) σ) h1 := by
      have g := hh.grow hk1
      refine ⟨g.keep, g.root, fun a c e => ?_, fun a c e => ?_, g.big⟩
      rotate_left
      · cases hf : fr env (ofL bs noLo) a with
        | some c' => exact Nat.lt_of_lt_of_le hh.past (lt a (by rw [hf]; rfl))
        | none =>
          have : jn τ σ a = some c := by
            unfold jn at e ⊢
            rw [hf] at e
            simpa using e
          exact hh.high a c this
      cases hf : fr env (ofL bs noLo) a with
      | none =>
        have : jn τ σ a = some c := by
          unfold jn at e ⊢
          rw [hf] at e
          simpa using e
        exact g.cells a c this
      | some c' =>
        have d := dj a (by rw [hf]; rfl)
        have : c' = c := by
          unfold jn at e
          rw [d.1, hf] at e
          simpa using e
        subst this
        refine ⟨?_, ?_⟩
        · cases q : φ a with
          | none => rfl
          | some o => exact absurd (hh.ltP q) (Nat.not_lt.mpr (lt a (by rw [hf]; rfl)))
        · unfold fr at hf
          split at hf
          · rename_i q
            cases hf
            obtain ⟨o, ho', hm⟩ := ns_iff.mp x.toInCall.ns
            refine ⟨o, q ▸ ho', _, hm, ?_⟩
            exact fun z => (bind_local hbx (fun y => by split <;> exact .none) z).w
          · obtain ⟨p, hp, hpc⟩ := Option.map_eq_some_iff.mp hf
            subst hpc
            have hm := List.mem_of_find?_eq_some hp
            have hq : p.2 = a := beq_iff_eq.mp (List.find?_some (p := fun p : Str × Addr => p.2 == a) hp)
            have hl : ∃ c0, env.cells.lookup p.1 = some c0 := by
              cases hl : env.cells.lookup p.1 with
              | some c0 => exact ⟨c0, rfl⟩
              | none =>
                exfalso
                have : ∀ l : List (Str × Addr), l.lookup p.1 = none → p ∉ l := by
                  intro l
                  induction l with
                  | nil => intro _ h; cases h
                  | cons y r ih =>
                    intro hl h
                    obtain ⟨y1, y2⟩ := y
                    rw [List.lookup_cons] at hl
                    split at hl
                    · cases hl
                    · rename_i hne
                      rcases List.mem_cons.mp h with rfl | h
                      · simp at hne
                      · exact ih hl h
                exact this _ hl hm
            obtain ⟨c0, hl⟩ := hl
            have nd : (env.cells.map (·.1)).Nodup := by rw [e3, cellsFrom_names fd.scope.names (s.heap.objs.size + 1) 0 [] [] rfl]; exact F.cells
            have hc0 : c0 = p.2 := by
              have h2 := lookup_of_mem_nodup nd (show (p.1, p.2) ∈ env.cells from hm)
              rw [hl] at h2; exact Option.some.inj h2
            subst hc0
            obtain ⟨o, ho', hd'⟩ := x.cell _ _ hl
            refine ⟨o, hq ▸ ho', _, hd', ?_⟩
            refine (bind_cell hbx (fun _ _ => .none) p.1 fun q => ?_).w
            have hin : p.1 ∈ (cellsFrom 0 fd.scope.names []).map (·.1) := by
              rw [← cellsFrom_names fd.scope.names (s.heap.objs.size + 1) 0 [] [] rfl, ← e3]; exact List.mem_map_of_mem hm
            rw [hkd, F.cellk _ hin] at q
            cases q
    have K : Ok w H0 fd.scope n τ env (A.deeper env) (ofL bs noLo) φ σ { s with heap := h1, toks := tk } := ⟨ok, hr.deeper, dj, hd, hhr⟩
    refine wpAny_mono (h τ env _ _ K) (fun fl s2 hPt => ?_) fun _ _ f => f.elim
    obtain ⟨b, ρ', φ', σ', r, k, m, q⟩ := hPt
    refine hR (FlV b) _ φ' σ' s2 (by cases r <;> first | exact .none | assumption) k.dj2 (k.hr.sub fun a c e => ?_) m q
    unfold jn at e ⊢
    cases q1 : τ a with
    | some c' => rw [q1] at e; simpa using e
    | none =>
      rw [q1] at e
      simp only [Option.none_or] at e
      have : fr env ρ' a = none := by
        cases q2 : fr env ρ' a with
        | none => rfl
        | some c'' => have := (k.dj1 a (by rw [q2]; rfl)).2; rw [e] at this; cases this
      simp [this, e]
end Mine
namespace Mine
abbrev CallW (w : World) (H0 : Heap) (sc : Scope) (n : Nat) (f : Value) (vs : List V) (ρ : Lo) (φ : Ph) (σ : Sg) (Q : V → Lo → Ph → Sg → Prop) : Prop := ∀ xs, VRs vs xs → W w H0 sc n VR (fun _ => call f xs) ρ φ σ Q
abbrev ArgsW (w : World) (H0 : Heap) (sc : Scope) (n : Nat) (pos : Pos) (es : List PySem.Expr) (ρ : Lo) (φ : Ph) (σ : Sg) (Q : List V → Lo → Ph → Sg → Prop) : Prop := W w H0 sc n VRs (fun env => spliced (backTo pos (starEach es env))) ρ φ σ Q
theorem CW.code (R : Rt w H0) {f : Addr} {fd : FuncData} {body : List Stmt} (F : FnOk w H0 f fd body) {n : Nat} {vs : List V} {bs : List (Str × V)} (hb : Bind H0 fd vs bs)
    (hbk : ∀ x ∈ bs.map (·.1), fd.scope.names.lookup x = some .local ∨ fd.scope.names.lookup x = some .cell) {φ : Ph} {σ : Sg} {Q : V → Ph → Sg → Prop}
    (h : XW w H0 fd.scope n body (ofL bs noLo) φ σ fun fl _ φ σ => Q (FlV fl) φ σ) : CW w H0 (n + 1) (.ref f) vs φ σ Q := fun τ A s xs hr hx hd hh =>
  wpAny_call (code_fn R F hb hbk h hr hx hd hh fun v x φ' σ' s' h1 h2 h3 h4 h5 => ⟨v, φ', σ', h1, h2, h3, h4, h5⟩)
section
variable {sc : Scope} {n : Nat} {ρ : Lo} {φ : Ph} {σ : Sg} {Q : V → Lo → Ph → Sg → Prop}
theorem CallW.of {f : Value} {vs : List V} (h : CW w H0 n f vs φ σ fun v φ σ => Q v ρ φ σ) : CallW w H0 sc n f vs ρ φ σ Q := fun xs hx τ env A s k => by
  refine wpAny_mono (h (jn τ (fr env ρ)) A s xs k.room hx (fun a e => jn_none.mpr ⟨k.dj2 a e, ?_⟩) k.hr) (fun x s' ⟨v, φ', σ', h1, h2, h3, h4, h5⟩ => ⟨v, ρ, φ', σ', h1, ⟨k.ok, k.room, fun a e => ⟨(k.dj1 a e).1, ?_⟩, fun a e => (jn_none.mp (h2 a e)).1, h3⟩, h4, h5⟩) fun _ _ x => x
  · cases q : fr env ρ a with
    | none => rfl
    | some c => have := (k.dj1 a (by rw [q]; rfl)).2; rw [this] at e; cases e
  · cases q : σ' a with
    | none => rfl
    | some c =>
      have := (jn_none.mp (h2 a (by rw [q]; rfl))).2
      rw [this] at e; cases e
abbrev AcK (w : World) (H0 : Heap) (sc : Scope) (n : Nat) (pos : Pos) (es : List PySem.Expr) (Q : List V → Lo → Ph → Sg → Prop) : V → Lo → Ph → Sg → Prop := fun v ρ φ σ => ArgsW w H0 sc n pos es ρ φ σ fun vs => Q (v :: vs)
abbrev ClK (w : World) (H0 : Heap) (sc : Scope) (n : Nat) (f : Value) (Q : V → Lo → Ph → Sg → Prop) : List V → Lo → Ph → Sg → Prop := fun vs ρ φ σ => CallW w H0 sc n f vs ρ φ σ Q
theorem A_nil {pos : Pos} {Q : List V → Lo → Ph → Sg → Prop} (q : Q [] ρ φ σ) : ArgsW w H0 sc n pos [] ρ φ σ Q := W.leaf (fun τ env A s _ => spliced_nil ⟨.nil, rfl, rfl, rfl⟩) q
theorem A_cons {pos : Pos} {e : PySem.Expr} {es : List PySem.Expr} {Q : List V → Lo → Ph → Sg → Prop} (h : EW w H0 sc n e ρ φ σ (AcK w H0 sc n pos es Q))
    (he : ∀ env, starEach (e :: es) env = (false, eval e env) :: starEach es env := by intro _; rfl) : ArgsW w H0 sc n pos (e :: es) ρ φ σ Q := fun τ env A s k => by
  show wpAny _ _ (spliced (backTo pos (starEach (e :: es) env))) _ _ _
  rw [he]
  exact spliced_cons (Post.run (h τ env A s k) (fun x s1 b1 ρ1 φ1 σ1 r1 k1 m1 h1 => Post.run (h1 τ env A s1 k1) (fun xs s2 b2 ρ2 φ2 σ2 r2 k2 m2 h2 => ⟨b1 :: b2, ρ2, φ2, σ2, .cons r1 r2, k2, m1.trans m2, h2⟩)))
noncomputable def noStar : PySem.Expr → Bool
  | .Starred .. => false
  | _ => true
theorem star_one {e : PySem.Expr} (h : noStar e = true) (es : List PySem.Expr) (env : Env) : starEach (e :: es) env = (false, eval e env) :: starEach es env := by
  cases e <;> first | rfl | cases h
theorem star_all {es : List PySem.Expr} (h : es.all noStar = true) (pos : Pos) (env : Env) : (backTo pos (starEach es env)).any (·.1) = false := by
  induction es with
  | nil => rfl
  | cons e r ih =>
    rw [List.all_cons, Bool.and_eq_true] at h
    rw [star_one h.1]
    show (false || (backTo pos (starEach r env)).any (·.1)) = false
    rw [ih h.2]; rfl
theorem callWith_w : ∀ {sc : Scope} {n : Nat} {ρ : Lo} {φ : Ph} {σ : Sg} {Q : V → Lo → Ph → Sg → Prop} {pos : Pos} {f : Value} {first : List Value} {vf : List V} {es : List PySem.Expr} (hf : VRs vf first) (hs : es.all noStar = true) (hk : ∀ (M : Model) (h : Heap), (∀ b o, H0.get? b = some o → h.get? b = some o) → ∃ k, (k = Keeper.frame ∨ k = Keeper.machine ∨ k = Keeper.boundFrame) ∧ Looks M h (keeperOf f) k) (h : ArgsW w H0 sc n pos es ρ φ σ fun vs ρ φ σ => CallW w H0 sc n f (vf ++ vs) ρ φ σ Q),
    W w H0 sc n VR (fun env => callWith pos f first (backTo pos (starEach es env)) []) ρ φ σ Q := by
  apply @Mine.hk6; generalize ca1 (cx _) = sc, ca2 (cx _) = n, ca3 (cx _) = ρ, ca4 (cx _) = φ, ca5 (cx _) = σ, cz6 (cx _) = Q
  apply @Mine.hk5; generalize ca1 (cx _) = pos, ca2 (cx _) = f, ca3 (cx _) = first, ca4 (cx _) = vf, cz5 (cx _) = es
  intro hf hs hk h
  refine @Mine.hk4 _ _ _ _ _ _ neAround neShared _ ?_; generalize ca1 (cx _) = τ, ca2 (cx _) = env, ca3 (cx _) = A, cz4 (cx _) = s
  intro k
  refine callWith_of (P := fun hp => ∀ b o, H0.get? b = some o → hp.get? b = some o) (by rw [star_all hs]; rfl) (fun hp x => hk _ hp x) ?_
  have key : ∀ {Q' : Args → Shared → Prop}, wpAny (model pw w) A (spliced (backTo pos (starEach es env))) (fun vs s' => Q' ⟨vs, []⟩ s') (fun _ _ => False) s → wpAny (model pw w) A (evalArgs f true (backTo pos (starEach es env)) []) Q' (fun _ _ => False) s := by
    intro Q' hh
    cases es with
    | nil =>
      unfold evalArgs
      refine wpAny_bind (wpAny_mono hh (fun vs s' h' => ?_) fun _ _ x => x)
      refine wpAny_holding ?_
      exact wpAny_bind (wpAny_pure (wpAny_bind (wpAny_pure (wpAny_pure h'))))
    | cons e r =>
      rw [List.all_cons, Bool.and_eq_true] at hs
      rw [star_one hs.1] at hh ⊢
      exact evalArgs_plain hh
  refine key (Post.run (h τ env A s k) (fun xs s1 b1 ρ1 φ1 σ1 r1 k1 m1 h1 => ⟨k1.root, ?_⟩))
  have app : ∀ {vf first}, VRs vf first → VRs (vf ++ b1) (first ++ xs) := by
    intro vf first hf
    induction hf with
    | nil => exact r1
    | cons h _ ih => exact .cons h ih
  exact Post.run (h1 _ (app hf) τ env A s1 k1) (fun x s2 b2 ρ2 φ2 σ2 r2 k2 m2 h2 => ⟨b2, ρ2, φ2, σ2, r2, k2, m1.trans m2, h2⟩)
theorem keeps_frag {f : Value} (hk : keepIn (KK w.params) f = true) (R : Rt w H0) (M : Model) (h : Heap) (x : ∀ b o, H0.get? b = some o → h.get? b = some o) : ∃ k, (k = Keeper.frame ∨ k = Keeper.machine ∨ k = Keeper.boundFrame) ∧ Looks M h (keeperOf f) k :=
  keeps_K hk h (R.K.keeps x)
theorem E_callV : ∀ {sc : Scope} {n : Nat} {ρ : Lo} {φ : Ph} {σ : Sg} {Q : V → Lo → Ph → Sg → Prop} {fx : Str} {fp pos : Pos} {es : List PySem.Expr} {fv : V} {f : Value} (hs : es.all noStar = true) (hv : ∀ x, VR fv x → x = f) (hk : ∀ (M : Model) (h : Heap), (∀ b o, H0.get? b = some o → h.get? b = some o) → ∃ k, (k = Keeper.frame ∨ k = Keeper.machine ∨ k = Keeper.boundFrame) ∧ Looks M h (keeperOf f) k) (h : EW w H0 sc n (.Name fx fp) ρ φ σ fun v ρ φ σ => v = fv ∧ ArgsW w H0 sc n pos es ρ φ σ fun vs ρ φ σ => CallW w H0 sc n f vs ρ φ σ Q), EW w H0 sc n (.Call (.Name fx fp) es [] pos) ρ φ σ Q := by
  apply @Mine.hk6; generalize ca1 (cx _) = sc, ca2 (cx _) = n, ca3 (cx _) = ρ, ca4 (cx _) = φ, ca5 (cx _) = σ, cz6 (cx _) = Q
  apply @Mine.hk6; generalize ca1 (cx _) = fx, ca2 (cx _) = fp, ca3 (cx _) = pos, ca4 (cx _) = es, ca5 (cx _) = fv, cz6 (cx _) = f
  intro hs hv hk h
  refine @Mine.hk4 _ _ _ _ _ _ neAround neShared _ ?_; generalize ca1 (cx _) = τ, ca2 (cx _) = env, ca3 (cx _) = A, cz4 (cx _) = s
  intro k
  show wpAny _ _ (do callWith pos (← eval (.Name fx fp) env) [] (backTo pos (starEach es env)) (backToKw pos (keywordEach [] env))) _ _ _
  refine wpAny_bind (Post.run (h τ env A s k) (fun x s1 b1 ρ1 φ1 σ1 r1 k1 m1 hPt => ?_))
  obtain ⟨e, h1⟩ := hPt
  subst e
  have := hv x r1
  subst this
  exact Post.run (callWith_w (f := x) (first := []) (vf := []) .nil hs hk h1 τ env A s1 k1) (fun x s2 b2 ρ2 φ2 σ2 r2 k2 m2 h2 => ⟨b2, ρ2, φ2, σ2, r2, k2, m1.trans m2, h2⟩)
theorem E_call (R : Rt w H0) {fx : Str} {fp pos : Pos} {es : List PySem.Expr} {f : Addr} (hk : sc.names.lookup fx = some .globalImplicit) (hy : nsIn (KK w.params) mainGlobals fx = some (some (.ref f))) (hkp : keepIn (KK w.params) (.ref f) = true) (hs : es.all noStar = true)
    (h : ArgsW w H0 sc n pos es ρ φ σ (ClK w H0 sc n (.ref f) Q)) (hd : (fx == ("__debug__" : Str)) = false := by decide) : EW w H0 sc n (.Call (.Name fx fp) es [] pos) ρ φ σ Q :=
  E_callV (fv := .ref f) hs (fun x hx => by refine VR.refE hx ?_; rfl) (keeps_frag hkp R) (E_glob R hk hy (.ref f) ⟨rfl, h⟩ hd)
theorem E_callB (R : Rt w H0) {fx : Str} {fp pos : Pos} {es : List PySem.Expr} {f : Value} (hk : sc.names.lookup fx = some .globalImplicit) (hy : nsIn (KK w.params) mainGlobals fx = some none) (hb : bootBuiltins fx = some f) (hn : fx ≠ "__name__")
    (hkp : keeperOf f = pure .machine) (hs : es.all noStar = true)
    (h : ArgsW w H0 sc n pos es ρ φ σ (ClK w H0 sc n f Q)) (hd : (fx == ("__debug__" : Str)) = false := by decide) : EW w H0 sc n (.Call (.Name fx fp) es [] pos) ρ φ σ Q :=
  E_callV (fv := .ext f) hs (fun x hx => by refine VR.extE hx ?_; rfl) (fun M h _ => ⟨_, .inr (.inl rfl), Looks.of_pure hkp⟩) (E_blt R hk hy hb hn (.ext f) ⟨rfl, h⟩ hd)
theorem E_meth : ∀ {sc : Scope} {n : Nat} {ρ : Lo} {φ : Ph} {σ : Sg} {Q : V → Lo → Ph → Sg → Prop} {o : PySem.Expr} {name : Str} {apos pos : Pos} {es : List PySem.Expr} {pl : Env → Sem Bool} (hs : es.all noStar = true) (h : EW w H0 sc n o ρ φ σ fun ov ρ φ σ => ∀ x, VR ov x → W w H0 sc n (fun (p : Value × List V) (y : Value × List Value) => y.1 = p.1 ∧ VRs p.2 y.2) (fun env => getMethod x name (pl env)) ρ φ σ fun p ρ φ σ =>
      (∀ (M : Model) (h : Heap), (∀ b o, H0.get? b = some o → h.get? b = some o) → ∃ k, (k = Keeper.frame ∨ k = Keeper.machine ∨ k = Keeper.boundFrame) ∧ Looks M h (keeperOf p.1) k) ∧
      ArgsW w H0 sc n pos es ρ φ σ fun vs ρ φ σ => CallW w H0 sc n p.1 (p.2 ++ vs) ρ φ σ Q) (he : ∀ env, eval (.Call (.Attribute o name apos) es [] pos) env = (do
      let ov ← eval o env
      standAt apos.atName
      let (f, first) ← holding [ov] (getMethod ov name (pl env))
      callWith pos f first (backTo pos (starEach es env)) []) := by intro _; rfl), EW w H0 sc n (.Call (.Attribute o name apos) es [] pos) ρ φ σ Q := by
  apply @Mine.hk6; generalize ca1 (cx _) = sc, ca2 (cx _) = n, ca3 (cx _) = ρ, ca4 (cx _) = φ, ca5 (cx _) = σ, cz6 (cx _) = Q
  apply @Mine.hk6; generalize ca1 (cx _) = o, ca2 (cx _) = name, ca3 (cx _) = apos, ca4 (cx _) = pos, ca5 (cx _) = es, cz6 (cx _) = pl
  intro hs h he
  refine @Mine.hk4 _ _ _ _ _ _ neAround neShared _ ?_; generalize ca1 (cx _) = τ, ca2 (cx _) = env, ca3 (cx _) = A, cz4 (cx _) = s
  intro k
  exact 
  MethodCall_ (Post.run (h τ env A s k) (fun x s1 b1 ρ1 φ1 σ1 r1 k1 m1 h1 => wpAny_mono (h1 x r1 τ env A s1 k1) (fun y s2 ⟨p, ρ2, φ2, σ2, ⟨e1, e2⟩, k2, m2, hk, h2⟩ =>
    Post.run (callWith_w (f := y.1) (first := y.2) (vf := p.2) e2 hs (fun M hp x => e1 ▸ hk M hp x) (e1 ▸ h2) τ env A s2 k2) (fun z s3 b3 ρ3 φ3 σ3 r3 k3 m3 h3 => ⟨b3, ρ3, φ3, σ3, r3, k3, m1.trans (m2.trans m3), h3⟩)) fun _ _ x => x)) (he env)
theorem E_attr {e : PySem.Expr} {attr : Str} {pos : Pos} (h : EW w H0 sc n e ρ φ σ (AtK w H0 sc n attr Q))
    (he : ∀ env, eval (.Attribute e attr pos) env = (do
      let o ← eval e env
      standAt pos.atName
      let r ← holding [o] (getAttr o attr true)
      letTemporaryGo e o r
      pure r) := by intro _; rfl) : EW w H0 sc n (.Attribute e attr pos) ρ φ σ Q := fun τ env A s k =>
  Attribute_any_ (Post.run (h τ env A s k) (fun x s1 b1 ρ1 φ1 σ1 r1 k1 m1 h1 => Post.run (h1 x r1 τ env A s1 k1) (fun y s2 b2 ρ2 φ2 σ2 r2 k2 m2 h2 => ⟨b2, ρ2, φ2, σ2, r2, k2, m1.trans m2, h2⟩))) (he env)
theorem E_sub {e i : PySem.Expr} {pos : Pos} (h : EW w H0 sc n e ρ φ σ (SbK w H0 sc n e i Q)) : EW w H0 sc n (.Subscript e i pos) ρ φ σ Q := fun τ env A s k =>
  Subscript_ (Post.run (h τ env A s k) (fun x s1 b1 ρ1 φ1 σ1 r1 k1 m1 h1 => Post.run (h1 τ env A s1 k1) (fun y s2 b2 ρ2 φ2 σ2 r2 k2 m2 h2 => Post.run (h2 x y r1 r2 τ env A s2 k2) (fun z s3 b3 ρ3 φ3 σ3 r3 k3 m3 h3 => ⟨b3, ρ3, φ3, σ3, r3, k3, m1.trans (m2.trans m3), h3⟩))))
noncomputable def DictIs (φ : Ph) (σ : Sg) (d : Addr) (m : Lo) : Prop := (∃ k, σ d = some (.ns m k)) ∨ ∃ o m', φ d = some o ∧ NsO o m' ∧ ∀ x, VRo (m x) (m' x)
theorem lookIn_of_ns {o : Obj} {m : Str → Option Value} (h : NsO o m) (x : Str) : lookIn x o = some (m x) := by
  obtain ⟨es, ep, hd, hk, hm⟩ := h
  unfold lookIn
  rw [hd]
  dsimp only
  rw [← hm x]
  unfold nsFind findBy
  rw [← Array.find?_toList]
  cases e : es.toList.find? (fun e => e.key.isStr x) with
  | some en => rfl
  | none =>
    have : es.toList.any (·.refKey) = false := by
      rw [List.any_eq_false]
      intro en hen
      obtain ⟨n, t, hh⟩ := hk en (Array.mem_toList_iff.mp hen)
      simp [DictEntry.refKey, hh]
    simp [this]
theorem Ok.dict {τ : Sg} {env : Env} {A : Around} {s : Shared} (k : Ok w H0 sc n τ env A ρ φ σ s) {d : Addr} {m : Lo} (h : DictIs φ σ d m) : ∃ o m', s.heap.get? d = some o ∧ NsO o m' ∧ ∀ x, VRo (m x) (m' x) := by
  rcases h with ⟨kk, h⟩ | ⟨o, m', h1, h2, h3⟩
  · obtain ⟨_, o, ho, m', h2, h3⟩ := k.hr.cells _ _ (k.full_sg h); exact ⟨o, m', ho, h2.o, h3⟩
  · exact ⟨o, m', k.hr.keep _ _ h1, h2, h3⟩
noncomputable def attrOk (K : Frag) (C : Addr) (name : Str) : Bool := plainGet K C name && hasDictIn K C && (findIn K (.ref C) name == some none)
noncomputable def handV : V → Bool
  | .ext _ => false
  | _ => true
theorem handed_of {v : V} {x : Value} (h : VR v x) (hv : handV v = true) : handedIn x = true := by
  cases h <;> first | rfl | cases hv
theorem Ok.inst {τ : Sg} {env : Env} {A : Around} {s : Shared} (k : Ok w H0 sc n τ env A ρ φ σ s) {x Cc d : Addr} {m : Lo} (hx : φ x = some (instObj Cc d)) (hd : DictIs φ σ d m) : ∃ od m', InstAt s.heap x (instObj Cc d) Cc (some od) ∧ NsO od m' ∧ ∀ x, VRo (m x) (m' x) := by
  obtain ⟨o, m', h1, h2, h3⟩ := k.dict hd
  exact ⟨o, m', ⟨k.hr.keep _ _ hx, rfl, rfl, h1⟩, h2, h3⟩
theorem G_attr : ∀ {sc : Scope} {n : Nat} {ρ : Lo} {φ : Ph} {σ : Sg} {Q : V → Lo → Ph → Sg → Prop} {x Cc d : Addr} {m : Lo} {name : Str} {v : V} {e : Bool} (R : Rt w H0) (hx : φ x = some (instObj Cc d)) (hd : DictIs φ σ d m) (hc : attrOk (KK w.params) Cc name = true) (hv : m name = some v) (hh : handV v = true) (q : Q v ρ φ σ),
    ∀ y, VR (.ref x) y → W w H0 sc n VR (fun _ => getAttr y name e) ρ φ σ Q := by
  apply @Mine.hk6; generalize ca1 (cx _) = sc, ca2 (cx _) = n, ca3 (cx _) = ρ, ca4 (cx _) = φ, ca5 (cx _) = σ, cz6 (cx _) = Q
  apply @Mine.hk6; generalize ca1 (cx _) = x, ca2 (cx _) = Cc, ca3 (cx _) = d, ca4 (cx _) = m, ca5 (cx _) = name, cz6 (cx _) = v
  apply @Mine.hk; generalize cx _ = e
  intro R hx hd hc hv hh q
  intro y hy
  refine VR.refE hy ?_
  refine W.leaf (b := v) (fun τ env A s k => ?_) q
  obtain ⟨od, m', I, hn, hr⟩ := k.inst hx hd
  have hvr := hr name
  rw [hv] at hvr
  unfold attrOk at hc
  obtain ⟨hc, h3⟩ := Bool.and_eq_true_iff.mp hc
  obtain ⟨h1, h2⟩ := Bool.and_eq_true_iff.mp hc
  have h3 := beq_iff_eq.mp h3
  cases e1 : m' name with
  | none => rw [e1] at hvr; cases hvr
  | some u =>
    rw [e1] at hvr
    cases hvr with
    | some hvr =>
      have hl : lookIn name od = some (some u) := by rw [lookIn_of_ns hn, e1]
      have hf : findObj (KK w.params) Cc (some od) name = some (.value u) := by
        unfold findObj
        unfold hasDictIn at h2
        obtain ⟨cd, hcd, hcd'⟩ := any_some h2
        rw [hcd, Option.bind_some, h3, Option.bind_some, Option.bind_some]
        dsimp only
        rw [Option.bind_some]
        unfold PySem.W.ownOf
        rw [if_pos hcd']
        dsimp only
        rw [hl]; rfl
      exact get_value (R.K.keeps k.root) I (plainGet_of h1).1 hf (handed_of hvr hh) ⟨hvr, rfl, rfl, rfl⟩
noncomputable def methOk (K : Frag) (C : Addr) (name : Str) (f : Addr) : Bool := plainGet K C name && (findIn K (.ref C) name == some (some (.ref f))) && (typeIn K (.ref f) == some (.type "function"))
theorem G_meth : ∀ {sc : Scope} {n : Nat} {ρ : Lo} {φ : Ph} {σ : Sg} {x Cc d f : Addr} {m : Lo} {name : Str} {pl : Env → Sem Bool} {Q : Value × List V → Lo → Ph → Sg → Prop} (R : Rt w H0) (hx : φ x = some (instObj Cc d)) (hd : DictIs φ σ d m) (hc : methOk (KK w.params) Cc name f = true) (hv : m name = none) (q : Q (.ref f, [.ref x]) ρ φ σ),
    ∀ y, VR (.ref x) y → W w H0 sc n (fun (p : Value × List V) (y : Value × List Value) => y.1 = p.1 ∧ VRs p.2 y.2) (fun env => getMethod y name (pl env)) ρ φ σ Q := by
  apply @Mine.hk6; generalize ca1 (cx _) = sc, ca2 (cx _) = n, ca3 (cx _) = ρ, ca4 (cx _) = φ, ca5 (cx _) = σ, cz6 (cx _) = x
  apply @Mine.hk6; generalize ca1 (cx _) = Cc, ca2 (cx _) = d, ca3 (cx _) = f, ca4 (cx _) = m, ca5 (cx _) = name, cz6 (cx _) = pl
  apply @Mine.hk; generalize cx _ = Q
  intro R hx hd hc hv q
  intro y hy
  refine VR.refE hy ?_
  refine W.leaf (b := (.ref f, [.ref x])) (fun τ env A s k => ?_) q
  obtain ⟨od, m', I, hn, hr⟩ := k.inst hx hd
  have hvr := hr name
  rw [hv] at hvr
  unfold methOk at hc
  obtain ⟨hc, h3⟩ := Bool.and_eq_true_iff.mp hc
  obtain ⟨h1, h2⟩ := Bool.and_eq_true_iff.mp hc
  have e1 : m' name = none := by cases e : m' name with | none => rfl | some u => rw [e] at hvr; cases hvr
  refine method_fn (R.K.keeps k.root) I (plainGet_of h1).1 (plainGet_of h1).2 (beq_iff_eq.mp h2) (beq_iff_eq.mp h3) ?_ ⟨⟨rfl, .cons (.ref x) .nil⟩, rfl, rfl, rfl⟩
  show (lookIn name od).map _ = _
  rw [lookIn_of_ns hn, e1]; rfl
end
end Mine
namespace Mine
theorem jn_none_left {τ σ : Sg} {a : Addr} (h : τ a = none) : jn τ σ a = σ a := by simp [jn, h]
section
variable {sc : Scope} {n : Nat} {ρ : Lo} {φ : Ph} {σ : Sg}
theorem Ok.turn : ∀ {sc : Scope} {n : Nat} {ρ : Lo} {φ : Ph} {σ : Sg} {τ : Sg} {env : Env} {A : Around} {s s' : Shared} {ρ' : Lo} {a : Addr} {c c' : C} {o : Obj} (k : Ok w H0 sc n τ env A ρ φ σ s) (ha : fr env ρ a = some c) (hc' : fr env ρ' a = some c') (ho : ∀ b, b ≠ a → fr env ρ' b = fr env ρ b) (hs : ∀ b, b ≠ a → s'.heap.get? b = s.heap.get? b) (hget : s'.heap.get? a = some o) (hcr : CR w φ c' o), Ok w H0 sc n τ env A ρ' φ σ s' := by
  apply @Mine.hk6; generalize ca1 (cx _) = sc, ca2 (cx _) = n, ca3 (cx _) = ρ, ca4 (cx _) = φ, ca5 (cx _) = σ, cz6 (cx _) = τ
  refine @Mine.hk6 _ _ _ _ _ _ _ neAround neShared neShared _ _ _ ?_; generalize ca1 (cx _) = env, ca2 (cx _) = A, ca3 (cx _) = s, ca4 (cx _) = s', ca5 (cx _) = ρ', cz6 (cx _) = a
  refine @Mine.hk3 _ _ _ neC neC _ _ ?_; generalize ca1 (cx _) = c, ca2 (cx _) = c', cz3 (cx _) = o
  intro k ha hc' ho hs hget hcr
  have d := k.dj1 a (by rw [ha]; rfl)
  have hfull : jn (jn τ (fr env ρ)) σ a = some c := jn_left (jn_right d.1 ha)
  have hr := k.hr.set hfull hs hget hcr
  refine ⟨k.ok, k.room, fun b e => k.dj1 b (by rw [fr_some_iff env ρ ρ']; exact e), k.dj2, ?_⟩
  have e : jn (jn τ (fr env ρ')) σ = upd (jn (jn τ (fr env ρ)) σ) a c' := by
    funext b
    by_cases hb : b = a
    · subst hb; rw [upd_same]; exact jn_left (jn_right d.1 hc')
    · rw [upd_other hb]; unfold jn; rw [ho b hb]
  rw [e]; exact hr
theorem BN_local {x : Str} {v : V} {Q : Lo → Ph → Sg → Prop} (hk : sc.names.lookup x = some .local) (q : Q (setL ρ x v) φ σ) : ∀ y, VR v y → W w H0 sc n UR (fun env => bindName env x y) ρ φ σ (fun _ => Q) := fun y hy τ env A s k => by
  refine wpAny_bindName ?_
  obtain ⟨_, o, ho, m', hm, hr⟩ := k.hr.cells _ _ k.full_locals
  have hkind := k.kind hk
  have hfn := k.fn
  refine wpAny_storeName_local hkind (ns_iff.mpr ⟨o, ho, hm⟩) (fun h' hn hs => ?_) (by rw [hfn]; rfl)
  obtain ⟨o', ho', hm'⟩ := ns_iff.mp hn
  refine ⟨(), setL ρ x v, φ, σ, trivial, ?_, ⟨rfl, rfl⟩, q⟩
  refine k.turn (a := env.locals) (fr_locals env ρ) (fr_locals env (setL ρ x v)) (fun b hb => ?_) (fun b hb => hs.2 b hb) ho' ⟨_, hm', fun z => ?_⟩
  · unfold fr
    rw [if_neg hb, if_neg hb]
    cases e : env.cells.find? fun p => p.2 == b with
    | none => rfl
    | some p =>
      have : p.1 ≠ x := fun q => k.ok.ckind p (List.mem_of_find?_eq_some e) (q ▸ hk)
      simp [setL, this]
  · dsimp only
    by_cases hz : z = x
    · subst hz; rw [if_pos rfl, if_pos hkind]; unfold setL; rw [if_pos rfl]; exact (VRo.some hy).w
    · rw [if_neg hz]; unfold setL; rw [if_neg hz]; exact hr z
theorem A_local {x : Str} {pos : Pos} {v : V} {Q : Lo → Ph → Sg → Prop} (hk : sc.names.lookup x = some .local) (q : Q (setL ρ x v) φ σ) : AW w H0 sc n (.Name x pos) v ρ φ σ Q := fun y hy τ env A s k => by
  show wpAny _ _ (standAt pos >>= fun _ => bindName env x y) _ _ _
  exact wpAny_bind (wpAny_standAt (BN_local hk q y hy τ env A s k))
theorem A_cell {x : Str} {pos : Pos} {v : V} {Q : Lo → Ph → Sg → Prop} (hk : sc.names.lookup x = some .cell) (q : Q (setL ρ x v) φ σ) : AW w H0 sc n (.Name x pos) v ρ φ σ Q := fun y hy τ env A s k => by
  show wpAny _ _ (standAt pos >>= fun _ => bindName env x y) _ _ _
  refine wpAny_bind (wpAny_standAt (wpAny_bindName ?_))
  obtain ⟨c, hc⟩ := k.ok.has x _ hk (.inl rfl)
  obtain ⟨_, o, ho, m', hm, hr⟩ := k.hr.cells _ _ (k.full_cell hc)
  refine wpAny_storeName_cell k.fn (k.kind hk) hc ⟨o, ho, hm⟩ fun h' hv hs => ?_
  obtain ⟨o', ho', hd'⟩ := hv
  refine ⟨(), setL ρ x v, φ, σ, trivial, ?_, ⟨rfl, rfl⟩, q⟩
  refine k.turn (a := c) (fr_cell k.ok ρ hc) (fr_cell k.ok (setL ρ x v) hc) (fun b hb => ?_) (fun b hb => hs.2 b hb) ho' ⟨_, hd', by unfold setL; rw [if_pos rfl]; exact (VRo.some hy).w⟩
  unfold fr
  split
  · have : (fun z => if env.kindOf z = some .local then setL ρ x v z else none) = fun z => if env.kindOf z = some .local then ρ z else none := by
      funext z
      by_cases hz : z = x
      · subst hz; rw [k.kind hk]; simp
      · unfold setL; rw [if_neg hz]
    rw [this]
  · cases e : env.cells.find? fun p => p.2 == b with
    | none => rfl
    | some p =>
      have hm := List.mem_of_find?_eq_some e
      have hq : p.2 = b := beq_iff_eq.mp (List.find?_some (p := fun p : Str × Addr => p.2 == b) e)
      have : p.1 ≠ x := fun q => by
        have h1 := lookup_of_mem_nodup k.ok.nd (show (p.1, p.2) ∈ env.cells from hm)
        rw [q, hc] at h1
        exact hb (hq ▸ (Option.some.inj h1).symm)
      simp [setL, this]
theorem S_assign {x : Str} {p pos : Pos} {e : PySem.Expr} {Q : Fl → Lo → Ph → Sg → Prop} (h : EW w H0 sc n e ρ φ σ (AsK w H0 sc n (.Name x p) Q))
    (hs : ∀ env, swapsWith e (some (.Name x p)) pos.line env = pure false := by intro _; rfl) : SW w H0 sc n (.Assign [.Name x p] e pos) ρ φ σ Q := fun τ env A s k => by
  show wpAny _ _ (exec (.Assign [.Name x p] e pos) env) _ _ _
  rw [exec_Assign_Name env x p e pos (hs env)]
  refine wpAny_bind (wpAny_standAt (wpAny_bind (Post.run (h τ env A s k) (fun y s1 b1 ρ1 φ1 σ1 r1 k1 m1 h1 => ?_))))
  show wpAny _ _ (assign (.Name x p) env y >>= fun _ => pure Flow.next) _ _ _
  exact wpAny_bind (Post.run (h1 y r1 τ env A s1 k1) (fun _ s2 b2 ρ2 φ2 σ2 r2 k2 m2 h2 => wpAny_pure ⟨.next, ρ2, φ2, σ2, .next, k2, m1.trans m2, h2⟩))
theorem putNs : ∀ {od : Obj} {m : Str → Option Value} {k : Nat} {name : Str} {hh : Int} {t : Tok} {v : Value} (h : NsK od m k),
    NsK (Obj.putName name hh (.str name t) v od) (fun x => if x = name then some v else m x) (if (m name).isSome then k else k + 1) ∧ (Obj.putName name hh (.str name t) v od).isFreed = false ∧ (Obj.putName name hh (.str name t) v od).cls = od.cls := by
  apply @Mine.hk6; generalize ca1 (cx _) = od, ca2 (cx _) = m, ca3 (cx _) = k, ca4 (cx _) = name, ca5 (cx _) = hh, cz6 (cx _) = t
  apply @Mine.hk; generalize cx _ = v
  intro h
  obtain ⟨es, ep, hd, hk, hm, hz⟩ := h
  obtain ⟨c, d, dt, sl⟩ := od
  subst hd
  cases hi : es.findIdx? (·.key.isStr name) with
  | some i =>
    have hs : (m name).isSome = true := by
      rw [← hm name, nsFind, findBy_of_findIdx?, hi]
      have := (Array.findIdx?_eq_some_iff_getElem.mp hi).1
      simp [this]
    rw [if_pos hs]
    refine ⟨⟨_, ep, by simp only [Obj.putName_eq, Obj.putNameByArray, hi], hk.modify i v, fun x => ?_, by simpa using hz⟩, by simp only [Obj.putName_eq, Obj.putNameByArray, hi]; rfl, by simp only [Obj.putName_eq, Obj.putNameByArray, hi]⟩
    show _ = if x = name then some v else m x
    rw [← hm]; exact findBy_modify (fun n v => v.isStr n) Value.isStr_inj es name x v i hi
  | none =>
    refine ⟨⟨_, ep + 1, by simp only [Obj.putName_eq, Obj.putNameByArray, hi], hk.push hh name t v, fun x => ?_, ?_⟩, by simp only [Obj.putName_eq, Obj.putNameByArray, hi]; rfl, by simp only [Obj.putName_eq, Obj.putNameByArray, hi]⟩
    · show _ = if x = name then some v else m x
      rw [← hm]
      exact findBy_push (fun n v => v.isStr n) es name x _ _ v (fun y => by
        show (name == y) = decide (y = name)
        by_cases h : y = name
        · subst h; simp
        · have : ¬ name = y := fun e => h e.symm
          simp [h, this]) hi
    · have hs : ¬ (m name).isSome = true := by
        rw [← hm name, nsFind, findBy_of_findIdx?, hi]; simp
      rw [if_neg hs, Array.size_push]; lia
theorem nsSetX {M : Model} {A : Around} {E : Value → Shared → Prop} {s : Shared} {d : Addr} {od : Obj} {m : Str → Option Value} {name : Str} {v : Value} {Q : Unit → Shared → Prop} (hd : s.heap.get? d = some od) (hn : NsO od m)
    (h : ∀ hh t, Q () { s with heap := s.heap.update d (Obj.putName name hh (.str name t) v), toks := s.toks + 1 }) : wpAny M A (nsSet d name v) Q E s := by
  obtain ⟨es, ep, hdat, hk, hm⟩ := hn
  unfold nsSet strHash
  refine wpAny_bind (wpAny_bind (wpAny_askSetting (wpAny_pure (wpAny_bind (wpAny_mkText (wpAny_bind (wpAny_loadPart hd ?_)))))))
  rw [hdat]
  have hany : es.any (·.refKey) = false := by
    rw [Array.any_eq_false']; intro e he; obtain ⟨n, t, h⟩ := hk e he; simp [DictEntry.refKey, h]
  dsimp only
  rw [aRefKeyMayBeTheName_eq]
  unfold aRefKeyMayBeTheNameByArray
  rw [hany, Bool.and_false, if_neg (by decide)]
  exact wpAny_updatePart hd (h _ _)
noncomputable def setOk (K : Frag) (C : Addr) (name : Str) : Bool := (findIn K (.ref C) "__setattr__" == some (some (.builtin "object.__setattr__"))) && plainOver K C && (takerIn K C name == some none) && (clsIn K C).any (·.hasDict)
theorem G_set : ∀ {sc : Scope} {n : Nat} {ρ : Lo} {φ : Ph} {σ : Sg} {x Cc d : Addr} {m : Lo} {k : Nat} {name : Str} {v : V} {Q : Lo → Ph → Sg → Prop} (R : Rt w H0) (hx : φ x = some (instObj Cc d)) (hd : σ d = some (.ns m k)) (hc : setOk (KK w.params) Cc name = true) (hk : k ≤ 900) (q : Q ρ φ (upd σ d (.ns (setL m name v) (if (m name).isSome then k else k + 1)))),
    ∀ y u, VR (.ref x) y → VR v u → W w H0 sc n UR (fun _ => setAttr y name u) ρ φ σ fun _ => Q := by
  apply @Mine.hk6; generalize ca1 (cx _) = sc, ca2 (cx _) = n, ca3 (cx _) = ρ, ca4 (cx _) = φ, ca5 (cx _) = σ, cz6 (cx _) = x
  apply @Mine.hk6; generalize ca1 (cx _) = Cc, ca2 (cx _) = d, ca3 (cx _) = m, ca4 (cx _) = k, ca5 (cx _) = name, cz6 (cx _) = v
  apply @Mine.hk; generalize cx _ = Q
  intro R hx hd hc hk q
  intro y u hy hu τ env A s ok
  refine VR.refE hy ?_
  unfold setOk at hc
  obtain ⟨hc, c4⟩ := Bool.and_eq_true_iff.mp hc
  obtain ⟨hc, c3⟩ := Bool.and_eq_true_iff.mp hc
  obtain ⟨c1, c2⟩ := Bool.and_eq_true_iff.mp hc
  obtain ⟨_, od, ho, m', hn, hr⟩ := ok.hr.cells _ _ (ok.full_sg hd)
  have X := R.K.keeps ok.root
  have I : InstAt s.heap x (instObj Cc d) Cc (some od) := ⟨ok.hr.keep _ _ hx, rfl, rfl, ho⟩
  refine set_plain X I (beq_iff_eq.mp c1) (osa_open X I c2 (beq_iff_eq.mp c3) fun b => ?_)
  obtain ⟨cd, hcd, hcd'⟩ := any_some c4
  have LC := looks_clsIn (M := model pw w) X hcd
  refine wpAny_bind (wpAny_pure (wpAny_bind (wpAny_bind (wpAny_loadPart (ok.hr.keep _ _ hx) (wpAny_bind (LC.at ?_))))))
  rw [hcd']
  refine wpAny_pure (a := some d) (wpAny_bind (wpAny_pure (wpAny_bind (nsSetX ho hn.o fun hh t => ?_))))
  obtain ⟨p1, p2, p3⟩ := putNs (name := name) (hh := hh) (t := t) (v := u) hn
  have g := Heap.get?_update_self (Obj.putName name hh (.str name t) u) ho p2
  have hsame : (m' name).isSome = (m name).isSome := by
    have h := hr name
    revert h
    generalize m name = a
    generalize m' name = b
    intro h; cases h <;> rfl
  refine wpAny_bind (wpAny_lookBehind g ?_ ?_)
  · obtain ⟨es, ep, e1, _, _, e4⟩ := p1
    rw [e1]
    exact pastItsLine_dict (by rw [sizeLine_eq]; split at e4 <;> lia)
  · refine wpAny_pure ⟨(), ρ, φ, _, trivial, ok.set (c' := .ns (setL m name v) (if (m name).isSome then k else k + 1)) hd (fun b hb => Heap.get?_update_other _ _ (Ne.symm hb)) g ⟨_, hsame ▸ p1, fun z => ?_⟩, ⟨rfl, rfl⟩, q⟩
    unfold setL
    by_cases hz : z = name
    · rw [if_pos hz, if_pos hz]; exact .some hu
    · rw [if_neg hz, if_neg hz]; exact hr z
theorem S_setattr : ∀ {sc : Scope} {n : Nat} {ρ : Lo} {φ : Ph} {σ : Sg} {o e : PySem.Expr} {attr : Str} {p pos : Pos} {Q : Fl → Lo → Ph → Sg → Prop} (h : EW w H0 sc n e ρ φ σ fun v ρ φ σ => EW w H0 sc n o ρ φ σ fun ov ρ φ σ => ∀ y u, VR ov y → VR v u → W w H0 sc n UR (fun _ => setAttr y attr u) ρ φ σ fun _ => Q .next) (hs : ∀ env, swapsWith e (some (.Attribute o attr p)) pos.line env = pure false := by intro _; rfl), SW w H0 sc n (.Assign [.Attribute o attr p] e pos) ρ φ σ Q := by
  apply @Mine.hk6; generalize ca1 (cx _) = sc, ca2 (cx _) = n, ca3 (cx _) = ρ, ca4 (cx _) = φ, ca5 (cx _) = σ, cz6 (cx _) = o
  apply @Mine.hk5; generalize ca1 (cx _) = e, ca2 (cx _) = attr, ca3 (cx _) = p, ca4 (cx _) = pos, cz5 (cx _) = Q
  intro h hs
  refine @Mine.hk4 _ _ _ _ _ _ neAround neShared _ ?_; generalize ca1 (cx _) = τ, ca2 (cx _) = env, ca3 (cx _) = A, cz4 (cx _) = s
  intro k
  exact 
  plainObj_wpAny_Assign_Attribute (Post.run (h τ env A s k) (fun x s1 b1 ρ1 φ1 σ1 r1 k1 m1 h1 => Post.run (h1 τ env A s1 k1) (fun y s2 b2 ρ2 φ2 σ2 r2 k2 m2 h2 => Post.run (h2 y x r2 r1 τ env A s2 k2) (fun z s3 b3 ρ3 φ3 σ3 r3 k3 m3 h3 => ⟨.next, ρ3, φ3, σ3, .next, k3, m1.trans (m2.trans m3), h3⟩)))) (hs env)
theorem S_setitem {o i e : PySem.Expr} {p pos : Pos} {Q : Fl → Lo → Ph → Sg → Prop} (h : EW w H0 sc n e ρ φ σ fun v ρ φ σ => EW w H0 sc n o ρ φ σ fun ov ρ φ σ => EW w H0 sc n i ρ φ σ fun iv ρ φ σ => ∀ y j u, VR ov y → VR iv j → VR v u → W w H0 sc n UR (fun _ => setItem y j u) ρ φ σ fun _ => Q .next)
    (hs : ∀ env, swapsWith e (some (.Subscript o i p)) pos.line env = pure false := by intro _; rfl) : SW w H0 sc n (.Assign [.Subscript o i p] e pos) ρ φ σ Q := fun τ env A s k =>
  wpAny_Assign_Subscript (Post.run (h τ env A s k) (fun x s1 b1 ρ1 φ1 σ1 r1 k1 m1 h1 => Post.run (h1 τ env A s1 k1) (fun y s2 b2 ρ2 φ2 σ2 r2 k2 m2 h2 => Post.run (h2 τ env A s2 k2) (fun z s3 b3 ρ3 φ3 σ3 r3 k3 m3 h3 => Post.run (h3 y z x r2 r3 r1 τ env A s3 k3) (fun _ s4 b4 ρ4 φ4 σ4 r4 k4 m4 h4 => ⟨.next, ρ4, φ4, σ4, .next, k4, m1.trans (m2.trans (m3.trans m4)), h4⟩))))) (hs env)
theorem S_expr {e : PySem.Expr} {pos : Pos} {Q : Fl → Lo → Ph → Sg → Prop} (h : EW w H0 sc n e ρ φ σ fun v ρ φ σ => (∀ x a, VR v x → x ≠ .ref a) ∧ Q .next ρ φ σ) (hk : sc.kind = .function)
    (hs : ∀ env, env.scope.kind = .function → swapsWith e none pos.line env = pure false := by intro _ _; rfl) : SW w H0 sc n (.Expr e pos) ρ φ σ Q := fun τ env A s k => by
  have hf : env.scope.kind = .function := by rw [k.ok.scope]; exact hk
  refine wpAny_Expr (Post.run (h τ env A s k) (fun x s1 b1 ρ1 φ1 σ1 r1 k1 m1 hPt => ?_)) (by unfold interactive; rw [hf]; rfl) (hs env hf)
  obtain ⟨hn, h1⟩ := hPt
  cases x <;> first | exact ⟨.next, ρ1, φ1, σ1, .next, k1, m1, h1⟩ | exact absurd rfl (hn _ _ r1)
theorem make_w (R : Rt w H0) {C f : Addr} {fd : FuncData} {body : List Stmt} (F : FnOk w H0 f fd body) {n : Nat} {vs : List V} {bs : Addr → List (Str × V)} (hb : ∀ x, Bind H0 fd (.ref x :: vs) (bs x))
    (hbk : ∀ a, ∀ x ∈ (bs a).map (·.1), fd.scope.names.lookup x = some .local ∨ fd.scope.names.lookup x = some .cell) (hm : makesIn (KK w.params) C = true)
    (hi : findIn (KK w.params) (.ref C) "__init__" = some (some (.ref f))) (hf : typeIn (KK w.params) (.ref f) = some (.type "function")) {φ : Ph} {σ : Sg} {Q : V → Ph → Sg → Prop}
    (h : ∀ x d, φ x = none → φ d = none → σ x = none → σ d = none → x ≠ d → XW w H0 fd.scope n body (ofL (bs x) noLo) (updP φ x (instObj C d)) (upd σ d (.ns noLo 0)) fun fl _ φ' σ' => FlV fl = .none ∧ Q (.ref x) φ' σ') : CW w H0 (n + 2) (.ref C) vs φ σ Q := fun τ A s xs hr hx hd hh => by
  obtain ⟨hp, g, dr, tk, os⟩ := s
  have X := R.K.keeps fun a o e => hh.keep _ _ (hh.root _ _ e)
  refine wpAny_call (make_core (makes_of X hm) (looks_findIn X hi) (fun self => bind_fn X self hf) (.inl rfl) ?_)
  have f1 := hh.fresh
  have f1s := jn_none.mp f1.1
  have h1 : HR w H0 φ (jn τ (upd σ hp.objs.size (.ns noLo 0))) (hp.push emptyDict) := by
    rw [jn_upd f1s.1]
    exact hh.allocC ⟨fun _ => none, ⟨#[], 0, rfl, fun _ he => by simp at he, fun _ => rfl, Nat.le_refl _⟩, fun _ => .none⟩ rfl
  have sz : (hp.push emptyDict).objs.size = hp.objs.size + 1 := Heap.size_push _ _
  have f2 := h1.fresh
  rw [sz] at f2
  have f2s := jn_none.mp f2.1
  have h2 := (h1.allocP (o := instObj C hp.objs.size) rfl).1
  rw [sz] at h2
  have hne : hp.objs.size + 1 ≠ hp.objs.size := by lia
  have hrm : Room (n + 1) (A.under (.builtin "type.__call__" ⟨.ref C :: xs, []⟩)) := by
    obtain ⟨a, b, c⟩ := hr
    have e1 : (Code.builtin "type.__call__" ⟨.ref C :: xs, []⟩).weight = 1 := rfl
    have e2 : (Code.builtin "type.__call__" ⟨.ref C :: xs, []⟩).cUnits = 1 := rfl
    refine ⟨?_, ?_, c⟩
    · show A.depth + (Code.builtin "type.__call__" ⟨.ref C :: xs, []⟩).weight + 4 * (n + 1) ≤ 900
      lia
    · show A.units + (Code.builtin "type.__call__" ⟨.ref C :: xs, []⟩).cUnits + 40 * (n + 1) ≤ 9000
      lia
  refine code_fn R F (hb (hp.objs.size + 1)) (hbk _) (Q := fun v φ' σ' => v = .none ∧ Q (.ref (hp.objs.size + 1)) φ' σ') (h (hp.objs.size + 1) hp.objs.size ?_ f1.2 ?_ f1s.2 hne) hrm (.cons (.ref _) hx) (fun a e => ?_) h2 fun v x φ' σ' s' r1 r2 r3 r4 r5 => ?_
  · exact f2.2
  · have := f2s.2; rw [upd_other hne] at this; exact this
  · by_cases ha : a = hp.objs.size
    · subst ha; exact f1s.1
    · rw [upd_other ha] at e; exact hd a e
  · obtain ⟨e, hq⟩ := r5
    subst e; refine VR.noneE r1 ?_
    exact ⟨rfl, _, φ', σ', .ref _, r2, r3, r4, hq⟩
end
end Mine
namespace Mine
theorem VRs.append {a b : List V} {x y : List Value} (h : VRs a x) (h' : VRs b y) : VRs (a ++ b) (x ++ y) := by
  induction h with
  | nil => exact h'
  | cons h _ ih => exact .cons h ih
theorem VRs.length {a : List V} {x : List Value} (h : VRs a x) : x.length = a.length := by
  induction h with
  | nil => rfl
  | cons _ _ ih => simp [ih]
theorem VRs.get {a : List V} {x : List Value} (h : VRs a x) : ∀ {i : Nat} {v : V}, a[i]? = some v → ∃ y, x[i]? = some y ∧ VR v y := by
  induction h with
  | nil => intro i v e; simp at e
  | cons h _ ih =>
    intro i v e
    cases i with
    | zero => simp at e; subst e; exact ⟨_, rfl, h⟩
    | succ i => simp at e ⊢; exact ih e
theorem VRs.set {a : List V} {x : List Value} (h : VRs a x) {v : V} {y : Value} (hv : VR v y) : ∀ i, VRs (a.set i v) (x.set i y) := by
  induction h with
  | nil => intro i; exact .nil
  | cons h r ih =>
    intro i
    cases i with
    | zero => exact .cons hv r
    | succ i => exact .cons h (ih i)
theorem VRs.take {a : List V} {x : List Value} (h : VRs a x) : ∀ i, VRs (a.take i) (x.take i) := by
  induction h with
  | nil => intro i; simp; exact .nil
  | cons h r ih =>
    intro i
    cases i with
    | zero => exact .nil
    | succ i => exact .cons h (ih i)
theorem VRs.drop {a : List V} {x : List Value} (h : VRs a x) : ∀ i, VRs (a.drop i) (x.drop i) := by
  induction h with
  | nil => intro i; simp; exact .nil
  | cons h r ih =>
    intro i
    cases i with
    | zero => exact .cons h r
    | succ i => exact ih i
inductive LstP (φ : Ph) (l : Addr) (vs : List V) : Prop
  | mk (items : Array Value) (n : Nat) (h : φ l = some ⟨.type "list", none, .seq items n, #[]⟩) (hv : VRs vs items.toList) : LstP φ l vs
noncomputable def Lst (φ : Ph) (σ : Sg) (l : Addr) (vs : List V) : Prop := σ l = some (.list vs) ∨ LstP φ l vs
inductive Tup (φ : Ph) (t : Addr) (vs : List V) : Prop
  | mk (items : Array Value) (n : Nat) (h : φ t = some ⟨.type "tuple", none, .seq items n, #[]⟩) (hv : VRs vs items.toList) : Tup φ t vs
inductive LAt (h : Heap) (l : Addr) (vs : List V) : Prop
  | mk (items : Array Value) (m : Nat) (e : IsL h l items m) (hv : VRs vs items.toList) : LAt h l vs
theorem LstP.le {φ φ' : Ph} (l : Le φ φ') {a : Addr} {vs : List V} (h : LstP φ a vs) : LstP φ' a vs := by obtain ⟨i, n, h1, h2⟩ := h; exact ⟨i, n, l _ _ h1, h2⟩
theorem Tup.le {φ φ' : Ph} (l : Le φ φ') {a : Addr} {vs : List V} (h : Tup φ a vs) : Tup φ' a vs := by obtain ⟨i, n, h1, h2⟩ := h; exact ⟨i, n, l _ _ h1, h2⟩
section
variable {sc : Scope} {n : Nat} {ρ : Lo} {φ : Ph} {σ : Sg} {Q : V → Lo → Ph → Sg → Prop}
theorem Ok.lst {τ : Sg} {env : Env} {A : Around} {s : Shared} (k : Ok w H0 sc n τ env A ρ φ σ s) {l : Addr} {vs : List V} (h : Lst φ σ l vs) : LAt s.heap l vs := by
  rcases h with h | ⟨items, m, h1, h2⟩
  · obtain ⟨_, o, ho, items, m, rfl, h2⟩ := k.hr.cells _ _ (k.full_sg h); exact ⟨items, m, ho, h2⟩
  · exact ⟨items, m, k.hr.keep _ _ h1, h2⟩
theorem Ok.tup {τ : Sg} {env : Env} {A : Around} {s : Shared} (k : Ok w H0 sc n τ env A ρ φ σ s) {l : Addr} {vs : List V} (h : Tup φ l vs) : ∃ items m, IsT s.heap l items m ∧ VRs vs items.toList :=
  by obtain ⟨items, m, h1, h2⟩ := h; exact ⟨items, m, k.hr.keep _ _ h1, h2⟩
theorem size_of {items : Array Value} {vs : List V} (h : VRs vs items.toList) : items.size = vs.length := by rw [← Array.length_toList]; exact h.length
abbrev DispW (w : World) (H0 : Heap) (sc : Scope) (n : Nat) (pos : Pos) (es : List PySem.Expr) (ρ : Lo) (φ : Ph) (σ : Sg) (Q : List V → Lo → Ph → Sg → Prop) : Prop := ArgsW w H0 sc n pos es ρ φ σ Q
theorem E_list {es : List PySem.Expr} {pos : Pos} (h : ArgsW w H0 sc n pos es ρ φ σ fun vs ρ φ σ => vs.length ≤ 1000 ∧ ∀ a, σ a = none → φ a = none → Q (.ref a) ρ φ (upd σ a (.list vs))) : EW w H0 sc n (.List es pos) ρ φ σ Q := fun τ env A s k =>
  List_ (Post.run (h τ env A s k) (fun xs s1 b1 ρ1 φ1 σ1 r1 k1 m1 ⟨hl, h1⟩ => wpAny_newList (by
    obtain ⟨k2, e1, e2⟩ := k1.allocC (s' := { s1 with heap := s1.heap.push { cls := .type "list", data := .seq xs.toArray } }) (c := .list b1) ⟨xs.toArray, 0, rfl, by simpa using r1⟩ rfl rfl
    exact ⟨_, ρ1, φ1, _, .ref _, k2, m1, h1 _ e1 e2⟩) (by rw [r1.length, sizeLine_eq]; lia)))
theorem E_tuple {es : List PySem.Expr} {kk : Nat} {pos : Pos} (h : ArgsW w H0 sc n pos es ρ φ σ fun vs ρ φ σ => vs.length ≤ 1000 ∧ ∀ a φ', σ a = none → φ a = none → Le φ φ' → Tup φ' a vs → Q (.ref a) ρ φ' σ) : EW w H0 sc n (.Tuple es kk pos) ρ φ σ Q := fun τ env A s k =>
  Tuple_ (Post.run (h τ env A s k) (fun xs s1 b1 ρ1 φ1 σ1 r1 k1 m1 ⟨hl, h1⟩ => wpAny_newTuple (by
    obtain ⟨k2, l, e1, e2⟩ := k1.allocP (s' := { s1 with heap := s1.heap.push { cls := .type "tuple", data := .seq xs.toArray } }) (o := { cls := .type "tuple", data := .seq xs.toArray }) rfl rfl
    exact ⟨_, ρ1, _, σ1, .ref _, k2, m1, h1 _ _ e1 e2 l ⟨xs.toArray, 0, updP_same _ _ _, by simpa using r1⟩⟩) (by rw [r1.length, sizeLine_eq]; lia)))
theorem G_len {l : Addr} {vs : List V} (h : Lst φ σ l vs) (hz : vs.length ≤ 1000) (q : Q (.int vs.length) ρ φ σ) : CallW w H0 sc n (.builtin "len") [.ref l] ρ φ σ Q := fun xs hx => by
  cases hx with
  | cons hx hr => refine VR.refE hx ?_; refine VRs.nilE hr ?_; exact W.leaf (fun τ env A s k => by
      obtain ⟨items, m, hl, hv⟩ := k.lst h
      exact call_len_list hl.isList (by rw [size_of hv]; lia) ⟨by rw [size_of hv]; exact .int _ _, rfl, rfl, rfl⟩) q
theorem I_list {e i : PySem.Expr} {l : Addr} {vs : List V} {k : Int} {v : V} (h : Lst φ σ l vs) (h0 : 0 ≤ k) (hk : k < 1000) (hv : vs[k.toNat]? = some v) (q : Q v ρ φ σ)
    (hs : ∀ t, subscripted i false (.ref l) (.int k t) = operate [.ref l, .int k t] (getItem (.ref l) (.int k t)) := by intro _; with_unfolding_all rfl) : ∀ x y, VR (.ref l) x → VR (.int k) y → W w H0 sc n VR (fun _ => subscriptTail e i x y) ρ φ σ Q := fun x y hx hy => by
  refine VR.refE hx ?_; refine VR.intE hy (fun _ => ?_)
  refine W.leaf (b := v) (fun τ env A s kk => ?_) q
  obtain ⟨items, m, hl, hvs⟩ := kk.lst h
  obtain ⟨u, hu, hvu⟩ := hvs.get hv
  exact tail_any hl.isList.typeIs slot_list_getitem.lookup (wpAny_getItem_list hl.isList h0 (by lia) (by simpa using hu) ⟨hvu, rfl, rfl, rfl⟩) (hs _)
theorem I_last {e i : PySem.Expr} {l : Addr} {vs : List V} {v : V} (h : Lst φ σ l vs) (hz : vs.length ≤ 1000) (hv : vs.getLast? = some v) (q : Q v ρ φ σ)
    (hs : ∀ t, subscripted i false (.ref l) (.int (-1) t) = operate [.ref l, .int (-1) t] (getItem (.ref l) (.int (-1) t)) := by intro _; with_unfolding_all rfl) : ∀ x y, VR (.ref l) x → VR (.int (-1)) y → W w H0 sc n VR (fun _ => subscriptTail e i x y) ρ φ σ Q := fun x y hx hy => by
  refine VR.refE hx ?_; refine VR.intE hy (fun _ => ?_)
  refine W.leaf (b := v) (fun τ env A s kk => ?_) q
  obtain ⟨items, m, hl, hvs⟩ := kk.lst h
  have hne : vs ≠ [] := fun e => by subst e; simp at hv
  have hpos : 0 < vs.length := List.length_pos_iff.mpr hne
  have hg : vs[vs.length - 1]? = some v := by rw [← List.getLast?_eq_getElem?]; exact hv
  obtain ⟨u, hu, hvu⟩ := hvs.get hg
  have hsz := size_of hvs
  exact tail_any hl.isList.typeIs slot_list_getitem.lookup (wpAny_getItem_list_neg hl.isList (by lia) (by lia) (by lia)
    (by rw [show ((-1 : Int) + items.size).toNat = vs.length - 1 by lia]; simpa using hu) ⟨hvu, rfl, rfl, rfl⟩) (hs _)
theorem seqIdx {k : Int} {m : Nat} (h0 : 0 ≤ k) (h : k.toNat < m) : seqIndex? k m = some k.toNat := by
  unfold seqIndex?
  simp only []
  have : k < (m : Int) := by lia
  rw [if_neg (show ¬ k < 0 by lia), if_pos (by simp [h0, this])]
theorem I_tup {e i : PySem.Expr} {l : Addr} {vs : List V} {k : Int} {v : V} (h : Tup φ l vs) (h0 : 0 ≤ k) (hk : k < 1000) (hv : vs[k.toNat]? = some v) (q : Q v ρ φ σ)
    (hs : ∀ t, subscripted i false (.ref l) (.int k t) = operate [.ref l, .int k t] (getItem (.ref l) (.int k t)) := by intro _; with_unfolding_all rfl) : ∀ x y, VR (.ref l) x → VR (.int k) y → W w H0 sc n VR (fun _ => subscriptTail e i x y) ρ φ σ Q := fun x y hx hy => by
  refine VR.refE hx ?_; refine VR.intE hy (fun _ => ?_)
  refine W.leaf (b := v) (fun τ env A s kk => ?_) q
  obtain ⟨items, m, hl, hvs⟩ := kk.tup h
  obtain ⟨u, hu, hvu⟩ := hvs.get hv
  have hsz := size_of hvs
  have hlt : k.toNat < vs.length := (List.getElem?_eq_some_iff.mp hv).1
  exact tail_any (T := "tuple") ⟨_, hl, rfl⟩ F.slot_tuple_getitem.lookup (P.getItem_tuple hl (by lia) (by lia) (k := k.toNat) (seqIdx h0 (by rw [hsz]; exact hlt)) (by simpa using hu) ⟨hvu, rfl, rfl, rfl⟩) (hs _)
end
end Mine
namespace Mine
noncomputable def nodupB : List Str → Bool
  | [] => true
  | x :: r => !(r.contains x) && nodupB r
theorem nodupB_sound : ∀ {l : List Str}, nodupB l = true → l.Nodup
  | [], _ => .nil
  | x :: r, h => by
    simp only [nodupB, Bool.and_eq_true, Bool.not_eq_true', List.contains_eq_mem, decide_eq_false_iff_not] at h
    exact List.nodup_cons.mpr ⟨h.1, nodupB_sound h.2⟩
noncomputable def fnB (fd : FuncData) : Bool := (fd.scope.kind == .function) && !fd.scope.isCoroutine && !fd.scope.isGenerator && fd.scope.names.all (fun p => p.2 != .free) &&
  nodupB ((cellsFrom 0 fd.scope.names []).map (·.1)) && ((cellsFrom 0 fd.scope.names []).map (·.1)).all fun y => fd.scope.names.lookup y == some .cell
set_option tactic.hygienic true in
theorem fnOk {f c : Addr} {oc od osl} {fd : FuncData} {body : List Stmt} {cc cd csl vs t} (R : Rt w H0) (h : (KK w.params).lookup f = some ⟨oc, od, .func fd, osl⟩) (hcd : fd.code = .ref c)
    (hc : (KK w.params).lookup c = some ⟨cc, cd, .fields vs, csl⟩) (hv : vs[1]? = some (.str fd.qualname t)) (hb : fd.body = .stmts body) (hB : fnB fd = true) (hg : fd.globals = mainGlobals) (hbl : fd.builtins = builtinsNs) (hcl : fd.closure = []) :
    FnOk w H0 f fd body := by
  unfold fnB at hB
  simp only [Bool.and_eq_true, Bool.not_eq_true', List.all_eq_true] at hB
  obtain ⟨⟨⟨⟨⟨h1, h2⟩, h3⟩, h4⟩, h5⟩, h6⟩ := hB
  refine ⟨⟨_, _, _, R.K _ _ h⟩, ⟨c, _, vs, t, hcd, R.K _ _ hc, rfl, hv⟩, hb, by simpa using h1, h2, h3, hg, hbl, hcl, fun x q => ?_, nodupB_sound h5, fun y hy => by simpa using h6 y hy⟩
  have : (x, NameKind.free) ∈ fd.scope.names := by
    clear h6 h5 h4
    revert q
    generalize fd.scope.names = l
    induction l with
    | nil => intro q; cases q
    | cons p r ih =>
      obtain ⟨y, k⟩ := p
      intro q
      rw [List.lookup_cons] at q
      split at q
      · rename_i e; cases q; rw [beq_iff_eq.mp e]; exact .head _
      · exact .tail _ (ih q)
  have := h4 _ this
  simp at this
noncomputable def d69 : FuncData := fnD (stM 8 0) "Thing.__init__" (.ref 62) .none .none (.str "postcore.objects" 243) none (.ref 68) .none
theorem k69 (R : Rt w H0) : FnOk w H0 69 d69 (bodyOf (stM 8 0)) := fnOk R rfl rfl rfl rfl rfl (by rfl) rfl rfl rfl
noncomputable def d111 : FuncData := fnD (stM 10 0) "Row.__init__" .none .none .none (.str "postcore.objects" 243) none (.ref 110) .none
theorem k111 (R : Rt w H0) : FnOk w H0 111 d111 (bodyOf (stM 10 0)) := fnOk R rfl rfl rfl rfl rfl (by rfl) rfl rfl rfl
noncomputable def d132 : FuncData := fnD (stM 11 0) "Span.__init__" .none .none .none (.str "postcore.objects" 243) none (.ref 131) .none
theorem k132 (R : Rt w H0) : FnOk w H0 132 d132 (bodyOf (stM 11 0)) := fnOk R rfl rfl rfl rfl rfl (by rfl) rfl rfl rfl
noncomputable def d146 : FuncData := fnD (stT 12) "integer" .none .none .none (.str "postcore.objects" 243) none (.ref 145) .none
theorem k146 (R : Rt w H0) : FnOk w H0 146 d146 (bodyOf (stT 12)) := fnOk R rfl rfl rfl rfl rfl (by rfl) rfl rfl rfl
noncomputable def d154 : FuncData := fnD (stT 13) "name" (.ref 147) .none .none (.str "postcore.objects" 243) none (.ref 153) .none
theorem k154 (R : Rt w H0) : FnOk w H0 154 d154 (bodyOf (stT 13)) := fnOk R rfl rfl rfl rfl rfl (by rfl) rfl rfl rfl
noncomputable def d161 : FuncData := fnD (stT 14) "operator_thing" .none .none .none (.str "postcore.objects" 243) none (.ref 160) .none
theorem k161 (R : Rt w H0) : FnOk w H0 161 d161 (bodyOf (stT 14)) := fnOk R rfl rfl rfl rfl rfl (by rfl) rfl rfl rfl
noncomputable def d168 : FuncData := fnD (stT 15) "null" .none .none .none (.str "postcore.objects" 243) none (.ref 167) .none
theorem k168 (R : Rt w H0) : FnOk w H0 168 d168 (bodyOf (stT 15)) := fnOk R rfl rfl rfl rfl rfl (by rfl) rfl rfl rfl
noncomputable def d176 : FuncData := fnD (stT 16) "of_row" (.ref 169) .none .none (.str "postcore.objects" 243) none (.ref 175) .none
theorem k176 (R : Rt w H0) : FnOk w H0 176 d176 (bodyOf (stT 16)) := fnOk R rfl rfl rfl rfl rfl (by rfl) rfl rfl rfl
noncomputable def d184 : FuncData := fnD (stT 17) "of_packed" (.ref 177) .none .none (.str "postcore.objects" 243) none (.ref 183) .none
theorem k184 (R : Rt w H0) : FnOk w H0 184 d184 (bodyOf (stT 17)) := fnOk R rfl rfl rfl rfl rfl (by rfl) rfl rfl rfl
noncomputable def d191 : FuncData := fnD (stT 18) "is_number" .none .none .none (.str "postcore.objects" 243) none (.ref 190) .none
theorem k191 (R : Rt w H0) : FnOk w H0 191 d191 (bodyOf (stT 18)) := fnOk R rfl rfl rfl rfl rfl (by rfl) rfl rfl rfl
noncomputable def d205 : FuncData := fnD (stT 20) "is_in_array" .none .none .none (.str "postcore.objects" 243) none (.ref 204) .none
theorem k205 (R : Rt w H0) : FnOk w H0 205 d205 (bodyOf (stT 20)) := fnOk R rfl rfl rfl rfl rfl (by rfl) rfl rfl rfl
noncomputable def d212 : FuncData := fnD (stT 21) "is_proc" .none .none .none (.str "postcore.objects" 243) none (.ref 211) .none
theorem k212 (R : Rt w H0) : FnOk w H0 212 d212 (bodyOf (stT 21)) := fnOk R rfl rfl rfl rfl rfl (by rfl) rfl rfl rfl
noncomputable def d219 : FuncData := fnD (stT 22) "body_of" .none .none .none (.str "postcore.objects" 243) none (.ref 218) .none
theorem k219 (R : Rt w H0) : FnOk w H0 219 d219 (bodyOf (stT 22)) := fnOk R rfl rfl rfl rfl rfl (by rfl) rfl rfl rfl
noncomputable def d226 : FuncData := fnD (stT 23) "is_local" .none .none .none (.str "postcore.objects" 243) none (.ref 225) .none
theorem k226 (R : Rt w H0) : FnOk w H0 226 d226 (bodyOf (stT 23)) := fnOk R rfl rfl rfl rfl rfl (by rfl) rfl rfl rfl
noncomputable def d233 : FuncData := fnD (stT 24) "access_of" .none .none .none (.str "postcore.objects" 243) none (.ref 232) .none
theorem k233 (R : Rt w H0) : FnOk w H0 233 d233 (bodyOf (stT 24)) := fnOk R rfl rfl rfl rfl rfl (by rfl) rfl rfl rfl
noncomputable def d247 : FuncData := fnD (stT 26) "has_access" .none .none .none (.str "postcore.objects" 243) none (.ref 246) .none
theorem k247 (R : Rt w H0) : FnOk w H0 247 d247 (bodyOf (stT 26)) := fnOk R rfl rfl rfl rfl rfl (by rfl) rfl rfl rfl
noncomputable def d254 : FuncData := fnD (stT 27) "with_access" .none .none .none (.str "postcore.objects" 243) none (.ref 253) .none
theorem k254 (R : Rt w H0) : FnOk w H0 254 d254 (bodyOf (stT 27)) := fnOk R rfl rfl rfl rfl rfl (by rfl) rfl rfl rfl
noncomputable def d261 : FuncData := fnD (stT 28) "check_part" .none .none .none (.str "postcore.objects" 243) none (.ref 260) .none
theorem k261 (R : Rt w H0) : FnOk w H0 261 d261 (bodyOf (stT 28)) := fnOk R rfl rfl rfl rfl rfl (by rfl) rfl rfl rfl
noncomputable def d268 : FuncData := fnD (stT 29) "is_text_span" .none .none .none (.str "postcore.objects" 243) none (.ref 267) .none
theorem k268 (R : Rt w H0) : FnOk w H0 268 d268 (bodyOf (stT 29)) := fnOk R rfl rfl rfl rfl rfl (by rfl) rfl rfl rfl
noncomputable def d275 : FuncData := fnD (stT 30) "item" .none .none .none (.str "postcore.objects" 243) none (.ref 274) .none
theorem k275 (R : Rt w H0) : FnOk w H0 275 d275 (bodyOf (stT 30)) := fnOk R rfl rfl rfl rfl rfl (by rfl) rfl rfl rfl
noncomputable def d289 : FuncData := fnD (stT 32) "things_of_span" .none .none .none (.str "postcore.objects" 243) none (.ref 288) .none
theorem k289 (R : Rt w H0) : FnOk w H0 289 d289 (bodyOf (stT 32)) := fnOk R rfl rfl rfl rfl rfl (by rfl) rfl rfl rfl
noncomputable def d303 : FuncData := fnD (stT 34) "key_of" .none .none .none (.str "postcore.objects" 243) none (.ref 302) .none
theorem k303 (R : Rt w H0) : FnOk w H0 303 d303 (bodyOf (stT 34)) := fnOk R rfl rfl rfl rfl rfl (by rfl) rfl rfl rfl
noncomputable def d310 : FuncData := fnD (stT 36) "bind_walk" .none .none .none (.str "postcore.binding" 556) none (.ref 309) .none
theorem k310 (R : Rt w H0) : FnOk w H0 310 d310 (bodyOf (stT 36)) := fnOk R rfl rfl rfl rfl rfl (by rfl) rfl rfl rfl
noncomputable def d315 : FuncData := fnD (stT 37) "operators_called" .none .none .none (.str "postcore.binding" 556) none (.ref 314) .none
theorem k315 (R : Rt w H0) : FnOk w H0 315 d315 (bodyOf (stT 37)) := fnOk R rfl rfl rfl rfl rfl (by rfl) rfl rfl rfl
noncomputable def d322 : FuncData := fnD (stT 38) "bind_depth" .none .none .none (.str "postcore.binding" 556) none (.ref 321) .none
theorem k322 (R : Rt w H0) : FnOk w H0 322 d322 (bodyOf (stT 38)) := fnOk R rfl rfl rfl rfl rfl (by rfl) rfl rfl rfl
noncomputable def d330 : FuncData := fnD (stT 39) "bind_copied" (.ref 323) .none .none (.str "postcore.binding" 556) none (.ref 329) .none
theorem k330 (R : Rt w H0) : FnOk w H0 330 d330 (bodyOf (stT 39)) := fnOk R rfl rfl rfl rfl rfl (by rfl) rfl rfl rfl
noncomputable def d337 : FuncData := fnD (stT 40) "bind_bare_copy" .none .none .none (.str "postcore.binding" 556) none (.ref 336) .none
theorem k337 (R : Rt w H0) : FnOk w H0 337 d337 (bodyOf (stT 40)) := fnOk R rfl rfl rfl rfl rfl (by rfl) rfl rfl rfl
noncomputable def d344 : FuncData := fnD (stT 41) "bind_like" .none .none .none (.str "postcore.binding" 556) none (.ref 343) .none
theorem k344 (R : Rt w H0) : FnOk w H0 344 d344 (bodyOf (stT 41)) := fnOk R rfl rfl rfl rfl rfl (by rfl) rfl rfl rfl
noncomputable def d359 : FuncData := fnD (stM 46 0) "Limits.__init__" (.ref 352) .none .none (.str "postcore.memory" 623) none (.ref 358) .none
theorem k359 (R : Rt w H0) : FnOk w H0 359 d359 (bodyOf (stM 46 0)) := fnOk R rfl rfl rfl rfl rfl (by rfl) rfl rfl rfl
noncomputable def d401 : FuncData := fnD (stM 48 0) "BodyMaker.__init__" .none .none .none (.str "postcore.memory" 623) none (.ref 400) .none
theorem k401 (R : Rt w H0) : FnOk w H0 401 d401 (bodyOf (stM 48 0)) := fnOk R rfl rfl rfl rfl rfl (by rfl) rfl rfl rfl
noncomputable def d408 : FuncData := fnD (stM 48 1) "BodyMaker.level" .none .none .none (.str "postcore.memory" 623) none (.ref 407) .none
theorem k408 (R : Rt w H0) : FnOk w H0 408 d408 (bodyOf (stM 48 1)) := fnOk R rfl rfl rfl rfl rfl (by rfl) rfl rfl rfl
noncomputable def d416 : FuncData := fnD (stM 48 2) "BodyMaker.body_level" .none .none .none (.str "postcore.memory" 623) none (.ref 415) .none
theorem k416 (R : Rt w H0) : FnOk w H0 416 d416 (bodyOf (stM 48 2)) := fnOk R rfl rfl rfl rfl rfl (by rfl) rfl rfl rfl
noncomputable def d423 : FuncData := fnD (stM 48 3) "BodyMaker.take_room" .none .none .none (.str "postcore.memory" 623) none (.ref 422) .none
theorem k423 (R : Rt w H0) : FnOk w H0 423 d423 (bodyOf (stM 48 3)) := fnOk R rfl rfl rfl rfl rfl (by rfl) rfl rfl rfl
noncomputable def d430 : FuncData := fnD (stM 48 4) "BodyMaker.check_room" .none .none .none (.str "postcore.memory" 623) none (.ref 429) .none
theorem k430 (R : Rt w H0) : FnOk w H0 430 d430 (bodyOf (stM 48 4)) := fnOk R rfl rfl rfl rfl rfl (by rfl) rfl rfl rfl
noncomputable def d451 : FuncData := fnD (stM 48 7) "BodyMaker.make_row" .none .none .none (.str "postcore.memory" 623) none (.ref 450) .none
theorem k451 (R : Rt w H0) : FnOk w H0 451 d451 (bodyOf (stM 48 7)) := fnOk R rfl rfl rfl rfl rfl (by rfl) rfl rfl rfl
noncomputable def d479 : FuncData := fnD (stM 49 0) "BodyChanger.is_elder" .none .none .none (.str "postcore.memory" 623) none (.ref 478) .none
theorem k479 (R : Rt w H0) : FnOk w H0 479 d479 (bodyOf (stM 49 0)) := fnOk R rfl rfl rfl rfl rfl (by rfl) rfl rfl rfl
noncomputable def d486 : FuncData := fnD (stM 49 1) "BodyChanger.check_holds" .none .none .none (.str "postcore.memory" 623) none (.ref 485) .none
theorem k486 (R : Rt w H0) : FnOk w H0 486 d486 (bodyOf (stM 49 1)) := fnOk R rfl rfl rfl rfl rfl (by rfl) rfl rfl rfl
noncomputable def d493 : FuncData := fnD (stM 49 2) "BodyChanger.put_item" .none .none .none (.str "postcore.memory" 623) none (.ref 492) .none
theorem k493 (R : Rt w H0) : FnOk w H0 493 d493 (bodyOf (stM 49 2)) := fnOk R rfl rfl rfl rfl rfl (by rfl) rfl rfl rfl
noncomputable def d500 : FuncData := fnD (stM 49 3) "BodyChanger.put_items" .none .none .none (.str "postcore.memory" 623) none (.ref 499) .none
theorem k500 (R : Rt w H0) : FnOk w H0 500 d500 (bodyOf (stM 49 3)) := fnOk R rfl rfl rfl rfl rfl (by rfl) rfl rfl rfl
noncomputable def d652 : FuncData := fnD (stT 51) "memory_check_many" .none .none .none (.str "postcore.memory" 623) none (.ref 651) .none
theorem k652 (R : Rt w H0) : FnOk w H0 652 d652 (bodyOf (stT 51)) := fnOk R rfl rfl rfl rfl rfl (by rfl) rfl rfl rfl
noncomputable def d666 : FuncData := fnD (stT 54) "_law_draw" .none .none .none (.str "law_pb0516_01" 1098) none (.ref 665) .none
theorem k666 (R : Rt w H0) : FnOk w H0 666 d666 (bodyOf (stT 54)) := fnOk R rfl rfl rfl rfl rfl (by rfl) rfl rfl rfl
noncomputable def d673 : FuncData := fnD (stT 55) "_law_item" .none .none .none (.str "law_pb0516_01" 1098) none (.ref 672) .none
theorem k673 (R : Rt w H0) : FnOk w H0 673 d673 (bodyOf (stT 55)) := fnOk R rfl rfl rfl rfl rfl (by rfl) rfl rfl rfl
noncomputable def d680 : FuncData := fnD (stT 56) "_law_thing" .none .none .none (.str "law_pb0516_01" 1098) none (.ref 679) .none
theorem k680 (R : Rt w H0) : FnOk w H0 680 d680 (bodyOf (stT 56)) := fnOk R rfl rfl rfl rfl rfl (by rfl) rfl rfl rfl
noncomputable def d687 : FuncData := fnD (stT 57) "_law_proc" .none .none .none (.str "law_pb0516_01" 1098) none (.ref 686) .none
theorem k687 (R : Rt w H0) : FnOk w H0 687 d687 (bodyOf (stT 57)) := fnOk R rfl rfl rfl rfl rfl (by rfl) rfl rfl rfl
noncomputable def d692 : FuncData := fnD (stT 58) "_law_made" .none .none .none (.str "law_pb0516_01" 1098) none (.ref 691) .none
theorem k692 (R : Rt w H0) : FnOk w H0 692 d692 (bodyOf (stT 58)) := fnOk R rfl rfl rfl rfl rfl (by rfl) rfl rfl rfl
noncomputable def d699 : FuncData := fnD (stT 59) "_law_walk" .none .none .none (.str "law_pb0516_01" 1098) none (.ref 698) .none
theorem k699 (R : Rt w H0) : FnOk w H0 699 d699 (bodyOf (stT 59)) := fnOk R rfl rfl rfl rfl rfl (by rfl) rfl rfl rfl
noncomputable def d704 : FuncData := fnD (stT 60) "_law_depth" .none .none .none (.str "law_pb0516_01" 1098) none (.ref 703) .none
theorem k704 (R : Rt w H0) : FnOk w H0 704 d704 (bodyOf (stT 60)) := fnOk R rfl rfl rfl rfl rfl (by rfl) rfl rfl rfl
noncomputable def d711 : FuncData := fnD (stT 61) "_law_is_like" .none .none .none (.str "law_pb0516_01" 1098) none (.ref 710) .none
theorem k711 (R : Rt w H0) : FnOk w H0 711 d711 (bodyOf (stT 61)) := fnOk R rfl rfl rfl rfl rfl (by rfl) rfl rfl rfl
noncomputable def d716 : FuncData := fnD (stT 62) "_law_is_copy" .none .none .none (.str "law_pb0516_01" 1098) none (.ref 715) .none
theorem k716 (R : Rt w H0) : FnOk w H0 716 d716 (bodyOf (stT 62)) := fnOk R rfl rfl rfl rfl rfl (by rfl) rfl rfl rfl
noncomputable def d721 : FuncData := fnD (stT 63) "_law_are_asked_right" .none .none .none (.str "law_pb0516_01" 1098) none (.ref 720) .none
theorem k721 (R : Rt w H0) : FnOk w H0 721 d721 (bodyOf (stT 63)) := fnOk R rfl rfl rfl rfl rfl (by rfl) rfl rfl rfl
noncomputable def d726 : FuncData := fnD (stT 64) "law" .none .none .none (.str "law_pb0516_01" 1098) none (.ref 725) .none
theorem k726 (R : Rt w H0) : FnOk w H0 726 d726 (bodyOf (stT 64)) := fnOk R rfl rfl rfl rfl rfl (by rfl) rfl rfl rfl
end Mine
namespace Mine
section
variable {sc : Scope} {n : Nat} {ρ : Lo} {φ : Ph} {σ : Sg} {Q : V → Lo → Ph → Sg → Prop}
theorem S_ifc {t : PySem.Expr} {a b : List Stmt} {pos : Pos} {Q : Fl → Lo → Ph → Sg → Prop} (h : TW w H0 sc n t ρ φ σ (IfK w H0 sc n a b Q)) : SW w H0 sc n (.If t a b pos) ρ φ σ Q :=
  S_if (h.mono fun c ρ φ σ hPt => by obtain ⟨h1, h2⟩ := hPt; cases c; exact h2 rfl; exact h1 rfl)
theorem E_ifc {t a b : PySem.Expr} {pos : Pos} (h : TW w H0 sc n t ρ φ σ (EIfK w H0 sc n a b Q)) : EW w H0 sc n (.IfExp t a b pos) ρ φ σ Q :=
  E_ifexp (h.mono fun c ρ φ σ hPt => by obtain ⟨h1, h2⟩ := hPt; cases c; exact h2 rfl; exact h1 rfl)
theorem T_orc {a b : PySem.Expr} {pos : Pos} {Q : Bool → Lo → Ph → Sg → Prop} (h : TW w H0 sc n a ρ φ σ (OrK w H0 sc n b Q)) : TW w H0 sc n (.BoolOp .Or [a, b] pos) ρ φ σ Q :=
  T_or (h.mono fun c ρ φ σ hPt => by obtain ⟨h1, h2⟩ := hPt; cases c; exact h2 rfl; exact h1 rfl)
theorem T_andc {a b : PySem.Expr} {pos : Pos} {Q : Bool → Lo → Ph → Sg → Prop} (h : TW w H0 sc n a ρ φ σ (AndK w H0 sc n b Q)) : TW w H0 sc n (.BoolOp .And [a, b] pos) ρ φ σ Q :=
  T_and (h.mono fun c ρ φ σ hPt => by obtain ⟨h1, h2⟩ := hPt; cases c; exact h2 rfl; exact h1 rfl)
theorem E_orc {a b : PySem.Expr} {pos : Pos} (h : EW w H0 sc n a ρ φ σ (EOrK w H0 sc n b Q)) : EW w H0 sc n (.BoolOp .Or [a, b] pos) ρ φ σ Q :=
  E_or (h.mono fun v ρ φ σ hPt => by obtain ⟨c, e, h1, h2⟩ := hPt; exact ⟨c, e, by cases c; exact h2 rfl; exact h1 rfl⟩)
theorem E_andc {a b : PySem.Expr} {pos : Pos} (h : EW w H0 sc n a ρ φ σ (EAndK w H0 sc n b Q)) : EW w H0 sc n (.BoolOp .And [a, b] pos) ρ φ σ Q :=
  E_and (h.mono fun v ρ φ σ hPt => by obtain ⟨c, e, h1, h2⟩ := hPt; exact ⟨c, e, by cases c; exact h2 rfl; exact h1 rfl⟩)
theorem N_local {x : Str} {pos : Pos} (hk : sc.names.lookup x = some .local) (hd : (x == ("__debug__" : Str)) = false) (q : ∃ v, ρ x = some v ∧ Q v ρ φ σ) : EW w H0 sc n (.Name x pos) ρ φ σ Q :=
  by obtain ⟨_, h1, h2⟩ := q; exact E_local hk h1 h2 hd
theorem N_cell {x : Str} {pos : Pos} (hk : sc.names.lookup x = some .cell) (hd : (x == ("__debug__" : Str)) = false) (q : ∃ v, ρ x = some v ∧ Q v ρ φ σ) : EW w H0 sc n (.Name x pos) ρ φ σ Q :=
  by obtain ⟨_, h1, h2⟩ := q; exact E_cell hk h1 h2 hd
theorem N_free {x : Str} {pos : Pos} (hk : sc.names.lookup x = some .free) (hd : (x == ("__debug__" : Str)) = false) (hn : (x == ("__classdict__" : Str)) = false) (q : ∃ v, ρ x = some v ∧ Q v ρ φ σ) : EW w H0 sc n (.Name x pos) ρ φ σ Q :=
  by obtain ⟨_, h1, h2⟩ := q; exact E_free hk h1 h2 hd hn
theorem C_eqS {x y : Str} (q : Q (.bool (x == y)) ρ φ σ) : CmW w H0 sc n .Eq (.str x) (.str y) ρ φ σ Q := fun a b ha hb => by
  refine VR.strE ha (fun _ => ?_); refine VR.strE hb (fun _ => ?_); exact W.leaf (fun τ env A s k => PyProof.Rows.eq_str ⟨.bool _, rfl, rfl, rfl⟩) q
theorem C_eqI {x y : Int} (q : Q (.bool (x == y)) ρ φ σ) : CmW w H0 sc n .Eq (.int x) (.int y) ρ φ σ Q := fun a b ha hb => by
  refine VR.intE ha (fun _ => ?_); refine VR.intE hb (fun _ => ?_); exact W.leaf (fun τ env A s k => PyProof.Rows.eq_int ⟨.bool _, rfl, rfl, rfl⟩) q
theorem C_neI {x y : Int} (q : Q (.bool (x != y)) ρ φ σ) : CmW w H0 sc n .NotEq (.int x) (.int y) ρ φ σ Q := fun a b ha hb => by
  refine VR.intE ha (fun _ => ?_); refine VR.intE hb (fun _ => ?_); exact W.leaf (fun τ env A s k => PyProof.Rows.ne_int ⟨.bool _, rfl, rfl, rfl⟩) q
theorem C_ltI {x y : Int} (q : Q (.bool (decide (x < y))) ρ φ σ) : CmW w H0 sc n .Lt (.int x) (.int y) ρ φ σ Q := fun a b ha hb => by
  refine VR.intE ha (fun _ => ?_); refine VR.intE hb (fun _ => ?_); exact W.leaf (fun τ env A s k => PyProof.Rows.lt_int ⟨.bool _, rfl, rfl, rfl⟩) q
theorem C_gtI {x y : Int} (q : Q (.bool (decide (y < x))) ρ φ σ) : CmW w H0 sc n .Gt (.int x) (.int y) ρ φ σ Q := fun a b ha hb => by
  refine VR.intE ha (fun _ => ?_); refine VR.intE hb (fun _ => ?_); exact W.leaf (fun τ env A s k => PyProof.Rows.gt_int ⟨.bool _, rfl, rfl, rfl⟩) q
theorem C_isNotNone {v : V} (hv : handV v = true) (q : Q (.bool (match v with | .none => false | _ => true)) ρ φ σ) : CmW w H0 sc n .IsNot v .none ρ φ σ Q := fun a b ha hb => by
  refine VR.noneE hb ?_
  cases ha <;> first | exact W.leaf (fun τ env A s k => wpAny_isNot_plain (by rfl) ⟨.bool _, rfl, rfl, rfl⟩) q | cases hv
theorem C_isNone {v : V} (hv : handV v = true) (q : Q (.bool (match v with | .none => true | _ => false)) ρ φ σ) : CmW w H0 sc n .Is v .none ρ φ σ Q := fun a b ha hb => by
  refine VR.noneE hb ?_
  cases ha <;> first | exact W.leaf (fun τ env A s k => wpAny_is_plain (by rfl) ⟨.bool _, rfl, rfl, rfl⟩) q | cases hv
theorem O_addI {x y : Int} (q : Q (.int (x + y)) ρ φ σ) : OpW w H0 sc n .Add (.int x) (.int y) ρ φ σ Q := fun a b ha hb => by
  refine VR.intE ha (fun _ => ?_); refine VR.intE hb (fun _ => ?_); exact W.leaf (fun τ env A s k => PyProof.Rows.add_int ⟨.int _ _, rfl, rfl, rfl⟩) q
theorem O_mulI {x y : Int} (hm : IntMulOk x y) (q : Q (.int (x * y)) ρ φ σ) : OpW w H0 sc n .Mult (.int x) (.int y) ρ φ σ Q := fun a b ha hb => by
  refine VR.intE ha (fun _ => ?_); refine VR.intE hb (fun _ => ?_); exact W.leaf (fun τ env A s k => PyProof.Rows.mul_int ⟨.int _ _, rfl, rfl, rfl⟩ hm) q
theorem O_modI {x y : Int} (hy : y ≠ 0) (q : Q (.int (x.fmod y)) ρ φ σ) : OpW w H0 sc n .Mod (.int x) (.int y) ρ φ σ Q := fun a b ha hb => by
  refine VR.intE ha (fun _ => ?_); refine VR.intE hb (fun _ => ?_); exact W.leaf (fun τ env A s k => PyProof.Rows.mod_int hy ⟨.int _ _, rfl, rfl, rfl⟩) q
end
noncomputable def bkB (fd : FuncData) (bs : List (Str × V)) : Bool := bs.all fun x => match fd.scope.names.lookup x.1 with | some .local => true | some .cell => true | _ => false
theorem bk_of {fd : FuncData} {bs : List (Str × V)} (h : bkB fd bs = true) : ∀ x ∈ bs.map (·.1), fd.scope.names.lookup x = some .local ∨ fd.scope.names.lookup x = some .cell := by
  intro x hx
  obtain ⟨y, hy, rfl⟩ := List.mem_map.mp hx
  have := List.all_eq_true.mp h y hy
  revert this
  cases fd.scope.names.lookup y.1 with
  | none => intro h; cases h
  | some k => cases k <;> intro h <;> first | exact .inl rfl | exact .inr rfl | cases h
noncomputable def NsP (φ : Ph) (d : Addr) (m : Lo) : Prop := ∃ o m', φ d = some o ∧ NsO o m' ∧ ∀ x, VRo (m x) (m' x)
inductive Inst (φ : Ph) (x Cc : Addr) (m : Lo) : Prop
  | mk (d : Addr) (h : φ x = some (instObj Cc d)) (hn : NsP φ d m) : Inst φ x Cc m
theorem NsP.le {φ φ' : Ph} (l : Le φ φ') {d : Addr} {m : Lo} (h : NsP φ d m) : NsP φ' d m := by obtain ⟨o, m', h1, h2⟩ := h; exact ⟨o, m', l _ _ h1, h2⟩
theorem Inst.le {φ φ' : Ph} (l : Le φ φ') {x Cc : Addr} {m : Lo} (h : Inst φ x Cc m) : Inst φ' x Cc m := by obtain ⟨d, h1, h2⟩ := h; exact ⟨d, l _ _ h1, h2.le l⟩
section
variable {sc : Scope} {n : Nat} {ρ : Lo} {φ : Ph} {σ : Sg} {Q : V → Lo → Ph → Sg → Prop}
theorem G_inst (R : Rt w H0) {x Cc : Addr} {m : Lo} {name : Str} {v : V} {e : Bool} (h : Inst φ x Cc m) (hc : attrOk (KK w.params) Cc name = true) (hv : m name = some v) (hh : handV v = true) (q : Q v ρ φ σ) :
    ∀ y, VR (.ref x) y → W w H0 sc n VR (fun _ => getAttr y name e) ρ φ σ Q :=
  by obtain ⟨d, h1, h2⟩ := h; exact G_attr R h1 (.inr h2) hc hv hh q
end
noncomputable def ThgLo (k : Str) (v : V) (e : Bool) (a : Int) : Lo := ofL [("kind", .str k), ("value", v), ("is_exec", .bool e), ("access", .int a)] noLo
noncomputable def Thg (φ : Ph) (x : Addr) (k : Str) (v : V) (e : Bool) (a : Int) : Prop := Inst φ x 72 (ThgLo k v e a)
theorem Thg.le {φ φ' : Ph} (le_ : Le φ φ') {x : Addr} {k : Str} {v : V} {e : Bool} {a : Int} (h : Thg φ x k v e a) : Thg φ' x k v e a := Inst.le le_ h
theorem at_72_kind (P : Params) : attrOk (KK P) 72 "kind" = true := by kernel_rfl
theorem Thg.g_kind (R : Rt w H0) {sc : Scope} {n : Nat} {ρ : Lo} {φ : Ph} {σ : Sg} {Q : V → Lo → Ph → Sg → Prop} {x : Addr} {k : Str} {v : V} {e : Bool} {a : Int} {eb : Bool} (h : Thg φ x k v e a) (q : Q (.str k) ρ φ σ) : ∀ y, VR (.ref x) y → W w H0 sc n VR (fun _ => getAttr y "kind" eb) ρ φ σ Q := G_inst R h (at_72_kind _) rfl rfl q
theorem at_72_value (P : Params) : attrOk (KK P) 72 "value" = true := by kernel_rfl
theorem Thg.g_value (R : Rt w H0) {sc : Scope} {n : Nat} {ρ : Lo} {φ : Ph} {σ : Sg} {Q : V → Lo → Ph → Sg → Prop} {x : Addr} {k : Str} {v : V} {e : Bool} {a : Int} {eb : Bool} (h : Thg φ x k v e a) (hv : handV v = true) (q : Q (v) ρ φ σ) : ∀ y, VR (.ref x) y → W w H0 sc n VR (fun _ => getAttr y "value" eb) ρ φ σ Q := G_inst R h (at_72_value _) rfl hv q
theorem at_72_is_exec (P : Params) : attrOk (KK P) 72 "is_exec" = true := by kernel_rfl
theorem Thg.g_is_exec (R : Rt w H0) {sc : Scope} {n : Nat} {ρ : Lo} {φ : Ph} {σ : Sg} {Q : V → Lo → Ph → Sg → Prop} {x : Addr} {k : Str} {v : V} {e : Bool} {a : Int} {eb : Bool} (h : Thg φ x k v e a) (q : Q (.bool e) ρ φ σ) : ∀ y, VR (.ref x) y → W w H0 sc n VR (fun _ => getAttr y "is_exec" eb) ρ φ σ Q := G_inst R h (at_72_is_exec _) rfl rfl q
theorem at_72_access (P : Params) : attrOk (KK P) 72 "access" = true := by kernel_rfl
theorem Thg.g_access (R : Rt w H0) {sc : Scope} {n : Nat} {ρ : Lo} {φ : Ph} {σ : Sg} {Q : V → Lo → Ph → Sg → Prop} {x : Addr} {k : Str} {v : V} {e : Bool} {a : Int} {eb : Bool} (h : Thg φ x k v e a) (q : Q (.int a) ρ φ σ) : ∀ y, VR (.ref x) y → W w H0 sc n VR (fun _ => getAttr y "access" eb) ρ φ σ Q := G_inst R h (at_72_access _) rfl rfl q
noncomputable def SpnLo (b : Addr) (s m : Int) : Lo := ofL [("body", .ref b), ("start", .int s), ("many", .int m)] noLo
noncomputable def Spn (φ : Ph) (x : Addr) (b : Addr) (s m : Int) : Prop := Inst φ x 135 (SpnLo b s m)
theorem Spn.le {φ φ' : Ph} (le_ : Le φ φ') {x : Addr} {b : Addr} {s m : Int} (h : Spn φ x b s m) : Spn φ' x b s m := Inst.le le_ h
theorem at_135_body (P : Params) : attrOk (KK P) 135 "body" = true := by kernel_rfl
theorem Spn.g_body (R : Rt w H0) {sc : Scope} {n : Nat} {ρ : Lo} {φ : Ph} {σ : Sg} {Q : V → Lo → Ph → Sg → Prop} {x : Addr} {b : Addr} {s m : Int} {eb : Bool} (h : Spn φ x b s m) (q : Q (.ref b) ρ φ σ) : ∀ y, VR (.ref x) y → W w H0 sc n VR (fun _ => getAttr y "body" eb) ρ φ σ Q := G_inst R h (at_135_body _) rfl rfl q
theorem at_135_start (P : Params) : attrOk (KK P) 135 "start" = true := by kernel_rfl
theorem Spn.g_start (R : Rt w H0) {sc : Scope} {n : Nat} {ρ : Lo} {φ : Ph} {σ : Sg} {Q : V → Lo → Ph → Sg → Prop} {x : Addr} {b : Addr} {s m : Int} {eb : Bool} (h : Spn φ x b s m) (q : Q (.int s) ρ φ σ) : ∀ y, VR (.ref x) y → W w H0 sc n VR (fun _ => getAttr y "start" eb) ρ φ σ Q := G_inst R h (at_135_start _) rfl rfl q
theorem at_135_many (P : Params) : attrOk (KK P) 135 "many" = true := by kernel_rfl
theorem Spn.g_many (R : Rt w H0) {sc : Scope} {n : Nat} {ρ : Lo} {φ : Ph} {σ : Sg} {Q : V → Lo → Ph → Sg → Prop} {x : Addr} {b : Addr} {s m : Int} {eb : Bool} (h : Spn φ x b s m) (q : Q (.int m) ρ φ σ) : ∀ y, VR (.ref x) y → W w H0 sc n VR (fun _ => getAttr y "many" eb) ρ φ σ Q := G_inst R h (at_135_many _) rfl rfl q
noncomputable def RwiLo (num : Int) (l : Addr) : Lo := ofL [("number", .int num), ("things", .ref l), ("is_global", .bool false), ("level", .int 0)] noLo
noncomputable def Rwi (φ : Ph) (x : Addr) (num : Int) (l : Addr) : Prop := Inst φ x 114 (RwiLo num l)
theorem Rwi.le {φ φ' : Ph} (le_ : Le φ φ') {x : Addr} {num : Int} {l : Addr} (h : Rwi φ x num l) : Rwi φ' x num l := Inst.le le_ h
theorem at_114_number (P : Params) : attrOk (KK P) 114 "number" = true := by kernel_rfl
theorem Rwi.g_number (R : Rt w H0) {sc : Scope} {n : Nat} {ρ : Lo} {φ : Ph} {σ : Sg} {Q : V → Lo → Ph → Sg → Prop} {x : Addr} {num : Int} {l : Addr} {eb : Bool} (h : Rwi φ x num l) (q : Q (.int num) ρ φ σ) : ∀ y, VR (.ref x) y → W w H0 sc n VR (fun _ => getAttr y "number" eb) ρ φ σ Q := G_inst R h (at_114_number _) rfl rfl q
theorem at_114_things (P : Params) : attrOk (KK P) 114 "things" = true := by kernel_rfl
theorem Rwi.g_things (R : Rt w H0) {sc : Scope} {n : Nat} {ρ : Lo} {φ : Ph} {σ : Sg} {Q : V → Lo → Ph → Sg → Prop} {x : Addr} {num : Int} {l : Addr} {eb : Bool} (h : Rwi φ x num l) (q : Q (.ref l) ρ φ σ) : ∀ y, VR (.ref x) y → W w H0 sc n VR (fun _ => getAttr y "things" eb) ρ φ σ Q := G_inst R h (at_114_things _) rfl rfl q
theorem at_114_is_global (P : Params) : attrOk (KK P) 114 "is_global" = true := by kernel_rfl
theorem Rwi.g_is_global (R : Rt w H0) {sc : Scope} {n : Nat} {ρ : Lo} {φ : Ph} {σ : Sg} {Q : V → Lo → Ph → Sg → Prop} {x : Addr} {num : Int} {l : Addr} {eb : Bool} (h : Rwi φ x num l) (q : Q (.bool false) ρ φ σ) : ∀ y, VR (.ref x) y → W w H0 sc n VR (fun _ => getAttr y "is_global" eb) ρ φ σ Q := G_inst R h (at_114_is_global _) rfl rfl q
theorem at_114_level (P : Params) : attrOk (KK P) 114 "level" = true := by kernel_rfl
theorem Rwi.g_level (R : Rt w H0) {sc : Scope} {n : Nat} {ρ : Lo} {φ : Ph} {σ : Sg} {Q : V → Lo → Ph → Sg → Prop} {x : Addr} {num : Int} {l : Addr} {eb : Bool} (h : Rwi φ x num l) (q : Q (.int 0) ρ φ σ) : ∀ y, VR (.ref x) y → W w H0 sc n VR (fun _ => getAttr y "level" eb) ρ φ σ Q := G_inst R h (at_114_level _) rfl rfl q
end Mine
namespace Mine
theorem upd_upd (σ : Sg) (a : Addr) (c c' : C) : upd (upd σ a c) a c' = upd σ a c' := by
  funext b; unfold upd; split <;> rfl
theorem del_upd {σ : Sg} {a : Addr} {c : C} (h : σ a = none) : del (upd σ a c) a = σ := by
  funext b; unfold del upd
  by_cases hb : b = a
  · subst hb; simp [h]
  · simp [hb]
noncomputable def noneV : V → Bool
  | .none => true
  | _ => false
section
variable {sc : Scope} {n : Nat} {ρ : Lo} {φ : Ph} {σ : Sg} {Q : V → Lo → Ph → Sg → Prop}
theorem C_eqS_t {x : Str} (q : Q (.bool true) ρ φ σ) : CmW w H0 sc n .Eq (.str x) (.str x) ρ φ σ Q := C_eqS (by simpa using q)
theorem C_eqS_f {x y : Str} (h : (x == y) = false) (q : Q (.bool false) ρ φ σ) : CmW w H0 sc n .Eq (.str x) (.str y) ρ φ σ Q := C_eqS (by rw [h]; exact q)
theorem C_eqI_t {x y : Int} (h : x = y) (q : Q (.bool true) ρ φ σ) : CmW w H0 sc n .Eq (.int x) (.int y) ρ φ σ Q := C_eqI (by rw [beq_iff_eq.mpr h]; exact q)
theorem C_eqI_f {x y : Int} (h : x ≠ y) (q : Q (.bool false) ρ φ σ) : CmW w H0 sc n .Eq (.int x) (.int y) ρ φ σ Q := C_eqI (by rw [beq_false_of_ne h]; exact q)
theorem C_neI_t {x y : Int} (h : x ≠ y) (q : Q (.bool true) ρ φ σ) : CmW w H0 sc n .NotEq (.int x) (.int y) ρ φ σ Q := C_neI (by rw [bne_iff_ne.mpr h]; exact q)
theorem C_neI_f {x y : Int} (h : x = y) (q : Q (.bool false) ρ φ σ) : CmW w H0 sc n .NotEq (.int x) (.int y) ρ φ σ Q := C_neI (by rw [h, bne_self_eq_false]; exact q)
theorem C_ltI_t {x y : Int} (h : x < y) (q : Q (.bool true) ρ φ σ) : CmW w H0 sc n .Lt (.int x) (.int y) ρ φ σ Q := C_ltI (by rw [decide_eq_true h]; exact q)
theorem C_ltI_f {x y : Int} (h : ¬ x < y) (q : Q (.bool false) ρ φ σ) : CmW w H0 sc n .Lt (.int x) (.int y) ρ φ σ Q := C_ltI (by rw [decide_eq_false h]; exact q)
theorem C_gtI_t {x y : Int} (h : y < x) (q : Q (.bool true) ρ φ σ) : CmW w H0 sc n .Gt (.int x) (.int y) ρ φ σ Q := C_gtI (by rw [decide_eq_true h]; exact q)
theorem C_gtI_f {x y : Int} (h : ¬ y < x) (q : Q (.bool false) ρ φ σ) : CmW w H0 sc n .Gt (.int x) (.int y) ρ φ σ Q := C_gtI (by rw [decide_eq_false h]; exact q)
theorem C_isNotNone_t {v : V} (hv : handV v = true) (h : noneV v = false) (q : Q (.bool true) ρ φ σ) : CmW w H0 sc n .IsNot v .none ρ φ σ Q := by
  cases v <;> first | exact C_isNotNone hv q | cases h
theorem C_isNotNone_f (q : Q (.bool false) ρ φ σ) : CmW w H0 sc n .IsNot .none .none ρ φ σ Q := C_isNotNone rfl q
theorem T_or3 {a b c : PySem.Expr} {pos : Pos} {Q : Bool → Lo → Ph → Sg → Prop} (h : TW w H0 sc n a ρ φ σ fun x ρ φ σ => (x = true → Q true ρ φ σ) ∧ (x = false → TW w H0 sc n (.BoolOp .Or [b, c] pos) ρ φ σ Q)) : TW w H0 sc n (.BoolOp .Or [a, b, c] pos) ρ φ σ Q := fun τ env A s k => by
  show wpAny _ _ (do match (BoolOp.Or : PySem.BoolOp), ← isTrue a env (eval a env) with | .And, false => pure false | .Or, true => pure true | _, _ => allTrue .Or [b, c] env) _ _ _
  refine wpAny_bind (Post.run (h τ env A s k) (fun x s1 b1 ρ1 φ1 σ1 r1 k1 m1 h1 => ?_))
  have r1 : x = b1 := r1
  subst r1
  cases x with
  | true => exact wpAny_pure ⟨true, ρ1, φ1, σ1, rfl, k1, m1, h1.1 rfl⟩
  | false => exact Post.run (h1.2 rfl τ env A s1 k1) (fun x s2 b2 ρ2 φ2 σ2 r2 k2 m2 h2 => ⟨b2, ρ2, φ2, σ2, r2, k2, m1.trans m2, h2⟩)
theorem E_or3 : ∀ {sc : Scope} {n : Nat} {ρ : Lo} {φ : Ph} {σ : Sg} {Q : V → Lo → Ph → Sg → Prop} {a b c : PySem.Expr} {pos : Pos} (h : EW w H0 sc n a ρ φ σ fun v ρ φ σ => ∃ x, v = .bool x ∧ (x = true → Q (.bool true) ρ φ σ) ∧ (x = false → EW w H0 sc n (.BoolOp .Or [b, c] pos) ρ φ σ Q)), EW w H0 sc n (.BoolOp .Or [a, b, c] pos) ρ φ σ Q := by
  apply @Mine.hk6; generalize ca1 (cx _) = sc, ca2 (cx _) = n, ca3 (cx _) = ρ, ca4 (cx _) = φ, ca5 (cx _) = σ, cz6 (cx _) = Q
  apply @Mine.hk4; generalize ca1 (cx _) = a, ca2 (cx _) = b, ca3 (cx _) = c, cz4 (cx _) = pos
  intro h
  refine @Mine.hk4 _ _ _ _ _ _ neAround neShared _ ?_; generalize ca1 (cx _) = τ, ca2 (cx _) = env, ca3 (cx _) = A, cz4 (cx _) = s
  intro k
  show wpAny _ _ (boolOp pos .Or [eval a env, eval b env, eval c env]) _ _ _
  unfold boolOp
  refine wpAny_bind (Post.run (h τ env A s k) (fun x s1 b1 ρ1 φ1 σ1 r1 k1 m1 hPt => ?_))
  obtain ⟨cc, e, h1, h2⟩ := hPt
  subst e; refine VR.boolE r1 ?_
  refine wpAny_bind (wpAny_standAt (wpAny_bind (wpAny_holding (wpAny_truthy_bool ?_))))
  cases cc with
  | true => exact wpAny_pure ⟨_, ρ1, φ1, σ1, .bool _, k1, m1, h1 rfl⟩
  | false => exact Post.run (h2 rfl τ env A s1 k1) (fun x s2 b2 ρ2 φ2 σ2 r2 k2 m2 h2 => ⟨b2, ρ2, φ2, σ2, r2, k2, m1.trans m2, h2⟩)
theorem E_globv (R : Rt w H0) {x : Str} {pos : Pos} {v : V} {y : Value} (hy : nsIn (KK w.params) mainGlobals x = some (some y)) (hv : VR v y) (hk : sc.names.lookup x = some .globalImplicit) (hd : (x == ("__debug__" : Str)) = false) (q : Q v ρ φ σ) :
    EW w H0 sc n (.Name x pos) ρ φ σ Q := E_glob R hk hy hv q hd
theorem E_callc (R : Rt w H0) {fx : Str} {fp pos : Pos} {es : List PySem.Expr} {f : Addr} (hy : nsIn (KK w.params) mainGlobals fx = some (some (.ref f))) (hkp : keepIn (KK w.params) (.ref f) = true) (hk : sc.names.lookup fx = some .globalImplicit) (hs : es.all noStar = true) (hd : (fx == ("__debug__" : Str)) = false)
    (h : ArgsW w H0 sc n pos es ρ φ σ fun vs ρ φ σ => CallW w H0 sc n (.ref f) vs ρ φ σ Q) : EW w H0 sc n (.Call (.Name fx fp) es [] pos) ρ φ σ Q := E_call R hk hy hkp hs h hd
theorem E_callb (R : Rt w H0) {fx : Str} {fp pos : Pos} {es : List PySem.Expr} {f : Value} (hy : nsIn (KK w.params) mainGlobals fx = some none) (hb : bootBuiltins fx = some f) (hn : fx ≠ "__name__")
    (hkp : keeperOf f = pure .machine) (hk : sc.names.lookup fx = some .globalImplicit) (hs : es.all noStar = true) (hd : (fx == ("__debug__" : Str)) = false)
    (h : ArgsW w H0 sc n pos es ρ φ σ fun vs ρ φ σ => CallW w H0 sc n f vs ρ φ σ Q) : EW w H0 sc n (.Call (.Name fx fp) es [] pos) ρ φ σ Q := E_callB R hk hy hb hn hkp hs h hd
theorem S_setA {o e : PySem.Expr} {attr : Str} {p pos : Pos} {Q : Fl → Lo → Ph → Sg → Prop} (hs : ∀ env, swapsWith e (some (.Attribute o attr p)) pos.line env = pure false) (h : EW w H0 sc n e ρ φ σ fun v ρ φ σ => EW w H0 sc n o ρ φ σ fun ov ρ φ σ => ∀ y u, VR ov y → VR v u → W w H0 sc n UR (fun _ => setAttr y attr u) ρ φ σ fun _ => Q .next) :
    SW w H0 sc n (.Assign [.Attribute o attr p] e pos) ρ φ σ Q := S_setattr h hs
theorem G_setN (R : Rt w H0) {x Cc d : Addr} {m : Lo} {k : Nat} {name : Str} {v : V} {Q : Lo → Ph → Sg → Prop} (hx : φ x = some (instObj Cc d)) (hc : setOk (KK w.params) Cc name = true) (hm : m name = none) (hk : k ≤ 900)
    (q : Q ρ φ (upd σ d (.ns (setL m name v) (k + 1)))) : ∀ y u, VR (.ref x) y → VR v u → W w H0 sc n UR (fun _ => setAttr y name u) ρ φ (upd σ d (.ns m k)) fun _ => Q :=
  G_set R hx (upd_same _ _ _) hc hk (by rw [upd_upd, hm]; exact q)
theorem G_setO (R : Rt w H0) {x Cc d : Addr} {m : Lo} {k : Nat} {name : Str} {v : V} {Q : Lo → Ph → Sg → Prop} (hx : φ x = some (instObj Cc d)) (hd : σ d = some (.ns m k)) (hc : setOk (KK w.params) Cc name = true) (hm : (m name).isSome = true) (hk : k ≤ 900)
    (q : Q ρ φ (upd σ d (.ns (setL m name v) k))) : ∀ y u, VR (.ref x) y → VR v u → W w H0 sc n UR (fun _ => setAttr y name u) ρ φ σ fun _ => Q :=
  G_set R hx hd hc hk (by rw [hm]; exact q)
theorem W.freezeNs {α β : Type} {R : β → α → Prop} {t : Env → Sem α} {Q : β → Lo → Ph → Sg → Prop} {d : Addr} {m : Lo} {k : Nat} (hσ : σ d = none) (h : ∀ φ', Le φ φ' → NsP φ' d m → W w H0 sc n R t ρ φ' σ Q) : W w H0 sc n R t ρ φ (upd σ d (.ns m k)) Q :=
  W.freeze (upd_same _ _ _) fun o hPt hn l => by
    obtain ⟨m', h1, h2⟩ := hPt
    have := h _ l ⟨o, m', updP_same _ _ _, h1.o, h2⟩
    rw [del_upd hσ]; exact this
theorem E_lenL {l : Addr} {vs : List V} (h : Lst φ σ l vs) (hz : vs.length ≤ 1000) (q : Q (.int vs.length) ρ φ σ) : CallW w H0 sc n (.builtin "len") [.ref l] ρ φ σ Q := G_len h hz q
theorem X_nilF {Q : Fl → Lo → Ph → Sg → Prop} {d : Addr} {m : Lo} {k : Nat} (hσ : σ d = none) (h : ∀ φ', Le φ φ' → NsP φ' d m → Q .next ρ φ' σ) : XW w H0 sc n [] ρ φ (upd σ d (.ns m k)) Q :=
  W.freezeNs hσ fun φ' l hn => X_nil (h φ' l hn)
end
noncomputable def ownL : List (Str × Addr) := [(Str.ofString "Thing", 72), (Str.ofString "Text", 93), (Str.ofString "Row", 114), (Str.ofString "Span", 135), (Str.ofString "integer", 146), (Str.ofString "name", 154), (Str.ofString "operator_thing", 161), (Str.ofString "null", 168), (Str.ofString "of_row", 176), (Str.ofString "of_packed", 184), (Str.ofString "is_number", 191), (Str.ofString "is_in_array", 205), (Str.ofString "is_proc", 212), (Str.ofString "body_of", 219), (Str.ofString "has_access", 247), (Str.ofString "with_access", 254), (Str.ofString "check_part", 261), (Str.ofString "is_text_span", 268), (Str.ofString "item", 275), (Str.ofString "things_of_span", 289), (Str.ofString "key_of", 303), (Str.ofString "bind_walk", 310), (Str.ofString "operators_called", 315), (Str.ofString "bind_depth", 322), (Str.ofString "bind_copied", 330), (Str.ofString "bind_bare_copy", 337), (Str.ofString "bind_like", 344), (Str.ofString "Limits", 362), (Str.ofString "Memory", 643), (Str.ofString "memory_check_many", 652), (Str.ofString "_law_draw", 666), (Str.ofString "_law_item", 673), (Str.ofString "_law_thing", 680), (Str.ofString "_law_proc", 687), (Str.ofString "_law_made", 692), (Str.ofString "_law_walk", 699), (Str.ofString "_law_depth", 704), (Str.ofString "_law_is_like", 711), (Str.ofString "_law_is_copy", 716), (Str.ofString "_law_are_asked_right", 721)]
noncomputable def valL : List (Str × V × Value) := [(Str.ofString "READ_ONLY", .int 2, .int 2 245), (Str.ofString "UNLIMITED", .int 3, .int 3 247), (Str.ofString "ITEM_COST", .int 8, .int 8 625), (Str.ofString "Text", .ref 93, .ref 93)]
noncomputable def bltL : List (Str × Value) := [(Str.ofString "len", .builtin "len"), (Str.ofString "max", .builtin "max"), (Str.ofString "min", .builtin "min"), (Str.ofString "sorted", .builtin "sorted"), (Str.ofString "isinstance", .builtin "isinstance"), (Str.ofString "range", .type "range"), (Str.ofString "enumerate", .type "enumerate"), (Str.ofString "zip", .type "zip"), (Str.ofString "list", .type "list"), (Str.ofString "tuple", .type "tuple")]
noncomputable def fldL : List (Addr × List Str) := [(72, [Str.ofString "kind", Str.ofString "value", Str.ofString "is_exec", Str.ofString "access"]), (135, [Str.ofString "body", Str.ofString "start", Str.ofString "many"]), (114, [Str.ofString "number", Str.ofString "things", Str.ofString "is_global", Str.ofString "level"]), (362, [Str.ofString "operands", Str.ofString "dicts", Str.ofString "frames", Str.ofString "saves", Str.ofString "gstates", Str.ofString "text", Str.ofString "row", Str.ofString "entries", Str.ofString "word", Str.ofString "path", Str.ofString "dash", Str.ofString "files", Str.ofString "system", Str.ofString "vm"]), (643, [Str.ofString "limits", Str.ofString "is_global", Str.ofString "saves", Str.ofString "journal", Str.ofString "made", Str.ofString "freed", Str.ofString "used", Str.ofString "used_global", Str.ofString "last_body", Str.ofString "last_save"])]
noncomputable def ownB (K : Frag) : Bool := ownL.all fun p => (nsIn K mainGlobals p.1 == some (some (.ref p.2))) && keepIn K (.ref p.2)
noncomputable def valB (K : Frag) : Bool := valL.all fun p => nsIn K mainGlobals p.1 == some (some p.2.2)
noncomputable def bltB (K : Frag) : Bool := bltL.all fun p => (nsIn K mainGlobals p.1 == some none) && (bootBuiltins p.1 == some p.2) && (p.1 != "__name__")
noncomputable def fldB (K : Frag) : Bool := fldL.all fun p => p.2.all fun x => setOk K p.1 x && attrOk K p.1 x
theorem ownB_ok (P : Params) : ownB (KK P) = true := by kernel_rfl
theorem valB_ok (P : Params) : valB (KK P) = true := by kernel_rfl
theorem bltB_ok (P : Params) : bltB (KK P) = true := by kernel_rfl
theorem fldB_ok (P : Params) : fldB (KK P) = true := by kernel_rfl
theorem look_mem {α β : Type} [BEq α] [LawfulBEq α] {l : List (α × β)} {x : α} {y : β} (h : l.lookup x = some y) : (x, y) ∈ l := by
  induction l with
  | nil => cases h
  | cons p r ih =>
    obtain ⟨a, b⟩ := p
    rw [List.lookup_cons] at h
    split at h
    · rename_i q; cases h; rw [beq_iff_eq.mp q]; exact .head _
    · exact .tail _ (ih h)
theorem own_ok (P : Params) {x : Str} {f : Addr} (h : ownL.lookup x = some f) : nsIn (KK P) mainGlobals x = some (some (.ref f)) ∧ keepIn (KK P) (.ref f) = true := by
  have := List.all_eq_true.mp (ownB_ok P) _ (look_mem h)
  simp only [Bool.and_eq_true, beq_iff_eq] at this
  exact this
theorem val_ok (P : Params) {x : Str} {v : V} {y : Value} (h : valL.lookup x = some (v, y)) : nsIn (KK P) mainGlobals x = some (some y) := by
  have := List.all_eq_true.mp (valB_ok P) _ (look_mem h)
  simp only [beq_iff_eq] at this
  exact this
theorem blt_ok (P : Params) {x : Str} {f : Value} (h : bltL.lookup x = some f) : nsIn (KK P) mainGlobals x = some none ∧ bootBuiltins x = some f ∧ x ≠ "__name__" := by
  have := List.all_eq_true.mp (bltB_ok P) _ (look_mem h)
  simp only [Bool.and_eq_true, beq_iff_eq, bne_iff_ne] at this
  exact ⟨this.1.1, this.1.2, this.2⟩
noncomputable def fldIs (c : Addr) (x : Str) : Bool := (fldL.lookup c).any fun l => l.contains x
theorem fld_ok (P : Params) {c : Addr} {x : Str} (h : fldIs c x = true) : setOk (KK P) c x = true ∧ attrOk (KK P) c x = true := by
  unfold fldIs at h
  cases e : fldL.lookup c with
  | none => rw [e] at h; cases h
  | some l =>
    rw [e] at h
    have := List.all_eq_true.mp (List.all_eq_true.mp (fldB_ok P) _ (look_mem e)) x (by simpa using h)
    simp only [Bool.and_eq_true] at this
    exact this
section
variable {sc : Scope} {n : Nat} {ρ : Lo} {φ : Ph} {σ : Sg} {Q : V → Lo → Ph → Sg → Prop}
theorem E_own (R : Rt w H0) {fx : Str} {fp pos : Pos} {es : List PySem.Expr} (hd : (fx == ("__debug__" : Str)) = false) (hk : sc.names.lookup fx = some .globalImplicit) (hs : es.all noStar = true)
    (h : ∃ f, ownL.lookup fx = some f ∧ ArgsW w H0 sc n pos es ρ φ σ (ClK w H0 sc n (.ref f) Q)) : EW w H0 sc n (.Call (.Name fx fp) es [] pos) ρ φ σ Q :=
  let ⟨f, h1, h2⟩ := h; E_call R hk (own_ok w.params h1).1 (own_ok w.params h1).2 hs h2 hd
theorem E_val (R : Rt w H0) {x : Str} {pos : Pos} (hd : (x == ("__debug__" : Str)) = false) (hk : sc.names.lookup x = some .globalImplicit) (h : ∃ p, valL.lookup x = some p ∧ VR p.1 p.2 ∧ Q p.1 ρ φ σ) : EW w H0 sc n (.Name x pos) ρ φ σ Q :=
  let ⟨p, h1, h2, h3⟩ := h; E_glob R hk (val_ok w.params h1) h2 h3 hd
theorem E_blt2 (R : Rt w H0) {fx : Str} {fp pos : Pos} {es : List PySem.Expr} (hd : (fx == ("__debug__" : Str)) = false) (hk : sc.names.lookup fx = some .globalImplicit) (hs : es.all noStar = true)
    (h : ∃ f, bltL.lookup fx = some f ∧ keeperOf f = pure .machine ∧ ArgsW w H0 sc n pos es ρ φ σ (ClK w H0 sc n f Q)) : EW w H0 sc n (.Call (.Name fx fp) es [] pos) ρ φ σ Q :=
  let ⟨f, h1, h2, h3⟩ := h; E_callB R hk (blt_ok w.params h1).1 (blt_ok w.params h1).2.1 (blt_ok w.params h1).2.2 h2 hs h3 hd
theorem E_intT (R : Rt w H0) {pos : Pos} (hk : sc.names.lookup (Str.ofString "int") = some .globalImplicit) (hy : nsIn (KK w.params) mainGlobals "int" = some none) (q : Q (.ext (.type "int")) ρ φ σ) : EW w H0 sc n (.Name (Str.ofString "int") pos) ρ φ σ Q :=
  E_blt R hk hy rfl (by decide) (.ext _) q
theorem G_setF (R : Rt w H0) {x Cc d : Addr} {m : Lo} {k : Nat} {name : Str} {v : V} {Q : Lo → Ph → Sg → Prop} (hx : φ x = some (instObj Cc d)) (hc : fldIs Cc name = true) (hm : m name = none) (hk : k ≤ 900)
    (q : Q ρ φ (upd σ d (.ns (setL m name v) (k + 1)))) : ∀ y u, VR (.ref x) y → VR v u → W w H0 sc n UR (fun _ => setAttr y name u) ρ φ (upd σ d (.ns m k)) fun _ => Q := G_setN R hx (fld_ok w.params hc).1 hm hk q
theorem G_Thg (R : Rt w H0) {x : Addr} {k : Str} {v : V} {e : Bool} {a : Int} {name : Str} {eb : Bool} (h : Thg φ x k v e a) (q : fldIs 72 name = true ∧ ∃ u, ThgLo k v e a name = some u ∧ handV u = true ∧ Q u ρ φ σ) : ∀ y, VR (.ref x) y → W w H0 sc n VR (fun _ => getAttr y name eb) ρ φ σ Q :=
  let ⟨h1, u, h2, h3, h4⟩ := q; G_inst R h (fld_ok w.params h1).2 h2 h3 h4
theorem G_Spn (R : Rt w H0) {x : Addr} {b : Addr} {s m : Int} {name : Str} {eb : Bool} (h : Spn φ x b s m) (q : fldIs 135 name = true ∧ ∃ u, SpnLo b s m name = some u ∧ handV u = true ∧ Q u ρ φ σ) : ∀ y, VR (.ref x) y → W w H0 sc n VR (fun _ => getAttr y name eb) ρ φ σ Q :=
  let ⟨h1, u, h2, h3, h4⟩ := q; G_inst R h (fld_ok w.params h1).2 h2 h3 h4
theorem G_Rwi (R : Rt w H0) {x : Addr} {num : Int} {l : Addr} {name : Str} {eb : Bool} (h : Rwi φ x num l) (q : fldIs 114 name = true ∧ ∃ u, RwiLo num l name = some u ∧ handV u = true ∧ Q u ρ φ σ) : ∀ y, VR (.ref x) y → W w H0 sc n VR (fun _ => getAttr y name eb) ρ φ σ Q :=
  let ⟨h1, u, h2, h3, h4⟩ := q; G_inst R h (fld_ok w.params h1).2 h2 h3 h4
end
end Mine
namespace Mine
section
variable {sc : Scope} {n : Nat} {ρ : Lo} {φ : Ph} {σ : Sg} {Q : V → Lo → Ph → Sg → Prop}
theorem Ok.freshAt {τ : Sg} {env : Env} {A : Around} {s : Shared} (k : Ok w H0 sc n τ env A ρ φ σ s) {a : Addr} (ha : s.heap.objs.size ≤ a) : τ a = none ∧ fr env ρ a = none ∧ σ a = none ∧ φ a = none := by
  have h1 : jn (jn τ (fr env ρ)) σ a = none := by
    cases e : jn (jn τ (fr env ρ)) σ a with
    | none => rfl
    | some c => exact absurd (k.hr.lt e) (Nat.not_lt.mpr ha)
  have h2 := jn_none.mp h1
  have h3 := jn_none.mp h2.1
  refine ⟨h3.1, h3.2, h2.2, ?_⟩
  cases e : φ a with
  | none => rfl
  | some o => exact absurd (k.hr.ltP e) (Nat.not_lt.mpr ha)
theorem Ok.newAt {τ : Sg} {env : Env} {A : Around} {s s' : Shared} (k : Ok w H0 sc n τ env A ρ φ σ s) {a : Addr} {o : Obj} {c : C} (ha : s.heap.objs.size ≤ a) (hk : ∀ b o, s.heap.get? b = some o → s'.heap.get? b = some o) (ho : s'.heap.get? a = some o) (hc : CR w φ c o) :
    Ok w H0 sc n τ env A ρ φ (upd σ a c) s' ∧ σ a = none ∧ φ a = none := by
  have f := k.freshAt ha
  refine ⟨⟨k.ok, k.room, fun b e => ?_, fun b e => ?_, ?_⟩, f.2.2.1, f.2.2.2⟩
  · have d := k.dj1 b e
    have : b ≠ a := fun q => by subst q; rw [f.2.1] at e; cases e
    rw [upd_other this]; exact d
  · by_cases hb : b = a
    · subst hb; exact f.1
    · rw [upd_other hb] at e; exact k.dj2 b e
  · have g := k.hr.grow hk
    rw [jn_upd (jn_none.mpr ⟨f.1, f.2.1⟩)]
    refine ⟨g.keep, g.root, fun b cb eb => ?_, fun b cb eb => ?_, g.big⟩
    rotate_left
    · by_cases hb : b = a
      · subst hb; exact Nat.lt_of_lt_of_le k.hr.past ha
      · rw [upd_other hb] at eb; exact g.high b cb eb
    by_cases hb : b = a
    · subst hb; rw [upd_same] at eb; cases eb; exact ⟨f.2.2.2, o, ho, hc⟩
    · rw [upd_other hb] at eb; exact g.cells b cb eb
theorem Ok.grow {τ : Sg} {env : Env} {A : Around} {s s' : Shared} (k : Ok w H0 sc n τ env A ρ φ σ s) (hk : ∀ b o, s.heap.get? b = some o → s'.heap.get? b = some o) : Ok w H0 sc n τ env A ρ φ σ s' :=
  ⟨k.ok, k.room, k.dj1, k.dj2, k.hr.grow hk⟩
theorem S_exprN {e : PySem.Expr} {pos : Pos} {Q : Fl → Lo → Ph → Sg → Prop} (hk : sc.kind = .function) (hs : ∀ env, env.scope.kind = .function → swapsWith e none pos.line env = pure false) (h : EW w H0 sc n e ρ φ σ fun v ρ φ σ => v = .none ∧ Q .next ρ φ σ) : SW w H0 sc n (.Expr e pos) ρ φ σ Q :=
  S_expr (h.mono fun v ρ φ σ ⟨e, q⟩ => ⟨fun x a hx => by subst e; refine VR.noneE hx ?_; nofun, q⟩) hk hs
theorem E_subc {e i : PySem.Expr} {pos : Pos} (h : EW w H0 sc n e ρ φ σ (SbK w H0 sc n e i Q)) : EW w H0 sc n (.Subscript e i pos) ρ φ σ Q := E_sub h
theorem I_listc {e i : PySem.Expr} {l : Addr} {k : Int} (hs : ∀ t, subscripted i false (.ref l) (.int k t) = operate [.ref l, .int k t] (getItem (.ref l) (.int k t)))
    (q : ∃ vs v, Lst φ σ l vs ∧ 0 ≤ k ∧ k < 1000 ∧ vs[k.toNat]? = some v ∧ Q v ρ φ σ) : ∀ x y, VR (.ref l) x → VR (.int k) y → W w H0 sc n VR (fun _ => subscriptTail e i x y) ρ φ σ Q :=
  by obtain ⟨_, _, h, h0, hk, hv, q⟩ := q; exact I_list h h0 hk hv q hs
theorem I_tupc {e i : PySem.Expr} {l : Addr} {k : Int} (hs : ∀ t, subscripted i false (.ref l) (.int k t) = operate [.ref l, .int k t] (getItem (.ref l) (.int k t)))
    (q : ∃ vs v, Tup φ l vs ∧ 0 ≤ k ∧ k < 1000 ∧ vs[k.toNat]? = some v ∧ Q v ρ φ σ) : ∀ x y, VR (.ref l) x → VR (.int k) y → W w H0 sc n VR (fun _ => subscriptTail e i x y) ρ φ σ Q :=
  by obtain ⟨_, _, h, h0, hk, hv, q⟩ := q; exact I_tup h h0 hk hv q hs
theorem I_lastc {e i : PySem.Expr} {l : Addr} (hs : ∀ t, subscripted i false (.ref l) (.int (-1) t) = operate [.ref l, .int (-1) t] (getItem (.ref l) (.int (-1) t)))
    (q : ∃ vs v, Lst φ σ l vs ∧ vs.length ≤ 1000 ∧ vs.getLast? = some v ∧ Q v ρ φ σ) : ∀ x y, VR (.ref l) x → VR (.int (-1)) y → W w H0 sc n VR (fun _ => subscriptTail e i x y) ρ φ σ Q :=
  by obtain ⟨_, _, h, hz, hv, q⟩ := q; exact I_last h hz hv q hs
set_option tactic.hygienic true in
theorem subscripted_plain : ∀ {i : PySem.Expr} (h : ∀ a b p, i ≠ .Slice a b none p) (o x : Value), subscripted i false o x = operate [o, x] (getItem o x) := by
  apply @Mine.hk; generalize cx _ = i
  intro h
  apply @Mine.hk2; generalize ca1 (cx _) = o, cz2 (cx _) = x
  unfold subscripted
  split
  · exact absurd rfl (h _ _ _)
  · rename_i h2; cases h2
  · rfl
theorem kn114 (P : Params) : kin_not (KK P) 114 93 = true := by kernel_rfl
theorem pg114 (P : Params) : plainGet (KK P) 114 "__class__" = true := by kernel_rfl
theorem hd114 (P : Params) : hasDictIn (KK P) 114 = true := by kernel_rfl
theorem fc114 (P : Params) : findIn (KK P) (.ref 114) "__class__" = some (some (.builtin "object.__class__")) := by kernel_rfl
theorem sg114 (P : Params) : specialIn (KK P) (.builtin "object.__class__") "__get__" = some (some (.builtin "getset_descriptor.__get__")) := by kernel_rfl
theorem tk114 (P : Params) : takesIn (KK P) (.builtin "object.__class__") = some true := by kernel_rfl
theorem mo114 (P : Params) : mroIn (KK P) 114 (.type "object") = some true := by kernel_rfl
theorem I_row (R : Rt w H0) {x : Addr} {m : Lo} (h : Inst φ x 114 m) (q : Q (.bool false) ρ φ σ) : CallW w H0 sc n (.builtin "isinstance") [.ref x, .ref 93] ρ φ σ Q := fun xs hx => by
  cases hx with | cons h1 hx => cases hx with | cons h2 hx =>
  refine VRs.nilE hx ?_; refine VR.refE h1 ?_; refine VR.refE h2 ?_
  obtain ⟨d, hx, hd⟩ := h
  refine W.leaf (b := .bool false) (fun τ env A s k => ?_) q
  obtain ⟨od, m', I, hn, hr⟩ := k.inst hx (.inr hd)
  exact kin_callC (R.K.keeps k.root) I (kn114 _) (pg114 _) (hd114 _) (fc114 _) (sg114 _) (tk114 _) (mo114 _) ⟨.bool _, rfl, rfl, rfl⟩
theorem I_intInt {i : Int} (q : Q (.bool true) ρ φ σ) : CallW w H0 sc n (.builtin "isinstance") [.int i, .ext (.type "int")] ρ φ σ Q := fun xs hx => by
  cases hx with | cons h1 hx => cases hx with | cons h2 hx =>
  refine VRs.nilE hx ?_; refine VR.intE h1 (fun _ => ?_); refine VR.extE h2 ?_
  exact W.leaf (fun τ env A s k => PySem.IsiPair.int_int ⟨.bool _, rfl, rfl, rfl⟩) q
theorem I_listInt {l : Addr} {vs : List V} (h : Lst φ σ l vs) (q : Q (.bool false) ρ φ σ) : CallW w H0 sc n (.builtin "isinstance") [.ref l, .ext (.type "int")] ρ φ σ Q := fun xs hx => by
  cases hx with | cons h1 hx => cases hx with | cons h2 hx =>
  refine VRs.nilE hx ?_; refine VR.refE h1 ?_; refine VR.extE h2 ?_
  exact W.leaf (fun τ env A s k => by obtain ⟨items, m, hl, hv⟩ := k.lst h; exact PySem.IsiPair.list_int hl rfl ⟨.bool _, rfl, rfl, rfl⟩) q
theorem B_max : ∀ {sc : Scope} {n : Nat} {ρ : Lo} {φ : Ph} {σ : Sg} {Q : V → Lo → Ph → Sg → Prop} {a b : Int} (q : Q (.int (if b > a then b else a)) ρ φ σ), CallW w H0 sc n (.builtin "max") [.int a, .int b] ρ φ σ Q := by
  apply @Mine.hk6; generalize ca1 (cx _) = sc, ca2 (cx _) = n, ca3 (cx _) = ρ, ca4 (cx _) = φ, ca5 (cx _) = σ, cz6 (cx _) = Q
  apply @Mine.hk2; generalize ca1 (cx _) = a, cz2 (cx _) = b
  intro q
  intro xs hx
  cases hx with | cons h1 hx => cases hx with | cons h2 hx =>
  refine VRs.nilE hx ?_; refine VR.intE h1 (fun _ => ?_); refine VR.intE h2 (fun _ => ?_)
  refine fun τ env A s k => max_two_ints k.room.2.2 fun h' tk hk => ⟨_, ρ, φ, σ, ?_, k.grow hk, ⟨rfl, rfl⟩, q⟩
  by_cases c : b > a
  · rw [if_pos c, if_pos c]; exact .int _ _
  · rw [if_neg c, if_neg c]; exact .int _ _
theorem B_min {a b : Int} (q : Q (.int (if b < a then b else a)) ρ φ σ) : CallW w H0 sc n (.builtin "min") [.int a, .int b] ρ φ σ Q := fun xs hx => by
  cases hx with | cons h1 hx => cases hx with | cons h2 hx =>
  refine VRs.nilE hx ?_; refine VR.intE h1 (fun _ => ?_); refine VR.intE h2 (fun _ => ?_)
  refine fun τ env A s k => min_two_ints k.room.2.2 fun h' tk hk => ⟨_, ρ, φ, σ, ?_, k.grow hk, ⟨rfl, rfl⟩, q⟩
  by_cases c : b < a
  · rw [if_pos c, if_pos c]; exact .int _ _
  · rw [if_neg c, if_neg c]; exact .int _ _
theorem B_list {l : Addr} {vs : List V} (h : Lst φ σ l vs) (hz : vs.length ≤ 1000) (q : ∀ a, σ a = none → φ a = none → Q (.ref a) ρ φ (upd σ a (.list vs))) : CallW w H0 sc n (.type "list") [.ref l] ρ φ σ Q := fun xs hx => by
  cases hx with | cons h1 hx =>
  refine VRs.nilE hx ?_; refine VR.refE h1 ?_
  intro τ env A s k
  obtain ⟨items, m, hl, hv⟩ := k.lst h
  refine call_list_seq l (.inl rfl) hl rfl rfl (fun h' c' hk ho => ?_) (by rw [size_of hv, sizeLine_eq]; lia)
  obtain ⟨k2, e1, e2⟩ := k.newAt (s' := { s with heap := h' }) (Nat.le_refl _) hk ho (c := .list vs) ⟨items, c', rfl, hv⟩
  exact ⟨_, ρ, φ, _, .ref _, k2, ⟨rfl, rfl⟩, q _ e1 e2⟩
theorem get_two {h : Heap} (o1 o2 : Obj) (hf : o2.isFreed = false) : ((h.push o1).push o2).get? (h.objs.size + 1) = some o2 := by
  have := Heap.get?_push_size (h.push o1) hf
  rwa [Heap.size_push] at this
theorem slice_end {e sl : PySem.Expr} {l : Addr} {vs ws : List V} {vl vu : Value} {lo hi : Option Int} (hl : Lst φ σ l vs) (hz : vs.length ≤ 1000) (pl : IsPart vl lo) (pu : IsPart vu hi)
    (hp : ∀ items : Array Value, VRs vs items.toList → VRs ws (slicePick items lo hi none).toList) (hs : ∀ i, subscripted sl false (.ref l) i = operate [i, .ref l] (getItem (.ref l) i))
    (q : ∀ a, σ a = none → φ a = none → Q (.ref a) ρ φ (upd σ a (.list ws))) {τ : Sg} {env : Env} {A : Around} {s : Shared} (k : Ok w H0 sc n τ env A ρ φ σ s) :
    wpAny (model pw w) A (subscriptTail e sl (.ref l) (.ref s.heap.objs.size)) (Post w H0 sc n τ env A s VR Q) (fun _ _ => False) { s with heap := s.heap.push { cls := .type "slice", data := .fields #[vl, vu, .none] } } := by
  obtain ⟨items, m, hL, hv⟩ := k.lst hl
  have hsz := size_of hv
  refine tail_any (hL.isList.push _).typeIs slot_list_getitem.lookup (wpAny_getItem_list_slice (hL.isList.push _) (Heap.IsSliceOf.new ..) pl pu .none (by simp) ?_ (by rw [hsz, sizeLine_eq]; lia)) (hs _)
  obtain ⟨k4, f1, f2⟩ := k.newAt (a := s.heap.objs.size + 1) (s' := { s with heap := (s.heap.push { cls := .type "slice", data := .fields #[vl, vu, .none] }).push { cls := .type "list", data := .seq (slicePick items lo hi none) } })
    (Nat.le_succ _) (fun b o e => Heap.get?_push_of_some _ (Heap.get?_push_of_some _ e)) (get_two _ _ rfl) (c := .list ws) ⟨_, 0, rfl, hp _ hv⟩
  refine ⟨_, ρ, φ, _, ?_, k4, ⟨rfl, rfl⟩, q _ f1 f2⟩
  rw [Heap.size_push]; exact .ref _
theorem E_slice : ∀ {sc : Scope} {n : Nat} {ρ : Lo} {φ : Ph} {σ : Sg} {Q : V → Lo → Ph → Sg → Prop} {e ea eb : PySem.Expr} {p pos : Pos} (h : EW w H0 sc n e ρ φ σ fun v ρ φ σ => EW w H0 sc n ea ρ φ σ fun x ρ φ σ => EW w H0 sc n eb ρ φ σ fun y ρ φ σ => ∃ l vs, ∃ i j : Nat, v = .ref l ∧ x = .int i ∧ y = .int j ∧ Lst φ σ l vs ∧ vs.length ≤ 1000 ∧ i ≤ j ∧ j ≤ vs.length ∧
      ∀ a, σ a = none → φ a = none → Q (.ref a) ρ φ (upd σ a (.list ((vs.drop i).take (j - i))))), EW w H0 sc n (.Subscript e (.Slice (some ea) (some eb) none p) pos) ρ φ σ Q := by
  apply @Mine.hk6; generalize ca1 (cx _) = sc, ca2 (cx _) = n, ca3 (cx _) = ρ, ca4 (cx _) = φ, ca5 (cx _) = σ, cz6 (cx _) = Q
  apply @Mine.hk5; generalize ca1 (cx _) = e, ca2 (cx _) = ea, ca3 (cx _) = eb, ca4 (cx _) = p, cz5 (cx _) = pos
  intro h
  refine @Mine.hk4 _ _ _ _ _ _ neAround neShared _ ?_; generalize ca1 (cx _) = τ, ca2 (cx _) = env, ca3 (cx _) = A, cz4 (cx _) = s
  intro k
  exact 
  Subscript_ (Post.run (h τ env A s k) (fun x s1 b1 ρ1 φ1 σ1 r1 k1 m1 h1 => wpAny_Slice (show wpAny _ _ (eval ea env) _ _ _ from Post.run (h1 τ env A s1 k1) (fun y s2 b2 ρ2 φ2 σ2 r2 k2 m2 h2 => show wpAny _ _ (eval eb env) _ _ _ from Post.run (h2 τ env A s2 k2) (fun z s3 b3 ρ3 φ3 σ3 r3 k3 m3 hPt => by
      obtain ⟨l, vs, i, j, e1, e2, e3, hl, hz, hij, hj, q⟩ := hPt
      subst e1 e2 e3; refine VR.refE r1 ?_; refine VR.intE r2 (fun _ => ?_); refine VR.intE r3 (fun _ => ?_)
      refine evalPart_none_step (Post.run (slice_end hl hz (.int _ _) (.int _ _) (fun items hv => ?_) (fun _ => rfl) q k3) (fun x s' b ρ' φ' σ' g1 g2 g3 g4 => ⟨b, ρ', φ', σ', g1, g2, m1.trans (m2.trans (m3.trans g3)), g4⟩))
      rw [slicePick_run _ _ _ (by rw [size_of hv]; exact hj) hij]; exact (hv.drop i).take _)))))
theorem E_sliceTo {e eb : PySem.Expr} {p pos : Pos}
    (h : EW w H0 sc n e ρ φ σ fun v ρ φ σ => EW w H0 sc n eb ρ φ σ fun y ρ φ σ => ∃ l vs, ∃ j : Nat, v = .ref l ∧ y = .int j ∧ Lst φ σ l vs ∧ vs.length ≤ 1000 ∧
      ∀ a, σ a = none → φ a = none → Q (.ref a) ρ φ (upd σ a (.list (vs.take j)))) : EW w H0 sc n (.Subscript e (.Slice none (some eb) none p) pos) ρ φ σ Q := fun τ env A s k =>
  Subscript_ (Post.run (h τ env A s k) (fun x s1 b1 ρ1 φ1 σ1 r1 k1 m1 h1 => wpAny_Slice (evalPart_none_step (show wpAny _ _ (eval eb env) _ _ _ from Post.run (h1 τ env A s1 k1) (fun z s3 b3 ρ3 φ3 σ3 r3 k3 m3 hPt => by
      obtain ⟨l, vs, j, e1, e3, hl, hz, q⟩ := hPt
      subst e1 e3; refine VR.refE r1 ?_; refine VR.intE r3 (fun _ => ?_)
      refine evalPart_none_step (Post.run (slice_end hl hz .none (.int _ _) (fun items hv => ?_) (fun _ => rfl) q k3) (fun x s' b ρ' φ' σ' g1 g2 g3 g4 => ⟨b, ρ', φ', σ', g1, g2, m1.trans (m3.trans g3), g4⟩))
      rw [slicePick_upto']; exact hv.take _)))))
end
end Mine
namespace Mine
section
variable {sc : Scope} {n : Nat} {ρ : Lo} {φ : Ph} {σ : Sg} {Q : V → Lo → Ph → Sg → Prop}
inductive LAtM (h : Heap) (l : Addr) (vs : List V) : Prop
  | mk (items : Array Value) (m : Nat) (e : h.get? l = some ⟨.type "list", none, .seq items m, #[]⟩) (hv : VRs vs items.toList) : LAtM h l vs
theorem Ok.lstM {τ : Sg} {env : Env} {A : Around} {s : Shared} (k : Ok w H0 sc n τ env A ρ φ σ s) {l : Addr} {vs : List V} (h : σ l = some (.list vs)) : LAtM s.heap l vs :=
  by obtain ⟨items, m, h1, h2⟩ := k.lst (.inl h); exact ⟨items, m, h1, h2⟩
theorem fit {items : Array Value} {vs : List V} (h : VRs vs items.toList) (hz : vs.length ≤ 1000) : items.size ≤ sizeLine := by rw [size_of h, sizeLine_eq]; lia
theorem noDictL {h : Heap} {l : Addr} {items : Array Value} {m : Nat} (e : h.get? l = some ⟨.type "list", none, .seq items m, #[]⟩) : ∀ a, Value.ref l = .ref a → ∃ o, h.get? a = some o ∧ o.dict = none := fun a q => by
  cases q; exact ⟨_, e, rfl⟩
theorem GM (T : String) {name : Str} {id : String} {x : Addr} {pl : Env → Sem Bool} {Q : Value × List V → Lo → Ph → Sg → Prop} (pa : PlainAttrs T) (slot : Slot T name id) (hty : typeOf (.builtin id) = pure (.type "method_descriptor"))
    (ht : ∀ τ env A s, Ok w H0 sc n τ env A ρ φ σ s → s.TypeIs (.ref x) T ∧ ∀ a, Value.ref x = .ref a → ∃ o, s.heap.get? a = some o ∧ o.dict = none) (q : Q (.builtin id, [.ref x]) ρ φ σ) :
    ∀ y, VR (.ref x) y → W w H0 sc n (fun (p : Value × List V) (y : Value × List Value) => y.1 = p.1 ∧ VRs p.2 y.2) (fun env => getMethod y name (pl env)) ρ φ σ Q := fun y hy => by
  refine VR.refE hy ?_
  exact W.leaf (b := (.builtin id, [.ref x])) (fun τ env A s k => getMethod_builtin (ht τ env A s k).1 pa slot hty (ht τ env A s k).2 ⟨⟨rfl, .cons (.ref x) .nil⟩, rfl, rfl, rfl⟩) q
theorem GM_list {name : Str} {id : String} {l : Addr} {vs : List V} {pl : Env → Sem Bool} {Q : Value × List V → Lo → Ph → Sg → Prop} (slot : Slot "list" name id) (hty : typeOf (.builtin id) = pure (.type "method_descriptor")) (hl : Lst φ σ l vs) (q : Q (.builtin id, [.ref l]) ρ φ σ) :
    ∀ y, VR (.ref l) y → W w H0 sc n (fun (p : Value × List V) (y : Value × List Value) => y.1 = p.1 ∧ VRs p.2 y.2) (fun env => getMethod y name (pl env)) ρ φ σ Q :=
  GM "list" PySem.F.plainAttrs_list slot hty (fun τ env A s k => by obtain ⟨items, m, h1, h2⟩ := k.lst hl; exact ⟨⟨_, h1, rfl⟩, noDictL h1⟩) q
theorem mach {id : String} (h : keeperOf (.builtin id) = pure .machine) : ∀ (M : Model) (hh : Heap), (∀ b o, H0.get? b = some o → hh.get? b = some o) → ∃ k, (k = Keeper.frame ∨ k = Keeper.machine ∨ k = Keeper.boundFrame) ∧ Looks M hh (keeperOf (.builtin id)) k :=
  fun _ _ _ => ⟨_, .inr (.inl rfl), Looks.of_pure h⟩
theorem one_star {e : PySem.Expr} (h : noStar e = true) : ∀ env, starEach [e] env = (false, eval e env) :: starEach [] env := fun env => star_one h [] env
theorem E_append {o e : PySem.Expr} {apos pos : Pos} (hs : noStar e = true)
    (he : ∀ env, eval (.Call (.Attribute o (Str.ofString "append") apos) [e] [] pos) env = (do
      let ov ← eval o env
      standAt apos.atName
      let (f, first) ← holding [ov] (getMethod ov (Str.ofString "append") (do return (← importBound o env).getD true))
      callWith pos f first (backTo pos (starEach [e] env)) []))
    (h : EW w H0 sc n o ρ φ σ fun ov ρ φ σ => ∃ l, ov = .ref l ∧ (∃ vs, Lst φ σ l vs) ∧ EW w H0 sc n e ρ φ σ fun v ρ φ σ => ∃ vs, σ l = some (.list vs) ∧ vs.length ≤ 900 ∧ Q .none ρ φ (upd σ l (.list (vs ++ [v])))) :
    EW w H0 sc n (.Call (.Attribute o (Str.ofString "append") apos) [e] [] pos) ρ φ σ Q := by
  refine E_meth (pl := fun env => do return (← importBound o env).getD true) (by simpa using hs) (h.mono fun ov ρ φ σ hPt => ?_) he
  obtain ⟨l, e1, ⟨vs, hl⟩, h2⟩ := hPt
  subst e1
  refine GM_list PySem.F.slot_list_append PySem.F.type_list_append hl ⟨mach rfl, A_cons (h2.mono fun v ρ φ σ ⟨vs, hl, hz, q⟩ => A_nil fun xs hx => ?_) (one_star hs)⟩
  cases hx with | cons h1 hx => cases hx with | cons h2 hx =>
  refine VRs.nilE hx ?_; refine VR.refE h1 ?_
  intro τ env A s k
  obtain ⟨items, m, hL, hv⟩ := k.lstM hl
  refine append_at hL (fun h' hs' ho => ?_) (fit hv (by lia))
  exact ⟨_, ρ, φ, _, .none, k.set hl (s' := { s with heap := h' }) (fun b hb => hs'.2 b hb) ho (c' := .list (vs ++ [v])) ⟨_, _, rfl, by simpa using hv.append (.cons h2 .nil)⟩, ⟨rfl, rfl⟩, q⟩
theorem eraseLast {xs : List Value} : xs.toArray.eraseIdxIfInBounds (xs.length - 1) = xs.dropLast.toArray := by
  apply Array.toList_inj.mp
  simp [List.dropLast_eq_take]
theorem VRs.dropLast {a : List V} {x : List Value} (h : VRs a x) : VRs a.dropLast x.dropLast := by
  rw [List.dropLast_eq_take, List.dropLast_eq_take, h.length]; exact h.take _
theorem E_pop {o : PySem.Expr} {apos pos : Pos}
    (he : ∀ env, eval (.Call (.Attribute o (Str.ofString "pop") apos) [] [] pos) env = (do
      let ov ← eval o env
      standAt apos.atName
      let (f, first) ← holding [ov] (getMethod ov (Str.ofString "pop") (do return (← importBound o env).getD true))
      callWith pos f first (backTo pos (starEach [] env)) []))
    (h : EW w H0 sc n o ρ φ σ fun ov ρ φ σ => ∃ l vs v, ov = .ref l ∧ σ l = some (.list vs) ∧ vs.length ≤ 900 ∧ vs.getLast? = some v ∧ Q v ρ φ (upd σ l (.list vs.dropLast))) :
    EW w H0 sc n (.Call (.Attribute o (Str.ofString "pop") apos) [] [] pos) ρ φ σ Q := by
  refine E_meth (pl := fun env => do return (← importBound o env).getD true) rfl (h.mono fun ov ρ φ σ hPt => ?_) he
  obtain ⟨l, vs, v, e1, hl, hz, hg, q⟩ := hPt
  subst e1
  refine GM_list PySem.F.slot_list_pop PySem.F.type_list_pop (.inl hl) ⟨mach rfl, A_nil fun xs hx => ?_⟩
  cases hx with | cons h1 hx =>
  refine VRs.nilE hx ?_; refine VR.refE h1 ?_
  intro τ env A s k
  obtain ⟨items, m, hL, hv⟩ := k.lstM hl
  have hne : vs ≠ [] := fun e => by subst e; simp at hg
  have hpos : 0 < vs.length := List.length_pos_iff.mpr hne
  have hg' : vs[vs.length - 1]? = some v := by rw [← List.getLast?_eq_getElem?]; exact hg
  obtain ⟨u, hu, hvu⟩ := hv.get hg'
  have hsz := size_of hv
  refine call_meets PySem.F.slot_list_pop ⟨_, hL, rfl⟩ PySem.F.entry_list_pop (PySem.F.args_list_pop_1 _) (MeetsSeq.list_pop_last l items m u (by rw [hsz]; simpa using hu) (fit hv (by lia))) ⟨hL, ?_⟩
  have hL' := Heap.get?_update_self (Obj.mapSeq fun xs => xs.eraseIdxIfInBounds (items.size - 1)) hL rfl
  refine ⟨_, ρ, φ, _, hvu, k.set hl (fun b hb => Heap.get?_update_other _ _ (Ne.symm hb)) hL' (c' := .list vs.dropLast) ⟨_, _, rfl, ?_⟩, ⟨rfl, rfl⟩, q⟩
  have : items.eraseIdxIfInBounds (items.size - 1) = items.toList.dropLast.toArray := by
    have := eraseLast (xs := items.toList)
    simpa using this
  show VRs _ (items.eraseIdxIfInBounds (items.size - 1)).toList
  rw [this]
  exact hv.dropLast
theorem E_extend {o e : PySem.Expr} {apos pos : Pos} (hs : noStar e = true)
    (he : ∀ env, eval (.Call (.Attribute o (Str.ofString "extend") apos) [e] [] pos) env = (do
      let ov ← eval o env
      standAt apos.atName
      let (f, first) ← holding [ov] (getMethod ov (Str.ofString "extend") (do return (← importBound o env).getD true))
      callWith pos f first (backTo pos (starEach [e] env)) []))
    (h : EW w H0 sc n o ρ φ σ fun ov ρ φ σ => ∃ l, ov = .ref l ∧ (∃ vs, Lst φ σ l vs) ∧ EW w H0 sc n e ρ φ σ fun v ρ φ σ => ∃ b vs ws, v = .ref b ∧ σ l = some (.list vs) ∧ Lst φ σ b ws ∧ vs.length ≤ 900 ∧ ws.length ≤ 900 ∧ Q .none ρ φ (upd σ l (.list (vs ++ ws)))) :
    EW w H0 sc n (.Call (.Attribute o (Str.ofString "extend") apos) [e] [] pos) ρ φ σ Q := by
  refine E_meth (pl := fun env => do return (← importBound o env).getD true) (by simpa using hs) (h.mono fun ov ρ φ σ hPt => ?_) he
  obtain ⟨l, e1, ⟨vs, hl⟩, h2⟩ := hPt
  subst e1
  refine GM_list PySem.F.slot_list_extend PySem.F.type_list_extend hl ⟨mach rfl, A_cons (h2.mono fun v ρ φ σ ⟨b, vs, ws, e2, hl, hb, hz, hz2, q⟩ => A_nil fun xs hx => ?_) (one_star hs)⟩
  subst e2
  cases hx with | cons h1 hx => cases hx with | cons h2 hx =>
  refine VRs.nilE hx ?_; refine VR.refE h1 ?_; refine VR.refE h2 ?_
  intro τ env A s k
  obtain ⟨items, m, hL, hv⟩ := k.lstM hl
  obtain ⟨items2, m2, hB, hw⟩ := k.lst hb
  have h1 := size_of hv
  have h2 := size_of hw
  have big : ¬ (!items.isEmpty && Builtin.List.listTooLong (items.size + items2.size)) = true := by
    intro hh
    rw [Bool.and_eq_true] at hh
    have := hh.2
    unfold Builtin.List.listTooLong at this
    simp at this
    first | omega | (rw [sizeLine_eq] at this; lia)
  refine call_meets PySem.F.slot_list_extend ⟨_, hL, rfl⟩ PySem.F.entry_list_extend (PySem.F.args_list_extend_2 _ _) (AutoSeq1.list_extend_list_list_0 l items m b items2 m2 big (fit hv (by lia)) (by rw [h1, h2, sizeLine_eq]; lia)) ⟨hL, hB, ?_⟩
  have hL' := Heap.get?_update_self (Obj.mapSeq fun x => x ++ items2) hL rfl
  exact ⟨_, ρ, φ, _, .none, k.set hl (fun b hb => Heap.get?_update_other _ _ (Ne.symm hb)) hL' (c' := .list (vs ++ ws)) ⟨_, _, rfl, by simpa using hv.append hw⟩, ⟨rfl, rfl⟩, q⟩
theorem G_setL : ∀ {sc : Scope} {n : Nat} {ρ : Lo} {φ : Ph} {σ : Sg} {l : Addr} {vs : List V} {k : Int} {v : V} {Q : Lo → Ph → Sg → Prop} (hl : σ l = some (.list vs)) (hz : vs.length ≤ 1000) (h0 : 0 ≤ k) (hn : k.toNat < vs.length) (q : Q ρ φ (upd σ l (.list (vs.set k.toNat v)))),
    ∀ y j u, VR (.ref l) y → VR (.int k) j → VR v u → W w H0 sc n UR (fun _ => setItem y j u) ρ φ σ fun _ => Q := by
  apply @Mine.hk6; generalize ca1 (cx _) = sc, ca2 (cx _) = n, ca3 (cx _) = ρ, ca4 (cx _) = φ, ca5 (cx _) = σ, cz6 (cx _) = l
  apply @Mine.hk4; generalize ca1 (cx _) = vs, ca2 (cx _) = k, ca3 (cx _) = v, cz4 (cx _) = Q
  intro hl hz h0 hn q
  intro y j u hy hj hu τ env A s ok
  refine VR.refE hy ?_; refine VR.intE hj (fun _ => ?_)
  obtain ⟨items, m, ho, hv⟩ := ok.lstM hl
  have hsz := size_of hv
  have hT : s.TypeIs (.ref l) "list" := ⟨_, ho, rfl⟩
  unfold setItem
  try with_reducible refine wpAny_holding ?_
  first | refine wpAny_bind (wpAny_pure ?_) | skip
  refine wpAny_bind (wpAny_sequenceKey hT (by decide) ?_)
  refine wpAny_bind (wpAny_callSpecial?_slot (name := Str.ofString "__setitem__") hT slot_list_setitem
    (wpAny_call_entry slot_list_setitem hT entry_list_setitem ?_ (args_list_setitem _ _ _)))
  show wpAny _ _ (Builtin.List.listSubscript? (.int k _) >>= _) _ _ s
  refine wpAny_bind (wpAny_listSubscript_int (fitsIndex_of h0 (by lia)) ?_)
  obtain ⟨j, rfl⟩ := Int.eq_ofNat_of_zero_le h0
  have hj : j < items.size := by rw [hsz]; simpa using hn
  show wpAny _ _ ((seqItemAt l j >>= fun r => pure (r.map (j, ·))) >>= _) _ _ s
  refine wpAny_bind (wpAny_bind (wpAny_seqItemAt ho rfl (wpAny_pure ?_)))
  rw [Array.getElem?_eq_getElem hj]
  show wpAny _ _ (setSeqItemAt l j u >>= _) _ _ s
  have hL' := Heap.get?_update_self (Obj.mapSeq (·.setIfInBounds j u)) ho rfl
  have fin : Post w H0 sc n τ env A s UR (fun _ => Q) () { s with heap := s.heap.update l (Obj.mapSeq (·.setIfInBounds j u)) } :=
    ⟨(), ρ, φ, _, trivial, ok.set hl (fun b hb => Heap.get?_update_other _ _ (Ne.symm hb)) hL' (c' := .list (vs.set j v)) ⟨_, _, rfl, by simpa using hv.set hu j⟩, ⟨rfl, rfl⟩, q⟩
  refine wpAny_bind (wpAny_setSeqItemAt ho rfl ?_)
  first
    | exact wpAny_bind (wpAny_pure (wpAny_pure ⟨.none, rfl, wpAny_pure fin⟩))
    | exact wpAny_pure ⟨.none, rfl, wpAny_pure fin⟩
noncomputable def valV {K : Type} [DecidableEq K] (xs : List (K × V)) (k : K) : Option V := (xs.find? fun kv => kv.1 = k).map (·.2)
noncomputable def storedV {K : Type} [DecidableEq K] (xs : List (K × V)) (k : K) (v : V) : List (K × V) := if xs.any (fun kv => kv.1 = k) then xs.map (fun kv => if kv.1 = k then (kv.1, v) else kv) else xs ++ [(k, v)]
theorem KVs.length {K : Type} {xs : List (K × V)} {kvs : List (K × Value)} (h : KVs xs kvs) : kvs.length = xs.length := by
  induction h with
  | nil => rfl
  | cons _ _ ih => simp [ih]
theorem KVs.value {K : Type} [DecidableEq K] {xs : List (K × V)} {kvs : List (K × Value)} (h : KVs xs kvs) (k : K) : VRo (valV xs k) (valueAt kvs k) := by
  induction h with
  | nil => exact .none
  | @cons k' v x vs ys hv _ ih =>
    unfold valV valueAt at ih ⊢
    rw [List.find?_cons, List.find?_cons]
    by_cases e : k' = k
    · simp [e]; exact .some hv
    · simp [e]; simpa using ih
theorem KVs.map {K : Type} [DecidableEq K] {xs : List (K × V)} {kvs : List (K × Value)} (h : KVs xs kvs) {v : V} {x : Value} (hv : VR v x) (k : K) :
    KVs (xs.map (fun kv => if kv.1 = k then (kv.1, v) else kv)) (kvs.map (fun kv => if kv.1 = k then (kv.1, x) else kv)) := by
  induction h with
  | nil => exact .nil
  | cons h1 _ ih =>
    rw [List.map_cons, List.map_cons]
    dsimp only
    split
    · exact .cons hv ih
    · exact .cons h1 ih
theorem KVs.snoc {K : Type} {xs : List (K × V)} {kvs : List (K × Value)} (h : KVs xs kvs) {v : V} {x : Value} (hv : VR v x) (k : K) : KVs (xs ++ [(k, v)]) (kvs ++ [(k, x)]) := by
  induction h with
  | nil => exact .cons hv .nil
  | cons h1 _ ih => exact .cons h1 ih
theorem KVs.any {K : Type} [DecidableEq K] {xs : List (K × V)} {kvs : List (K × Value)} (h : KVs xs kvs) (k : K) : kvs.any (fun kv => kv.1 = k) = xs.any (fun kv => kv.1 = k) := by
  induction h with
  | nil => rfl
  | cons h1 _ ih => simp [ih]
theorem KVs.stored {K : Type} [DecidableEq K] {xs : List (K × V)} {kvs : List (K × Value)} (h : KVs xs kvs) {v : V} {x : Value} (hv : VR v x) (k : K) : KVs (storedV xs k v) (stored kvs k x) := by
  unfold storedV PySem.stored
  rw [h.any k]
  split
  · exact h.map hv k
  · exact h.snoc hv k
noncomputable def scV : Scal → V
  | .str s => .str s
  | .int i => .int i
theorem sc_is {k : Scal} {y : Value} (h : VR (scV k) y) : (scalKind pw w).is k y = true := by
  cases k with
  | str s => cases h with | str _ t => exact scIs_iff.mpr (.str s t)
  | int i => cases h with | int _ t => exact scIs_iff.mpr (.int i t)
inductive SdAt (w : World) (h : Heap) (d : Addr) (xs : List (Scal × V)) : Prop
  | mk (kvs : List (Scal × Value)) (h1 : h.DictOf (scalKind pw w) d kvs) (h2 : KVs xs kvs) (h3 : (d == sysModules) = false) : SdAt w h d xs
inductive BdAt (w : World) (h : Heap) (d : Addr) (xs : List (List UInt8 × V)) : Prop
  | mk (kvs : List (List UInt8 × Value)) (h1 : h.DictOf (bytesKind pw w) d kvs) (h2 : KVs xs kvs) (h3 : (d == sysModules) = false) : BdAt w h d xs
theorem Ok.sdict {τ : Sg} {env : Env} {A : Around} {s : Shared} (k : Ok w H0 sc n τ env A ρ φ σ s) {d : Addr} {xs : List (Scal × V)} (h : σ d = some (.sdict xs)) : SdAt w s.heap d xs := by
  obtain ⟨_, o, ho, kvs, h1, h2⟩ := k.hr.cells _ _ (k.full_sg h)
  exact ⟨kvs, Heap.dictOf_iff.mpr ⟨o, ho, h1⟩, h2, beq_false_of_ne (Nat.ne_of_gt (k.hr.high _ _ (k.full_sg h)))⟩
theorem Ok.bdict {τ : Sg} {env : Env} {A : Around} {s : Shared} (k : Ok w H0 sc n τ env A ρ φ σ s) {d : Addr} {xs : List (List UInt8 × V)} (h : σ d = some (.bdict xs)) : BdAt w s.heap d xs := by
  obtain ⟨_, o, ho, kvs, h1, h2⟩ := k.hr.cells _ _ (k.full_sg h)
  exact ⟨kvs, Heap.dictOf_iff.mpr ⟨o, ho, h1⟩, h2, beq_false_of_ne (Nat.ne_of_gt (k.hr.high _ _ (k.full_sg h)))⟩
theorem G_setD {d : Addr} {xs : List (Scal × V)} {k : Scal} {v : V} {Q : Lo → Ph → Sg → Prop} (hd : σ d = some (.sdict xs)) (hz : xs.length ≤ 900) (q : Q ρ φ (upd σ d (.sdict (storedV xs k v)))) :
    ∀ y j u, VR (.ref d) y → VR (scV k) j → VR v u → W w H0 sc n UR (fun _ => setItem y j u) ρ φ σ fun _ => Q := fun y j u hy hj hu τ env A s ok => by
  refine VR.refE hy ?_
  obtain ⟨kvs, h1, h2, h3⟩ := ok.sdict hd
  refine wpAny_setItem_pairs (sc_is hj) h1 (fun h' hd' hs' => ?_) (by rw [h2.length, sizeLine_eq]; lia)
  obtain ⟨o, ho, hd2⟩ := Heap.dictOf_iff.mp hd'
  exact ⟨(), ρ, φ, _, trivial, ok.set hd (s' := { s with heap := h', toks := s.toks + 1 }) (fun b hb => hs'.2 b hb) ho (c' := .sdict (storedV xs k v)) ⟨_, hd2, h2.stored hu k⟩, ⟨rfl, rfl⟩, q⟩
theorem G_setB {d : Addr} {xs : List (List UInt8 × V)} {k : Array UInt8} {v : V} {Q : Lo → Ph → Sg → Prop} (hd : σ d = some (.bdict xs)) (hz : xs.length ≤ 900) (q : Q ρ φ (upd σ d (.bdict (storedV xs k.toList v)))) :
    ∀ y j u, VR (.ref d) y → VR (.bytes k) j → VR v u → W w H0 sc n UR (fun _ => setItem y j u) ρ φ σ fun _ => Q := fun y j u hy hj hu τ env A s ok => by
  refine VR.refE hy ?_; refine VR.bytesE hj (fun _ => ?_)
  obtain ⟨kvs, h1, h2, h3⟩ := ok.bdict hd
  refine wpAny_setItem_pairs (k := k.toList) (by simp [bytesKind, isBytes]) h1 (fun h' hd' hs' => ?_) (by rw [h2.length, sizeLine_eq]; lia)
  obtain ⟨o, ho, hd2⟩ := Heap.dictOf_iff.mp hd'
  exact ⟨(), ρ, φ, _, trivial, ok.set hd (s' := { s with heap := h', toks := s.toks + 1 }) (fun b hb => hs'.2 b hb) ho (c' := .bdict (storedV xs k.toList v)) ⟨_, hd2, h2.stored hu _⟩, ⟨rfl, rfl⟩, q⟩
theorem D_item {e i : PySem.Expr} {d : Addr} {kv : V} (hs : ∀ y, subscripted i false (.ref d) y = operate [.ref d, y] (getItem (.ref d) y))
    (q : ∃ xs k v, kv = scV k ∧ σ d = some (.sdict xs) ∧ valV xs k = some v ∧ Q v ρ φ σ) : ∀ x y, VR (.ref d) x → VR kv y → W w H0 sc n VR (fun _ => subscriptTail e i x y) ρ φ σ Q := fun x y hx hy => by
  refine VR.refE hx ?_
  obtain ⟨xs, k, v, rfl, hd, hv, q⟩ := q
  refine W.leaf (b := v) (fun τ env A s kk => ?_) q
  obtain ⟨kvs, h1, h2, h3⟩ := kk.sdict hd
  have hr := h2.value k
  rw [hv] at hr
  cases e : valueAt kvs k with
  | none => rw [e] at hr; cases hr
  | some u =>
    rw [e] at hr
    cases hr with
    | some hvu => exact tail_any h1.typeIs slot_dict_getitem.lookup (wpAny_getItem_of (sc_is hy) h1.mapOf e ⟨hvu, rfl, rfl, rfl⟩) (hs _)
theorem C_inD {d : Addr} {kv : V} (q : ∃ xs k, kv = scV k ∧ σ d = some (.sdict xs) ∧ Q (.bool (valV xs k).isSome) ρ φ σ) : CmW w H0 sc n .In kv (.ref d) ρ φ σ Q := fun x y hx hy => by
  refine VR.refE hy ?_
  obtain ⟨xs, k, rfl, hd, q⟩ := q
  refine W.leaf (b := _) (fun τ env A s kk => ?_) q
  obtain ⟨kvs, h1, h2, h3⟩ := kk.sdict hd
  have hr := h2.value k
  have e : (valueAt kvs k).isSome = (valV xs k).isSome := by
    revert hr; generalize valV xs k = a; generalize valueAt kvs k = b; intro h; cases h <;> rfl
  exact wpAny_in_of (sc_is hx) h3 h1.mapOf ⟨by rw [e]; exact .bool _, rfl, rfl, rfl⟩
theorem C_notInD {d : Addr} {kv : V} (q : ∃ xs k, kv = scV k ∧ σ d = some (.sdict xs) ∧ Q (.bool (!(valV xs k).isSome)) ρ φ σ) : CmW w H0 sc n .NotIn kv (.ref d) ρ φ σ Q := fun x y hx hy => by
  refine VR.refE hy ?_
  obtain ⟨xs, k, rfl, hd, q⟩ := q
  refine W.leaf (b := _) (fun τ env A s kk => ?_) q
  obtain ⟨kvs, h1, h2, h3⟩ := kk.sdict hd
  have hr := h2.value k
  have e : (valueAt kvs k).isSome = (valV xs k).isSome := by
    revert hr; generalize valV xs k = a; generalize valueAt kvs k = b; intro h; cases h <;> rfl
  exact wpAny_notIn_of (sc_is hx) h3 h1.mapOf ⟨by rw [e]; exact .bool _, rfl, rfl, rfl⟩
theorem E_dict0 {c : C} {pos : Pos} (hc : c = .sdict [] ∨ c = .bdict [] ∨ c = .tdict []) (q : ∀ a, σ a = none → φ a = none → Q (.ref a) ρ φ (upd σ a c)) : EW w H0 sc n (.Dict [] [] pos) ρ φ σ Q := fun τ env A s k => by
  refine wpAny_Dict_empty ?_
  have hcr : CR w φ c { cls := .type "dict", data := .dict #[] } := by
    rcases hc with rfl | rfl | rfl
    · obtain ⟨o, ho, hd⟩ := Heap.dictOf_iff.mp (Heap.DictOf.new (knd := scalKind pw w) s.heap)
      rw [Heap.get?_push_size _ rfl] at ho; cases ho
      exact ⟨[], hd, .nil⟩
    · obtain ⟨o, ho, hd⟩ := Heap.dictOf_iff.mp (Heap.DictOf.new (knd := bytesKind pw w) s.heap)
      rw [Heap.get?_push_size _ rfl] at ho; cases ho
      exact ⟨[], hd, .nil⟩
    · exact ⟨[], #[], 0, .nil, ⟨rfl, rfl, rfl⟩, rfl, rfl, fun _ hx => by simp at hx, List.nodup_nil⟩
  obtain ⟨k2, e1, e2⟩ := k.allocC (s' := { s with heap := s.heap.push { cls := .type "dict", data := .dict #[] } }) hcr rfl rfl
  exact ⟨_, ρ, φ, _, .ref _, k2, ⟨rfl, rfl⟩, q _ e1 e2⟩
end
end Mine
namespace Mine
section
variable {sc : Scope} {n : Nat} {ρ : Lo} {φ : Ph} {σ : Sg}
noncomputable def AL (w : World) (H0 : Heap) (sc : Scope) (n : Nat) : List PySem.Expr → List V → Lo → Ph → Sg → (Lo → Ph → Sg → Prop) → Prop
  | [], [], ρ, φ, σ, Q => Q ρ φ σ
  | e :: es, v :: vs, ρ, φ, σ, Q => AW w H0 sc n e v ρ φ σ fun ρ φ σ => AL w H0 sc n es vs ρ φ σ Q
  | _, _, _, _, _, _ => False
theorem each_cons {e : PySem.Expr} (h : noStar e = true) (es : List PySem.Expr) (env : Env) : assignEach (e :: es) env = (false, assign e env) :: assignEach es env := by
  cases e <;> first | rfl | cases h
theorem each_len {es : List PySem.Expr} (h : es.all noStar = true) (env : Env) : (assignEach es env).length = es.length ∧ (assignEach es env).findIdx? (·.1) = none := by
  induction es with
  | nil => exact ⟨rfl, rfl⟩
  | cons e r ih =>
    rw [List.all_cons, Bool.and_eq_true] at h
    rw [each_cons h.1]
    have := ih h.2
    refine ⟨by simp [this.1], by simp [List.findIdx?_cons, this.2]⟩
theorem order_w {es : List PySem.Expr} (hs : es.all noStar = true) : ∀ {vs : List V} {xs : List Value} {ρ : Lo} {φ : Ph} {σ : Sg} {Q : Lo → Ph → Sg → Prop}, VRs vs xs → AL w H0 sc n es vs ρ φ σ Q →
    W w H0 sc n UR (fun env => assignInOrder ((assignEach es env).map (·.2)) xs) ρ φ σ fun _ => Q := by
  induction es with
  | nil =>
    intro vs xs ρ φ σ Q hx h
    cases vs with
    | cons v vs => exact h.elim
    | nil =>
      refine VRs.nilE hx ?_
      exact W.leaf (b := ()) (fun τ env A s k => wpAny_pure ⟨trivial, rfl, ⟨rfl, rfl⟩⟩) h
  | cons e r ih =>
    rw [List.all_cons, Bool.and_eq_true] at hs
    intro vs xs ρ φ σ Q hx h
    cases vs with
    | nil => exact h.elim
    | cons v vs =>
      cases hx with
      | @cons _ x _ xs hv hx =>
        intro τ env A s k
        show wpAny _ _ (assignInOrder ((assignEach (e :: r) env).map (·.2)) (x :: xs)) _ _ _
        rw [each_cons hs.1]
        exact wpAny_bind (wpAny_holding (Post.run (h x hv τ env A s k) (fun _ s1 b1 ρ1 φ1 σ1 r1 k1 m1 h1 => Post.run (ih hs.2 hx h1 τ env A s1 k1) (fun _ s2 b2 ρ2 φ2 σ2 r2 k2 m2 h2 => ⟨b2, ρ2, φ2, σ2, r2, k2, m1.trans m2, h2⟩))))
theorem tup_at {es : List PySem.Expr} {kk : Nat} {pos : Pos} {T : Addr} {vals : Array Value} {ls : List V} {Q : Lo → Ph → Sg → Prop} (hs : es.all noStar = true) (hl : es.length = ls.length) (hv : VRs ls vals.toList) (h : AL w H0 sc n es ls ρ φ σ Q)
    {τ : Sg} {env : Env} {A : Around} {s : Shared} (k : Ok w H0 sc n τ env A ρ φ σ s) (ht : s.heap.IsTuple T vals) :
    wpAny (model pw w) A (assign (.Tuple es kk pos) env (.ref T)) (Post w H0 sc n τ env A s UR (fun _ => Q)) (fun _ _ => False) s := by
  have e := each_len hs env
  refine wpAny_assign_Tuple k.room.2.2 ht (by rw [e.1, hl, size_of hv]) e.2 fun h' he => ?_
  have k2 : Ok w H0 sc n τ env A ρ φ σ { s with heap := h' } := k.grow fun b o eb => he b o (Nat.ne_of_lt (Heap.lt_size eb)) eb
  exact Post.run (order_w hs hv h τ env A _ k2) (fun _ s1 b1 ρ1 φ1 σ1 r1 k1 m1 h1 => ⟨b1, ρ1, φ1, σ1, r1, k1, ⟨m1.1, m1.2⟩, h1⟩)
inductive TAt (h : Heap) (l : Addr) (vs : List V) : Prop
  | mk (items : Array Value) (e : h.IsTuple l items) (hv : VRs vs items.toList) : TAt h l vs
theorem Ok.tupT {τ : Sg} {env : Env} {A : Around} {s : Shared} (k : Ok w H0 sc n τ env A ρ φ σ s) {l : Addr} {vs : List V} (h : Tup φ l vs) : TAt s.heap l vs :=
  by obtain ⟨items, m, h1, h2⟩ := k.tup h; exact ⟨items, ⟨_, h1, rfl, m, rfl⟩, h2⟩
theorem A_tup {es : List PySem.Expr} {kk : Nat} {pos : Pos} {t : Addr} {ls : List V} {Q : Lo → Ph → Sg → Prop} (hs : es.all noStar = true) (hl : es.length = ls.length) (ht : Tup φ t ls) (h : AL w H0 sc n es ls ρ φ σ Q) :
    AW w H0 sc n (.Tuple es kk pos) (.ref t) ρ φ σ Q := fun x hx τ env A s k => by
  refine VR.refE hx ?_
  obtain ⟨items, h1, h2⟩ := k.tupT ht
  exact tup_at hs hl h2 h k h1
inductive Itm where
  | v (u : V) | t (ls : List V)
noncomputable def ItmAt (h : Heap) : Itm → Value → Prop
  | .v u, x => VR u x
  | .t ls, x => ∃ T vals, x = .ref T ∧ h.IsTuple T vals ∧ VRs ls vals.toList
noncomputable def Asn (w : World) (H0 : Heap) (sc : Scope) (n : Nat) (target : PySem.Expr) (i : Itm) (ρ : Lo) (φ : Ph) (σ : Sg) (Q : Lo → Ph → Sg → Prop) : Prop := match i with
  | .v u => AW w H0 sc n target u ρ φ σ Q
  | .t ls => ∃ es kk pos, target = .Tuple es kk pos ∧ es.all noStar = true ∧ es.length = ls.length ∧ AL w H0 sc n es ls ρ φ σ Q
theorem Asn.run {target : PySem.Expr} {i : Itm} {Q : Lo → Ph → Sg → Prop} (h : Asn w H0 sc n target i ρ φ σ Q) {x : Value} {τ : Sg} {env : Env} {A : Around} {s : Shared} (k : Ok w H0 sc n τ env A ρ φ σ s) (hx : ItmAt s.heap i x) :
    wpAny (model pw w) A (assign target env x) (Post w H0 sc n τ env A s UR (fun _ => Q)) (fun _ _ => False) s := by
  cases i with
  | v u => exact h x hx τ env A s k
  | t ls =>
    obtain ⟨es, kk, pos, rfl, hs, hl, ha⟩ := h
    obtain ⟨T, vals, rfl, ht, hv⟩ := hx
    exact tup_at hs hl hv ha k ht
structure Itr (w : World) (A : Around) (target : PySem.Expr) (I : Addr) (fp wr : List Addr) (items : List Itm) (St : Nat → Heap → Prop) (Mid : Nat → Value → Heap → Prop) : Prop where
  sub : ∀ b ∈ wr, b ∈ fp
  frame : ∀ i h h', St i h → (∀ b ∈ fp, ∀ o, h.get? b = some o → h'.get? b = some o) → St i h'
  has : ∀ i h, St i h → ∀ b ∈ fp, ∃ o, h.get? b = some o
  item : ∀ i it (s : Shared) (Q : Option Value → Shared → Prop) (E : Value → Shared → Prop), items[i]? = some it → St i s.heap →
    (∀ v h' tk, Mid i v h' → (∀ b o, b ∉ wr → s.heap.get? b = some o → h'.get? b = some o) → Q (some v) { s with heap := h', toks := tk }) → wpAny (model pw w) A (pyNext (.ref I)) Q E s
  go : ∀ i it v (s : Shared) (Q : Unit → Shared → Prop) (E : Value → Shared → Prop), items[i]? = some it → Mid i v s.heap →
    (∀ h', St (i + 1) h' → ItmAt h' it v → (∀ b o, b ∉ wr → s.heap.get? b = some o → h'.get? b = some o) → Q () { s with heap := h' }) → wpAny (model pw w) A (letOwnedTupleGo target (.ref I) v) Q E s
  self : ∀ i (s : Shared) (Q : Value → Shared → Prop) (E : Value → Shared → Prop), St i s.heap → Q (.ref I) s → wpAny (model pw w) A (pyIter (.ref I)) Q E s
  done : ∀ (s : Shared) (Q : Option Value → Shared → Prop) (E : Value → Shared → Prop), St items.length s.heap →
    (∀ h' tk, (∀ b o, b ∉ wr → s.heap.get? b = some o → h'.get? b = some o) → Q none { s with heap := h', toks := tk }) → wpAny (model pw w) A (pyNext (.ref I)) Q E s
theorem Itr.ofWalks {A : Around} {target : PySem.Expr} {I : Addr} {fp wr : List Addr} {m : Nat} {P : Nat → Value → Prop} {St : Nat → Heap → Prop} {items : List Itm} (W : Walks pw w A I fp wr m P St) (hm : items.length = m)
    (hP : ∀ i it v h, items[i]? = some it → P i v → St (i + 1) h → ItmAt h it v) (hh : ∀ i h, St i h → ∀ b ∈ fp, ∃ o, h.get? b = some o) (hg : ∀ i v (s : Shared) (Q : Unit → Shared → Prop) (E : Value → Shared → Prop), P i v → St (i + 1) s.heap → Q () s → wpAny (model pw w) A (letOwnedTupleGo target (.ref I) v) Q E s) :
    Itr w A target I fp wr items St (fun i v h => P i v ∧ St (i + 1) h) where
  sub := W.sub
  frame := W.frame
  has := hh
  item := fun i it s Q E hi st hQ => W.item i s Q E (hm ▸ (List.getElem?_eq_some_iff.mp hi).1) st fun v h' tk a b c => hQ v h' tk ⟨a, b⟩ c
  go := fun i it v s Q E hi st hQ => hg i v s Q E st.1 st.2 (hQ s.heap st.2 (hP _ _ _ _ hi st.1 st.2) fun _ _ _ e => e)
  self := W.self
  done := fun s Q E st hQ => W.done s Q E (hm ▸ st) hQ
theorem Itr.ofU {A : Around} {es : List PySem.Expr} {kk : Nat} {pos : Pos} {I : Addr} {fp wr : List Addr} {m : Nat} {Pt : Nat → Array Value → Prop} {St : Nat → Heap → Prop} {Mid : Nat → Addr → Heap → Prop} {items : List (List V)} (W : WalksU pw w A I fp wr m Pt St Mid) (hm : items.length = m)
    (hh : ∀ i h, St i h → ∀ b ∈ fp, ∃ o, h.get? b = some o) (hP : ∀ i ls vals, items[i]? = some ls → Pt i vals → VRs ls vals.toList) :
    Itr w A (.Tuple es kk pos) I fp wr (items.map .t) St (fun i v h => ∃ T vals, v = .ref T ∧ Pt i vals ∧ h.IsTuple T vals ∧ Mid i T h) where
  sub := W.sub
  frame := W.frame
  has := hh
  item := fun i it s Q E hi st hQ => by
    have hlt : i < m := by have := (List.getElem?_eq_some_iff.mp hi).1; simpa [hm] using this
    exact W.item i s Q E hlt st fun T vals h' tk a b c d => hQ _ h' tk ⟨T, vals, rfl, a, b, c⟩ d
  go := fun i it v s Q E hi hPt hQ => by
    obtain ⟨T, vals, e, a, b, c⟩ := hPt
    subst e
    rw [List.getElem?_map] at hi
    obtain ⟨ls, h1, h2⟩ := Option.map_eq_some_iff.mp hi
    subst h2
    have hT := W.apart _ _ _ c
    exact W.go es kk pos i T s Q E c fun h' x y => hQ h' x ⟨T, vals, rfl, b.at fun o e => y T o hT e, hP _ _ _ h1 a⟩ y
  self := W.self
  done := fun s Q E st hQ => W.done s Q E (by simpa [hm] using st) hQ
end
end Mine
namespace Mine
section
variable {sc : Scope} {n : Nat} {ρ : Lo} {φ : Ph} {σ : Sg}
noncomputable def Free (τ : Sg) (env : Env) (ρ : Lo) (φ : Ph) (σ : Sg) (h : Heap) (b : Addr) : Prop := τ b = none ∧ fr env ρ b = none ∧ σ b = none ∧ φ b = none ∧ (∃ o, h.get? b = some o) ∧ sysModules < b
theorem fr_none {env : Env} {ρ ρ' : Lo} {b : Addr} (h : fr env ρ b = none) : fr env ρ' b = none := by
  have := fr_some_iff env ρ ρ' b
  rw [h] at this
  cases e : fr env ρ' b with
  | none => rfl
  | some c => rw [e] at this; cases this
theorem Ok.outside {τ : Sg} {env : Env} {A : Around} {s s' : Shared} (k : Ok w H0 sc n τ env A ρ φ σ s) {wr : List Addr} (hw : ∀ b ∈ wr, Free τ env ρ φ σ s.heap b) (hk : ∀ b o, b ∉ wr → s.heap.get? b = some o → s'.heap.get? b = some o) : Ok w H0 sc n τ env A ρ φ σ s' := by
  refine ⟨k.ok, k.room, k.dj1, k.dj2, fun a o e => hk a o (fun hb => ?_) (k.hr.keep a o e), k.hr.root, fun a c e => ?_, k.hr.high, k.hr.big⟩
  · have := (hw a hb).2.2.2.1; rw [e] at this; cases this
  · obtain ⟨h1, o, h2, h3⟩ := k.hr.cells a c e
    refine ⟨h1, o, hk a o (fun hb => ?_) h2, h3⟩
    have f := hw a hb
    have : jn (jn τ (fr env ρ)) σ a = none := jn_none.mpr ⟨jn_none.mpr ⟨f.1, f.2.1⟩, f.2.2.1⟩
    rw [this] at e; cases e
open Classical in
noncomputable def gd (fp : List Addr) (φ : Ph) (h : Heap) (τ : Sg) : Sg := fun b => if b ∈ fp ∧ φ b = none then (h.get? b).map .raw else τ b
theorem gd_free {fp : List Addr} {φ : Ph} {h : Heap} {τ : Sg} {b : Addr} {o : Obj} (h1 : b ∈ fp) (h2 : φ b = none) (h3 : h.get? b = some o) : gd fp φ h τ b = some (.raw o) := by
  unfold gd; rw [if_pos ⟨h1, h2⟩, h3]; rfl
theorem gd_other {fp : List Addr} {φ : Ph} {h : Heap} {τ : Sg} {b : Addr} (h1 : ¬ (b ∈ fp ∧ φ b = none)) : gd fp φ h τ b = τ b := by
  unfold gd; rw [if_neg h1]
theorem Ok.guard {τ : Sg} {env : Env} {A : Around} {s : Shared} (k : Ok w H0 sc n τ env A ρ φ σ s) {fp : List Addr} (hf : ∀ b ∈ fp, φ b = none → Free τ env ρ φ σ s.heap b) : Ok w H0 sc n (gd fp φ s.heap τ) env A ρ φ σ s := by
  have nf : ∀ b, ¬ Free τ env ρ φ σ s.heap b → ¬ (b ∈ fp ∧ φ b = none) := fun b hb h => hb (hf b h.1 h.2)
  refine ⟨k.ok, k.room, fun a e => ?_, fun a e => ?_, k.hr.keep, k.hr.root, fun a c e => ?_, fun a c e => ?_, k.hr.big⟩
  · have d := k.dj1 a e
    refine ⟨?_, d.2⟩
    rw [gd_other (nf a fun f => by rw [f.2.1] at e; cases e)]; exact d.1
  · rw [gd_other (nf a fun f => by rw [f.2.2.1] at e; cases e)]; exact k.dj2 a e
  · by_cases hb : a ∈ fp ∧ φ a = none
    · obtain ⟨o, ho⟩ := (hf a hb.1 hb.2).2.2.2.2.1
      have : jn (jn (gd fp φ s.heap τ) (fr env ρ)) σ a = some (.raw o) := jn_left (jn_left (gd_free hb.1 hb.2 ho))
      rw [this] at e; cases e
      exact ⟨hb.2, o, ho, rfl⟩
    · refine k.hr.cells a c ?_
      unfold jn at e ⊢
      rw [gd_other hb] at e; exact e
  · by_cases hb : a ∈ fp ∧ φ a = none
    · exact (hf a hb.1 hb.2).2.2.2.2.2
    · refine k.hr.high a c ?_
      unfold jn at e ⊢
      rw [gd_other hb] at e; exact e
theorem Ok.unguardOk {τ : Sg} {env : Env} {A : Around} {s s' : Shared} {ρ' : Lo} {φ' : Ph} {σ' : Sg} {fp : List Addr} (hf : ∀ b ∈ fp, φ b = none → Free τ env ρ φ σ s.heap b)
    (k' : Ok w H0 sc n (gd fp φ s.heap τ) env A ρ' φ' σ' s') : Ok w H0 sc n τ env A ρ' φ' σ' s' := by
  have key : ∀ b ∈ fp, φ b = none → ∃ o, s.heap.get? b = some o ∧ gd fp φ s.heap τ b = some (.raw o) := fun b hb hn => by
    obtain ⟨o, ho⟩ := (hf b hb hn).2.2.2.2.1
    exact ⟨o, ho, gd_free hb hn ho⟩
  refine ⟨k'.ok, k'.room, fun a e => ?_, fun a e => ?_, k'.hr.sub fun a c e => ?_⟩
  · have d := k'.dj1 a e
    refine ⟨?_, d.2⟩
    by_cases hb : a ∈ fp ∧ φ a = none
    · obtain ⟨o, _, h2⟩ := key a hb.1 hb.2; rw [h2] at d; cases d.1
    · have := d.1; rw [gd_other hb] at this; exact this
  · have d := k'.dj2 a e
    by_cases hb : a ∈ fp ∧ φ a = none
    · obtain ⟨o, _, h2⟩ := key a hb.1 hb.2; rw [h2] at d; cases d
    · rw [gd_other hb] at d; exact d
  · by_cases hb : a ∈ fp ∧ φ a = none
    · exfalso
      obtain ⟨o, _, h2⟩ := key a hb.1 hb.2
      have f := hf a hb.1 hb.2
      unfold jn at e
      rw [f.1, fr_none f.2.1] at e
      have d := k'.dj2 a (by simp at e; rw [e]; rfl)
      rw [h2] at d; cases d
    · unfold jn at e ⊢
      rw [gd_other hb]; exact e
theorem Ok.unguard : ∀ {sc : Scope} {n : Nat} {ρ : Lo} {φ : Ph} {σ : Sg} {τ : Sg} {env : Env} {A : Around} {s s' : Shared} {ρ' : Lo} {φ' : Ph} {σ' : Sg} {fp : List Addr} (k : Ok w H0 sc n τ env A ρ φ σ s) (hf : ∀ b ∈ fp, φ b = none → Free τ env ρ φ σ s.heap b) (k' : Ok w H0 sc n (gd fp φ s.heap τ) env A ρ' φ' σ' s') (l : Le φ φ'), (∀ b ∈ fp, ∀ o, s.heap.get? b = some o → s'.heap.get? b = some o) ∧ ∀ b ∈ fp, φ b = none → Free τ env ρ' φ' σ' s'.heap b := by
  apply @Mine.hk6; generalize ca1 (cx _) = sc, ca2 (cx _) = n, ca3 (cx _) = ρ, ca4 (cx _) = φ, ca5 (cx _) = σ, cz6 (cx _) = τ
  refine @Mine.hk6 _ _ _ _ _ _ _ neAround neShared neShared _ _ _ ?_; generalize ca1 (cx _) = env, ca2 (cx _) = A, ca3 (cx _) = s, ca4 (cx _) = s', ca5 (cx _) = ρ', cz6 (cx _) = φ'
  apply @Mine.hk2; generalize ca1 (cx _) = σ', cz2 (cx _) = fp
  intro k hf k' l
  have key : ∀ b ∈ fp, φ b = none → ∃ o, s.heap.get? b = some o ∧ gd fp φ s.heap τ b = some (.raw o) ∧ jn (jn (gd fp φ s.heap τ) (fr env ρ')) σ' b = some (.raw o) := fun b hb hn => by
    obtain ⟨o, ho⟩ := (hf b hb hn).2.2.2.2.1
    exact ⟨o, ho, gd_free hb hn ho, jn_left (jn_left (gd_free hb hn ho))⟩
  refine ⟨fun b hb o ho => ?_, fun b hb hn => ?_⟩
  · cases hn : φ b with
    | some o' =>
      have e1 := k.hr.keep _ _ hn
      rw [ho] at e1; cases e1
      exact k'.hr.keep _ _ (l _ _ hn)
    | none =>
      obtain ⟨o', h1, _, h3⟩ := key b hb hn
      rw [ho] at h1; cases h1
      obtain ⟨_, o2, h4, h5⟩ := k'.hr.cells _ _ h3
      have h5 : o2 = o := h5
      rw [← h5]; exact h4
  · obtain ⟨o, h1, h2, h3⟩ := key b hb hn
    have f := hf b hb hn
    obtain ⟨g1, o2, g2, _⟩ := k'.hr.cells _ _ h3
    refine ⟨f.1, fr_none f.2.1, ?_, g1, ⟨o2, g2⟩, f.2.2.2.2.2⟩
    cases e : σ' b with
    | none => rfl
    | some c => have := k'.dj2 b (by rw [e]; rfl); rw [h2] at this; cases this
inductive ItPost (w : World) (H0 : Heap) (sc : Scope) (n : Nat) (target : PySem.Expr) (τ : Sg) (env : Env) (s : Shared) (A' : Around) (K : List Itm → Lo → Ph → Sg → Prop) (it : Value) (s2 : Shared) : Prop
  | mk (I : Addr) (fp wr : List Addr) (items : List Itm) (St : Nat → Heap → Prop) (Mid : Nat → Value → Heap → Prop) (ρ' : Lo) (φ' : Ph) (σ' : Sg) (e : it = .ref I) (hI : ∀ A, A.handled = none → Itr w A target I fp wr items St Mid)
    (k : Ok w H0 sc n τ env A' ρ' φ' σ' s2) (m : Same s s2) (st : St 0 s2.heap) (hf : ∀ b ∈ fp, φ' b = none → Free τ env ρ' φ' σ' s2.heap b) (hw : ∀ b ∈ wr, φ' b = none) (hK : K items ρ' φ' σ') : ItPost w H0 sc n target τ env s A' K it s2
noncomputable def ItW (w : World) (H0 : Heap) (sc : Scope) (n : Nat) (e target : PySem.Expr) (ρ : Lo) (φ : Ph) (σ : Sg) (K : List Itm → Lo → Ph → Sg → Prop) : Prop :=
  ∀ τ env A s, Ok w H0 sc n τ env A ρ φ σ s → wpAny (model pw w) A (eval e env) (fun x s1 => wpAny (model pw w) A (pyIter x) (ItPost w H0 sc n target τ env s A K) (fun _ _ => False) s1) (fun _ _ => False) s
abbrev LoopK (φ : Ph) (P : Lo → Ph → Sg → Prop) (Q : Fl → Lo → Ph → Sg → Prop) : Fl → Lo → Ph → Sg → Prop := fun f ρ2 φ2 σ2 => match f with
    | .next => Le φ φ2 ∧ P ρ2 φ2 σ2
    | .cont => Le φ φ2 ∧ P ρ2 φ2 σ2
    | .brk => Q .next ρ2 φ2 σ2
    | .ret v => Q (.ret v) ρ2 φ2 σ2
abbrev BdK (w : World) (H0 : Heap) (sc : Scope) (n : Nat) (body : List Stmt) (Q : Fl → Lo → Ph → Sg → Prop) : Lo → Ph → Sg → Prop := fun ρ1 φ1 σ1 => XW w H0 sc n body ρ1 φ1 σ1 Q
noncomputable def Lp (w : World) (H0 : Heap) (sc : Scope) (n : Nat) (target : PySem.Expr) (body : List Stmt) : List Itm → Lo → Ph → Sg → (Fl → Lo → Ph → Sg → Prop) → Prop
  | [], ρ, φ, σ, Q => Q .next ρ φ σ
  | i :: is, ρ, φ, σ, Q => Asn w H0 sc n target i ρ φ σ (BdK w H0 sc n body (LoopK φ (fun ρ2 φ2 σ2 => Lp w H0 sc n target body is ρ2 φ2 σ2 Q) Q))
inductive LpI (w : World) (H0 : Heap) (sc : Scope) (n : Nat) (target : PySem.Expr) (body : List Stmt) (τ : Sg) (env : Env) (A : Around) (s : Shared) (fp wr : List Addr) (items : List Itm) (St : Nat → Heap → Prop) (Q : Fl → Lo → Ph → Sg → Prop) (N : Nat) (s' : Shared) : Prop
  | mk (i : Nat) (ρ : Lo) (φ : Ph) (σ : Sg) (k : Ok w H0 sc n τ env A ρ φ σ s') (m : Same s s') (st : St i s'.heap) (hf : ∀ b ∈ fp, φ b = none → Free τ env ρ φ σ s'.heap b) (hw : ∀ b ∈ wr, φ b = none) (hi : i ≤ items.length) (hL : Lp w H0 sc n target body (items.drop i) ρ φ σ Q) (e : N = items.length - i) : LpI w H0 sc n target body τ env A s fp wr items St Q N s'
theorem S_for : ∀ {sc : Scope} {n : Nat} {ρ : Lo} {φ : Ph} {σ : Sg} {e target : PySem.Expr} {body : List Stmt} {pos : Pos} {Q : Fl → Lo → Ph → Sg → Prop} (hs : ∀ env x, foldedSetIterable e env x = pure x) (h : ItW w H0 sc n e target ρ φ σ fun items ρ φ σ => Lp w H0 sc n target body items ρ φ σ Q), SW w H0 sc n (.For target e body [] pos) ρ φ σ Q := by
  apply @Mine.hk6; generalize ca1 (cx _) = sc, ca2 (cx _) = n, ca3 (cx _) = ρ, ca4 (cx _) = φ, ca5 (cx _) = σ, cz6 (cx _) = e
  apply @Mine.hk4; generalize ca1 (cx _) = target, ca2 (cx _) = body, ca3 (cx _) = pos, cz4 (cx _) = Q
  intro hs h
  refine @Mine.hk4 _ _ _ _ _ _ neAround neShared _ ?_; generalize ca1 (cx _) = τ, ca2 (cx _) = env, ca3 (cx _) = A, cz4 (cx _) = s
  intro k
  refine wpAny_For (wpAny_mono (h τ env A s k) (fun x s1 h1 => wpAny_mono h1 (fun it s2 hPt => ?_) fun _ _ x => x) fun _ _ x => x) (hs env)
  obtain ⟨I, fp, wr, items, St, Mid, ρ1, φ1, σ1, e1, hI, k2, m2, st, hf, hw, hL⟩ := hPt
  subst e1
  have W0 := hI A k.room.2.2
  refine codeAny_forLoop_any (LpI w H0 sc n target body τ env A s fp wr items St Q) ?_ items.length
    ⟨0, ρ1, φ1, σ1, k2, m2, st, hf, hw, Nat.zero_le _, hL, rfl⟩
  rintro N s3 ⟨i, ρ3, φ3, σ3, k3, m3, st3, hf3, hw3, hi, hL3, rfl⟩
  have hfw : ∀ b ∈ wr, Free τ env ρ3 φ3 σ3 s3.heap b := fun b hb => hf3 b (W0.sub b hb) (hw3 b hb)
  cases hd : items[i]? with
  | none =>
    have hie : i = items.length := by
      have := List.getElem?_eq_none_iff.mp hd; omega
    subst hie
    rw [List.drop_length] at hL3
    refine W0.done s3 _ _ st3 fun h' tk hk => ?_
    refine wpAny_execs_nil ?_
    exact ⟨.next, ρ3, φ3, σ3, .next, k3.outside (s' := { s3 with heap := h', toks := tk }) hfw hk, m3, hL3⟩
  | some it =>
    have hlt := (List.getElem?_eq_some_iff.mp hd).1
    have hdr : items.drop i = it :: items.drop (i + 1) := by
      rw [List.drop_eq_getElem_cons hlt]; congr 1; exact (List.getElem?_eq_some_iff.mp hd).2
    rw [hdr] at hL3
    refine W0.item i it s3 _ _ hd st3 fun v h' tk hm hk => ?_
    have k4 := k3.outside (s' := { s3 with heap := h', toks := tk }) hfw hk
    refine wpAny_mono (W0.go i it v _ (fun _ s' => ∃ h2, s' = { s3 with heap := h2, toks := tk } ∧ St (i + 1) h2 ∧ ItmAt h2 it v ∧ ∀ b o, b ∉ wr → h'.get? b = some o → h2.get? b = some o) (fun _ _ => False) hd hm fun h2 a b c => ⟨h2, rfl, a, b, c⟩) (fun _ s5 hPt => ?_) fun _ _ x => x.elim
    obtain ⟨h2, e5, st5, it5, hk5⟩ := hPt
    subst e5
    have hk52 : ∀ b o, b ∉ wr → s3.heap.get? b = some o → h2.get? b = some o := fun b o hb e => hk5 b o hb (hk b o hb e)
    have k5 := k3.outside (s' := { s3 with heap := h2, toks := tk }) hfw hk52
    have hex : ∀ b ∈ fp, φ3 b = none → ∃ o, h2.get? b = some o := fun b hb _ => W0.has _ _ st5 b hb
    have hf5 : ∀ b ∈ fp, φ3 b = none → Free τ env ρ3 φ3 σ3 h2 b := fun b hb hn => let f := hf3 b hb hn; ⟨f.1, f.2.1, f.2.2.1, f.2.2.2.1, hex b hb hn, f.2.2.2.2.2⟩
    have k6 := k5.guard hf5
    refine Post.runE (Asn.run hL3 k6 it5) (fun _ s6 _ ρ6 φ6 σ6 _ k7 m7 h7 => Post.runE (h7 _ env A s6 k7) (fun f s8 fl ρ8 φ8 σ8 r8 k8 m8 h8 => ?_))
    have k9 := Ok.unguardOk hf5 k8
    have m9 : Same s s8 := m3.trans (⟨rfl, rfl⟩ : Same s3 { s3 with heap := h2, toks := tk }) |>.trans (m7.trans m8)
    have step : Le φ3 φ8 ∧ Lp w H0 sc n target body (items.drop (i + 1)) ρ8 φ8 σ8 Q → ∃ m, m < items.length - i ∧ LpI w H0 sc n target body τ env A s fp wr items St Q m s8 := fun hPt => by
      obtain ⟨l, hL⟩ := hPt
      have u := Ok.unguard k5 hf5 k8 l
      have hn8 : ∀ b ∈ fp, φ8 b = none → φ3 b = none := fun b hb e => by
        cases q : φ3 b with
        | none => rfl
        | some o => rw [l _ _ q] at e; cases e
      exact ⟨items.length - (i + 1), by omega, i + 1, ρ8, φ8, σ8, k9, m9, W0.frame _ _ _ st5 u.1, fun b hb e => u.2 b hb (hn8 b hb e), fun b hb => (u.2 b (W0.sub b hb) (hw3 b hb)).2.2.2.1, hlt, hL, rfl⟩
    cases r8 with
    | next => exact step h8
    | cont => exact step h8
    | brk => exact ⟨.next, ρ8, φ8, σ8, .next, k9, m9, h8⟩
    | ret hv => exact ⟨_, ρ8, φ8, σ8, .ret hv, k9, m9, h8⟩
end
end Mine
namespace Mine
section
variable {sc : Scope} {n : Nat} {ρ : Lo} {φ : Ph} {σ : Sg} {K : List Itm → Lo → Ph → Sg → Prop}
theorem Ok.freeAt {τ : Sg} {env : Env} {A : Around} {s : Shared} (k : Ok w H0 sc n τ env A ρ φ σ s) {a : Addr} (ha : s.heap.objs.size ≤ a) {h' : Heap} {o : Obj} (ho : h'.get? a = some o) : Free τ env ρ φ σ h' a :=
  let f := k.freshAt ha; ⟨f.1, f.2.1, f.2.2.1, f.2.2.2, ⟨o, ho⟩, Nat.lt_of_lt_of_le k.hr.past ha⟩
theorem Ok.freeRaw {τ : Sg} {env : Env} {A : Around} {s : Shared} {σ1 : Sg} (k : Ok w H0 sc n τ env A ρ φ σ1 s) {b : Addr} {o : Obj} (h1 : σ1 b = some (.raw o)) (h2 : σ b = none) : Free τ env ρ φ σ s.heap b ∧ s.heap.get? b = some o := by
  obtain ⟨g1, o', g2, g3⟩ := k.hr.cells _ _ (k.full_sg h1)
  have g3 : o' = o := g3
  subst g3
  refine ⟨⟨k.dj2 b (by rw [h1]; rfl), ?_, h2, g1, ⟨o', g2⟩, k.hr.high _ _ (k.full_sg h1)⟩, g2⟩
  cases q : fr env ρ b with
  | none => rfl
  | some c => have := (k.dj1 b (by rw [q]; rfl)).2; rw [h1] at this; cases this
theorem Ok.addAt {τ : Sg} {env : Env} {A : Around} {s : Shared} (k : Ok w H0 sc n τ env A ρ φ σ s) {a : Addr} {o : Obj} {c : C} (f : Free τ env ρ φ σ s.heap a) (ho : s.heap.get? a = some o) (hc : CR w φ c o) : Ok w H0 sc n τ env A ρ φ (upd σ a c) s := by
  refine ⟨k.ok, k.room, fun b e => ?_, fun b e => ?_, ?_⟩
  · have d := k.dj1 b e
    have : b ≠ a := fun q => by subst q; rw [f.2.1] at e; cases e
    rw [upd_other this]; exact d
  · by_cases hb : b = a
    · subst hb; exact f.1
    · rw [upd_other hb] at e; exact k.dj2 b e
  · rw [jn_upd (jn_none.mpr ⟨f.1, f.2.1⟩)]
    have g := k.hr
    refine ⟨g.keep, g.root, fun b cb eb => ?_, fun b cb eb => ?_, g.big⟩
    · by_cases hb : b = a
      · subst hb; rw [upd_same] at eb; cases eb; exact ⟨f.2.2.2.1, o, ho, hc⟩
      · rw [upd_other hb] at eb; exact g.cells b cb eb
    · by_cases hb : b = a
      · subst hb; exact f.2.2.2.2.2
      · rw [upd_other hb] at eb; exact g.high b cb eb
theorem Free.upd {τ : Sg} {env : Env} {h : Heap} {a b : Addr} {c : C} (f : Free τ env ρ φ σ h b) (hne : b ≠ a) : Free τ env ρ φ (upd σ a c) h b := ⟨f.1, f.2.1, by rw [upd_other hne]; exact f.2.2.1, f.2.2.2⟩
noncomputable def Tgt (target : PySem.Expr) (vs : List V) : Prop := (∃ x p, target = .Name x p) ∨ ((∃ es kk pos, target = .Tuple es kk pos) ∧ ∀ u ∈ vs, ∃ t, u = .ref t)
inductive ListK (target : PySem.Expr) (K : List Itm → Lo → Ph → Sg → Prop) (v : V) (ρ : Lo) (φ : Ph) (σ : Sg) : Prop
  | mk (l : Addr) (vs : List V) (e : v = .ref l) (h : LstP φ l vs) (t : Tgt target vs) (q : K (vs.map .v) ρ φ σ) : ListK target K v ρ φ σ
inductive TupK (K : List Itm → Lo → Ph → Sg → Prop) (v : V) (ρ : Lo) (φ : Ph) (σ : Sg) : Prop
  | mk (l : Addr) (vs : List V) (e : v = .ref l) (h : Tup φ l vs) (q : K (vs.map .v) ρ φ σ) : TupK K v ρ φ σ
theorem It_list {e target : PySem.Expr} (h : EW w H0 sc n e ρ φ σ (ListK target K)) : ItW w H0 sc n e target ρ φ σ K := fun τ env A s k =>
  Post.run (h τ env A s k) (fun x s1 b1 ρ1 φ1 σ1 r1 k1 m1 hPt => by
    obtain ⟨l, vs, e1, hl, hr, hK⟩ := hPt
    subst e1; refine VR.refE r1 ?_
    obtain ⟨items, m, ho, hv⟩ := id hl
    have hL : s1.heap.get? l = some ⟨.type "list", none, .seq items m, #[]⟩ := k1.hr.keep _ _ ho
    have hIL : s1.heap.IsList l items := IsL.isList (show IsL s1.heap l items m from hL)
    refine wpAny_pyIter_list hIL ?_
    have hne : l ≠ s1.heap.objs.size := Nat.ne_of_lt (Heap.lt_size hL)
    have hI : (s1.heap.push { cls := .type "list_iterator", data := .fields #[.ref l, .int 0 0] }).get? s1.heap.objs.size = some { cls := .type "list_iterator", data := .fields #[.ref l, .int 0 0] } := Heap.get?_push_size _ rfl
    have k2 : Ok w H0 sc n τ env A ρ1 φ1 σ1 { s1 with heap := s1.heap.push { cls := .type "list_iterator", data := .fields #[.ref l, .int 0 0] } } := k1.grow fun b o e => Heap.get?_push_of_some _ e
    have hat : ∀ {i : Nat} {u : V}, vs[i]? = some u → ∃ y, items[i]? = some y ∧ VR u y := fun {i u} h1 => by
      obtain ⟨y, h3, h4⟩ := hv.get h1; exact ⟨y, by simpa using h3, h4⟩
    refine ⟨s1.heap.objs.size, [s1.heap.objs.size, l], [s1.heap.objs.size], vs.map .v, _, _, ρ1, φ1, σ1, rfl, fun A hA => Itr.ofWalks (Walks.list hA _ l hne items) (by rw [List.length_map, size_of hv]) (fun i it v h hi hp _ => ?_) (fun i h st b hb => ?_) (fun i v s Q E hp st hQ => ?_), k2, m1.trans ⟨rfl, rfl⟩, ⟨⟨_, hI, rfl, rfl⟩, hIL.push _⟩, fun b hb hn => ?_, fun b hb => ?_, hK⟩
    · rw [List.getElem?_map] at hi
      obtain ⟨u, h1, h2⟩ := Option.map_eq_some_iff.mp hi
      subst h2
      obtain ⟨y, h3, h4⟩ := hat h1
      rw [hp] at h3; cases h3; exact h4
    · simp at hb
      rcases hb with rfl | rfl
      · obtain ⟨o, ho, _⟩ := st.1; exact ⟨o, ho⟩
      · obtain ⟨o, ho, _⟩ := st.2; exact ⟨o, ho⟩
    · rcases hr with ⟨x, p, rfl⟩ | ⟨⟨es, kk, pos, rfl⟩, hrf⟩
      · exact wpAny_pure hQ
      · have hlt : i < vs.length := by
          have := (Array.getElem?_eq_some_iff.mp hp).1
          rw [size_of hv] at this; exact this
        obtain ⟨y, h3, h4⟩ := hat (List.getElem?_eq_getElem hlt)
        obtain ⟨t, ht⟩ := hrf _ (List.getElem_mem hlt)
        rw [ht] at h4
        rw [hp] at h3; cases h3; refine VR.refE h4 ?_
        exact wpAny_letOwnedTupleGo_listiter st.1 hQ
    · simp at hb
      rcases hb with rfl | rfl
      · exact k1.freeAt (Nat.le_refl _) hI
      · rw [ho] at hn; cases hn
    · simp at hb; subst hb
      exact (k1.freshAt (Nat.le_refl _)).2.2.2)
theorem It_tup {e : PySem.Expr} {x : Str} {p : Pos} (h : EW w H0 sc n e ρ φ σ (TupK K)) : ItW w H0 sc n e (.Name x p) ρ φ σ K := fun τ env A s k =>
  Post.run (h τ env A s k) (fun x s1 b1 ρ1 φ1 σ1 r1 k1 m1 hPt => by
    obtain ⟨l, vs, e1, hl, hK⟩ := hPt
    subst e1; refine VR.refE r1 ?_
    obtain ⟨items, m, ho, hv⟩ := id hl
    have hL : s1.heap.get? l = some ⟨.type "tuple", none, .seq items m, #[]⟩ := k1.hr.keep _ _ ho
    have hIL : s1.heap.IsTuple l items := ⟨_, hL, rfl, m, rfl⟩
    refine wpAny_pyIter_tuple hIL ?_
    have hne : l ≠ s1.heap.objs.size := Nat.ne_of_lt (Heap.lt_size hL)
    have hI : (s1.heap.push { cls := .type "tuple_iterator", data := .fields #[.ref l, .int 0 0] }).get? s1.heap.objs.size = some { cls := .type "tuple_iterator", data := .fields #[.ref l, .int 0 0] } := Heap.get?_push_size _ rfl
    have k2 : Ok w H0 sc n τ env A ρ1 φ1 σ1 { s1 with heap := s1.heap.push { cls := .type "tuple_iterator", data := .fields #[.ref l, .int 0 0] } } := k1.grow fun b o e => Heap.get?_push_of_some _ e
    refine ⟨s1.heap.objs.size, [s1.heap.objs.size, l], [s1.heap.objs.size], vs.map .v, _, _, ρ1, φ1, σ1, rfl, fun A hA => Itr.ofWalks (Walks.tuple hA _ l hne items) (by rw [List.length_map, size_of hv]) (fun i it v h hi hp _ => ?_) (fun i h st b hb => ?_) (fun i v s Q E hp st hQ => wpAny_pure hQ), k2, m1.trans ⟨rfl, rfl⟩, ⟨⟨_, hI, rfl, rfl⟩, hIL.push _⟩, fun b hb hn => ?_, fun b hb => ?_, hK⟩
    · rw [List.getElem?_map] at hi
      obtain ⟨u, h1, h2⟩ := Option.map_eq_some_iff.mp hi
      subst h2
      obtain ⟨y, h3, h4⟩ := hv.get h1
      have h3 : items[i]? = some y := by simpa using h3
      rw [hp] at h3; cases h3; exact h4
    · simp at hb
      rcases hb with rfl | rfl
      · obtain ⟨o, ho, _⟩ := st.1; exact ⟨o, ho⟩
      · obtain ⟨o, ho, _⟩ := st.2; exact ⟨o, ho⟩
    · simp at hb
      rcases hb with rfl | rfl
      · exact k1.freeAt (Nat.le_refl _) hI
      · rw [ho] at hn; cases hn
    · simp at hb; subst hb
      exact (k1.freshAt (Nat.le_refl _)).2.2.2)
inductive RangeO (k : Int) (o : Obj) : Prop
  | mk (t u v : Tok) (e : o = { cls := .type "range", dict := none, data := .fields #[.int 0 t, .int k u, .int 1 v], slots := #[] }) : RangeO k o
theorem B_range {k : Int} {Q : V → Lo → Ph → Sg → Prop} (q : ∀ r o, σ r = none → φ r = none → RangeO k o → Q (.ref r) ρ φ (upd σ r (.raw o))) : CallW w H0 sc n (.type "range") [.int k] ρ φ σ Q := fun xs hx => by
  cases hx with | cons h1 hx =>
  refine VRs.nilE hx ?_; refine VR.intE h1 (fun _ => ?_)
  intro τ env A s kk
  refine call_range_1 ?_
  obtain ⟨k2, e1, e2⟩ := kk.newAt (c := .raw { cls := .type "range", data := .fields #[.int 0 s.toks, .int k _, .int 1 (s.toks + 1)] }) (s' := { s with heap := s.heap.push { cls := .type "range", data := .fields #[.int 0 s.toks, .int k _, .int 1 (s.toks + 1)] }, toks := s.toks + 1 + 1 }) (Nat.le_refl _) (fun b o e => Heap.get?_push_of_some _ e) (Heap.get?_push_size _ rfl) rfl
  exact ⟨_, ρ, φ, _, .ref _, k2, ⟨rfl, rfl⟩, q _ _ e1 e2 ⟨_, _, _, rfl⟩⟩
inductive RangeK (K : List Itm → Lo → Ph → Sg → Prop) (v : V) (ρ : Lo) (φ : Ph) (σ1 : Sg) : Prop
  | mk (r : Addr) (o : Obj) (σ : Sg) (k : Nat) (e : v = .ref r) (e2 : σ1 = upd σ r (.raw o)) (h : σ r = none) (ho : RangeO k o) (hz : k ≤ 900) (q : K ((List.range k).map fun (i : Nat) => .v (.int (i : Int))) ρ φ σ) : RangeK K v ρ φ σ1
theorem It_range {e : PySem.Expr} {x : Str} {p : Pos} (h : EW w H0 sc n e ρ φ σ (RangeK K)) : ItW w H0 sc n e (.Name x p) ρ φ σ K := fun τ env A s k =>
  Post.run (h τ env A s k) (fun x s1 b1 ρ1 φ1 σ1 r1 k1 m1 hPt => by
    obtain ⟨r, o, σ2, kk, e1, e2, hr, ⟨t, u, v, ho⟩, hz, hK⟩ := hPt
    subst e1 e2 ho; refine VR.refE r1 ?_
    have hR := (k1.freeRaw (σ := σ2) (upd_same _ _ _) hr).2
    have hsub : ∀ a c, σ2 a = some c → upd σ2 r (.raw { cls := .type "range", dict := none, data := .fields #[.int 0 t, .int kk u, .int 1 v], slots := #[] }) a = some c := fun a c e => by
      rw [upd_other]; exact e
      intro q; subst q; rw [hr] at e; cases e
    have hrs : Builtin.Range.rangeSize 0 (kk : Int) 1 = kk := by
      unfold Builtin.Range.rangeSize
      rw [if_pos (by decide)]
      split
      · rw [Int.ediv_one]; lia
      · lia
    refine wpAny_pyIter_range hR ?_ ?_
    · unfold Builtin.Range.small
      rw [hrs]
      simp [Builtin.Range.rangeFitsLong]
      lia
    · rw [hrs]
      have k2 : Ok w H0 sc n τ env A ρ1 φ1 σ2 { s1 with heap := s1.heap.push { cls := .type "range_iterator", data := .fields #[rawInt 0, rawInt (kk : Int), rawInt 1] } } := (k1.subσ hsub).grow fun b o e => Heap.get?_push_of_some _ e
      have hI : (s1.heap.push { cls := .type "range_iterator", data := .fields #[rawInt 0, rawInt (kk : Int), rawInt 1] }).get? s1.heap.objs.size = some _ := Heap.get?_push_size _ rfl
      refine ⟨s1.heap.objs.size, [s1.heap.objs.size], [s1.heap.objs.size], (List.range kk).map fun (i : Nat) => .v (.int (i : Int)), _, _, ρ1, φ1, σ2, rfl, fun A hA => Itr.ofWalks (Walks.range hA _ 0 1 kk) (by simp) (fun i it v h hi hp _ => ?_) (fun i h st b hb => ?_) (fun i v s Q E hp st hQ => wpAny_pure hQ), k2, m1.trans ⟨rfl, rfl⟩, ?_, fun b hb hn => ?_, fun b hb => ?_, hK⟩
      · rw [List.getElem?_map] at hi
        obtain ⟨j, h1, h2⟩ := Option.map_eq_some_iff.mp hi
        subst h2
        obtain ⟨t, rfl⟩ := hp
        have hj := List.getElem?_eq_some_iff.mp h1
        have : j = i := by have := hj.2; simp at this; exact this.symm
        subst this
        rw [show (0 : Int) + (j : Nat) * 1 = j by lia]
        exact .int _ _
      · simp at hb; subst hb; exact ⟨_, st⟩
      · simpa using hI
      · simp at hb; subst hb; exact (k1.subσ hsub).freeAt (Nat.le_refl _) hI
      · simp at hb; subst hb; exact (k1.freshAt (Nat.le_refl _)).2.2.2)
inductive EnumAt (φ : Ph) (σ : Sg) (e it l : Addr) : Prop
  | mk (o1 o2 : Obj) (h1 : σ it = some (.raw o1)) (h2 : σ e = some (.raw o2)) (h3 : it ≠ e) (h4 : o1.cls = .type "list_iterator") (h5 : o1.data = .fields #[.ref l, .int (0 : Nat) 0])
    (h6 : o2 = { cls := .type "enumerate", dict := none, data := .fields #[.none, .bool false, .ref it, rawInt 0, .none, .none], slots := #[] }) : EnumAt φ σ e it l
theorem B_enum {l : Addr} {vs : List V} {Q : V → Lo → Ph → Sg → Prop} (hl : LstP φ l vs) (q : ∀ e it σ', σ e = none → σ it = none → φ e = none → φ it = none → EnumAt φ σ' e it l → (∀ a, a ≠ e → a ≠ it → σ' a = σ a) → Q (.ref e) ρ φ σ') : CallW w H0 sc n (.type "enumerate") [.ref l] ρ φ σ Q := fun xs hx => by
  cases hx with | cons h1 hx =>
  refine VRs.nilE hx ?_; refine VR.refE h1 ?_
  intro τ env A s kk
  obtain ⟨items, m, ho, hv⟩ := hl
  refine call_enumerate_1 (kk.hr.keep _ _ ho) fun h' he hi hsz hk => ?_
  obtain ⟨oi, hi1, hi2, hi3⟩ := hi
  have k1 := kk.grow (s' := { s with heap := h' }) hk
  have f1 : Free τ env ρ φ σ h' s.heap.objs.size := kk.freeAt (Nat.le_refl _) hi1
  have f2 : Free τ env ρ φ σ h' (s.heap.objs.size + 1) := kk.freeAt (Nat.le_succ _) he
  have hne : s.heap.objs.size ≠ s.heap.objs.size + 1 := by lia
  have k3 := (k1.addAt f1 hi1 (c := .raw oi) rfl).addAt (f2.upd hne.symm) he (c := .raw _) rfl
  refine ⟨_, ρ, φ, _, .ref _, k3, ⟨rfl, rfl⟩, q _ s.heap.objs.size _ f2.2.2.1 f1.2.2.1 f2.2.2.2.1 f1.2.2.2.1 ⟨oi, _, ?_, upd_same _ _ _, hne, hi2, hi3, rfl⟩ fun a h1 h2 => ?_⟩
  · rw [upd_other hne, upd_same]
  · rw [upd_other h1, upd_other h2]
noncomputable def enumV : Nat → List V → List (List V)
  | _, [] => []
  | i, v :: vs => [.int i, v] :: enumV (i + 1) vs
theorem enumV_len (vs : List V) : ∀ i, (enumV i vs).length = vs.length := by
  induction vs with
  | nil => intro i; rfl
  | cons v r ih => intro i; simp [enumV, ih]
theorem enumV_get : ∀ (vs : List V) (j i : Nat) (ls : List V), (enumV j vs)[i]? = some ls → ∃ v, vs[i]? = some v ∧ ls = [.int ((j + i : Nat) : Int), v] := by
  intro vs
  induction vs with
  | nil => intro j i ls h; simp [enumV] at h
  | cons v r ih =>
    intro j i ls h
    cases i with
    | zero => simp [enumV] at h; exact ⟨v, rfl, h.symm⟩
    | succ i =>
      simp [enumV] at h
      obtain ⟨u, h1, h2⟩ := ih _ _ _ h
      refine ⟨u, by simpa using h1, ?_⟩
      rw [h2]; congr 3; lia
inductive EnumK (K : List Itm → Lo → Ph → Sg → Prop) (v : V) (ρ : Lo) (φ : Ph) (σ1 : Sg) : Prop
  | mk (ea it l : Addr) (vs : List V) (σ : Sg) (e : v = .ref ea) (h : EnumAt φ σ1 ea it l) (hs : ∀ a c, σ a = some c → σ1 a = some c) (h1 : σ ea = none) (h2 : σ it = none) (hl : LstP φ l vs) (q : K ((enumV 0 vs).map .t) ρ φ σ) : EnumK K v ρ φ σ1
theorem It_enum {e : PySem.Expr} {es : List PySem.Expr} {kk : Nat} {p : Pos} (h : EW w H0 sc n e ρ φ σ (EnumK K)) :
    ItW w H0 sc n e (.Tuple es kk p) ρ φ σ K := fun τ env A s k =>
  Post.run (h τ env A s k) (fun x s1 b1 ρ1 φ1 σ1 r1 k1 m1 hPt => by
    obtain ⟨ea, it, l, vs, σ2, e1, ⟨o1, o2, g1, g2, hne, c1, c2, c3⟩, hsub, n1, n2, ⟨items, m, ho, hv⟩, hK⟩ := hPt
    subst e1 c3; refine VR.refE r1 ?_
    have fe := k1.freeRaw (σ := σ2) g2 n1
    have fi := k1.freeRaw (σ := σ2) g1 n2
    have hL := k1.hr.keep _ _ ho
    have hl1 : l ≠ ea := fun q => by subst q; rw [fe.1.2.2.2.1] at ho; cases ho
    have hl2 : l ≠ it := fun q => by subst q; rw [fi.1.2.2.2.1] at ho; cases ho
    refine wpAny_pyIter_enum (i := 0) fe.2 ?_
    refine ⟨ea, [ea, it, l], [ea, it], (enumV 0 vs).map .t, _, _, ρ1, φ1, σ2, rfl, fun A hA => Itr.ofU (WalksT.enumerate hA ea it l (Ne.symm hne) hl1 hl2 items).toU (by rw [enumV_len, size_of hv]) (fun i h st b hb => ?_) fun i ls vals hi hp => ?_, k1.subσ hsub, m1, ⟨⟨.none, fe.2⟩, ⟨_, fi.2, c1, c2⟩, IsL.isList (show IsL s1.heap l items m from hL)⟩, fun b hb hn => ?_, fun b hb => ?_, hK⟩
    · simp at hb
      rcases hb with rfl | rfl | rfl
      · obtain ⟨_, e⟩ := st.1; exact ⟨_, e⟩
      · obtain ⟨o, e, _⟩ := st.2.1; exact ⟨o, e⟩
      · obtain ⟨o, e, _⟩ := st.2.2; exact ⟨o, e⟩
    · obtain ⟨v, h1, h2⟩ := enumV_get _ _ _ _ hi
      obtain ⟨t, x, h3, h4⟩ := hp
      subst h2 h4
      obtain ⟨y, h5, h6⟩ := hv.get h1
      have h5 : items[i]? = some y := by simpa using h5
      rw [h3] at h5; cases h5
      rw [Nat.zero_add]
      exact .cons (.int _ _) (.cons h6 .nil)
    · simp at hb
      rcases hb with rfl | rfl | rfl
      · exact fe.1
      · exact fi.1
      · rw [ho] at hn; cases hn
    · simp at hb
      rcases hb with rfl | rfl
      · exact fe.1.2.2.2.1
      · exact fi.1.2.2.2.1)
noncomputable def zipO (z : Addr) : Obj := { cls := .type "zip", dict := none, data := .fields #[.none, .bool false, .bool false, .ref (z + 2), .ref (z + 3)], slots := #[] }
noncomputable def pairO (a b : Value) : Obj := { cls := .type "tuple", data := .seq #[a, b] }
inductive ZipS (φ : Ph) (σ σ' : Sg) (z l1 l2 : Addr) : Prop
  | mk (o1 o2 : Obj) (h1 : ∀ j, j < 5 → σ (z + j) = none) (h2 : ∀ a c, σ a = some c → σ' a = some c) (h3 : σ' z = some (.raw o1)) (h4 : σ' (z + 1) = some (.raw o2))
    (h5 : σ' (z + 2) = some (.raw (pairO (.ref z) (.ref (z + 1))))) (h6 : σ' (z + 3) = some (.raw (pairO .none .none))) (h7 : σ' (z + 4) = some (.raw (zipO z)))
    (h8 : o1.cls = .type "list_iterator") (h9 : o1.data = .fields #[.ref l1, .int (0 : Nat) 0]) (h10 : o2.cls = .type "list_iterator") (h11 : o2.data = .fields #[.ref l2, .int (0 : Nat) 0]) : ZipS φ σ σ' z l1 l2
theorem B_zip : ∀ {sc : Scope} {n : Nat} {ρ : Lo} {φ : Ph} {σ : Sg} {l1 l2 : Addr} {vs ws : List V} {Q : V → Lo → Ph → Sg → Prop} (hl1 : LstP φ l1 vs) (hl2 : LstP φ l2 ws) (q : ∀ z σ', ZipS φ σ σ' z l1 l2 → Q (.ref (z + 4)) ρ φ σ'), CallW w H0 sc n (.type "zip") [.ref l1, .ref l2] ρ φ σ Q := by
  apply @Mine.hk6; generalize ca1 (cx _) = sc, ca2 (cx _) = n, ca3 (cx _) = ρ, ca4 (cx _) = φ, ca5 (cx _) = σ, cz6 (cx _) = l1
  apply @Mine.hk4; generalize ca1 (cx _) = l2, ca2 (cx _) = vs, ca3 (cx _) = ws, cz4 (cx _) = Q
  intro hl1 hl2 q
  intro xs hx
  cases hx with | cons h1 hx => cases hx with | cons h2 hx =>
  refine VRs.nilE hx ?_; refine VR.refE h1 ?_; refine VR.refE h2 ?_
  intro τ env A s kk
  obtain ⟨items, m, ho, hv⟩ := hl1
  obtain ⟨items2, m2, ho2, hv2⟩ := hl2
  refine call_zip_2 (IsL.isList (show IsL s.heap l1 items m from kk.hr.keep _ _ ho)) (IsL.isList (show IsL s.heap l2 items2 m2 from kk.hr.keep _ _ ho2)) fun h' hz hTI hTO hi1 hi2 hsz hk => ?_
  obtain ⟨o1, a1, a2, a3⟩ := hi1
  obtain ⟨o2, b1, b2, b3⟩ := hi2
  generalize hzz : s.heap.objs.size = z at *
  have fr0 : ∀ j o, h'.get? (z + j) = some o → Free τ env ρ φ σ h' (z + j) := fun j o e => kk.freeAt (by lia) e
  have ne : ∀ {i j : Nat}, i ≠ j → z + i ≠ z + j := fun h q => h (Nat.add_left_cancel q)
  have k1 := kk.grow (s' := { s with heap := h' }) hk
  have k2 := k1.addAt (fr0 0 _ a1) a1 (c := .raw o1) rfl
  have k3 := k2.addAt ((fr0 1 _ b1).upd (ne (by decide))) b1 (c := .raw o2) rfl
  have k4 := k3.addAt (((fr0 2 _ hTI).upd (ne (by decide))).upd (ne (by decide))) hTI (c := .raw (pairO (.ref z) (.ref (z + 1)))) rfl
  have k5 := k4.addAt ((((fr0 3 _ hTO).upd (ne (by decide))).upd (ne (by decide))).upd (ne (by decide))) hTO (c := .raw (pairO .none .none)) rfl
  have k6 := k5.addAt (((((fr0 4 _ hz).upd (ne (by decide))).upd (ne (by decide))).upd (ne (by decide))).upd (ne (by decide))) hz (c := .raw (zipO z)) rfl
  have hn : ∀ j, σ (z + j) = none := fun j => (kk.freshAt (a := z + j) (by lia)).2.2.1
  refine ⟨_, ρ, φ, _, .ref _, k6, ⟨rfl, rfl⟩, q z _ ⟨o1, o2, fun j _ => hn j, fun a c e => ?_, ?_, ?_, ?_, ?_, ?_, a2, a3, b2, b3⟩⟩
  · have : ∀ j, a ≠ z + j := fun j q => by subst q; rw [hn j] at e; cases e
    rw [upd_other (this 4), upd_other (this 3), upd_other (this 2), upd_other (this 1), upd_other (this 0)]; exact e
  · rw [upd_other (show z ≠ z + 4 by lia), upd_other (show z ≠ z + 3 by lia), upd_other (show z ≠ z + 2 by lia), upd_other (show z ≠ z + 1 by lia)]; exact upd_same _ _ _
  · rw [upd_other (ne (by decide)), upd_other (ne (by decide)), upd_other (ne (by decide)), upd_same]
  · rw [upd_other (ne (by decide)), upd_other (ne (by decide)), upd_same]
  · rw [upd_other (ne (by decide)), upd_same]
  · rw [upd_same]
noncomputable def zipV : List V → List V → List (List V)
  | v :: vs, u :: us => [v, u] :: zipV vs us
  | _, _ => []
theorem zipV_len : ∀ (vs us : List V), (zipV vs us).length = min vs.length us.length
  | [], us => by simp [zipV]
  | v :: vs, [] => by simp [zipV]
  | v :: vs, u :: us => by simp [zipV, zipV_len vs us]
theorem zipV_get : ∀ (vs us : List V) (i : Nat) (ls : List V), (zipV vs us)[i]? = some ls → ∃ v u, vs[i]? = some v ∧ us[i]? = some u ∧ ls = [v, u]
  | [], us, i, ls, h => by simp [zipV] at h
  | v :: vs, [], i, ls, h => by simp [zipV] at h
  | v :: vs, u :: us, i, ls, h => by
    cases i with
    | zero => simp [zipV] at h; exact ⟨v, u, rfl, rfl, h.symm⟩
    | succ i => simp [zipV] at h; simpa using zipV_get vs us i ls h
inductive ZipK (K : List Itm → Lo → Ph → Sg → Prop) (v : V) (ρ : Lo) (φ : Ph) (σ1 : Sg) : Prop
  | mk (z : Nat) (l1 l2 : Addr) (vs us : List V) (σ : Sg) (e : v = .ref (z + 4)) (h : ZipS φ σ σ1 z l1 l2) (h1 : LstP φ l1 vs) (h2 : LstP φ l2 us) (q : K ((zipV vs us).map .t) ρ φ σ) : ZipK K v ρ φ σ1
theorem It_zip {e : PySem.Expr} {es : List PySem.Expr} {kk : Nat} {p : Pos} (h : EW w H0 sc n e ρ φ σ (ZipK K)) :
    ItW w H0 sc n e (.Tuple es kk p) ρ φ σ K := fun τ env A s k =>
  Post.run (h τ env A s k) (fun x s1 b1 ρ1 φ1 σ1 r1 k1 m1 hPt => by
    obtain ⟨z, l1, l2, vs, us, σ2, e1, ⟨o1, o2, hn, hsub, s0, s1', s2, s3, s4, c1, c2, c3, c4⟩, ⟨items, m, ho, hv⟩, ⟨items2, m2, ho2, hv2⟩, hK⟩ := hPt
    subst e1; refine VR.refE r1 ?_
    have f0 := k1.freeRaw (σ := σ2) s0 (hn 0 (by decide))
    have f1 := k1.freeRaw (σ := σ2) s1' (hn 1 (by decide))
    have f2 := k1.freeRaw (σ := σ2) s2 (hn 2 (by decide))
    have f3 := k1.freeRaw (σ := σ2) s3 (hn 3 (by decide))
    have f4 := k1.freeRaw (σ := σ2) s4 (hn 4 (by decide))
    have hL := k1.hr.keep _ _ ho
    have hL2 := k1.hr.keep _ _ ho2
    have ne : ∀ {i j : Nat}, i ≠ j → z + i ≠ z + j := fun h q => h (Nat.add_left_cancel q)
    have out : ∀ {l b : Addr} {o : Obj}, φ1 l = some o → φ1 b = none → l ≠ b := fun h h' q => by subst q; rw [h'] at h; cases h
    have D : ZipApart (z + 4) (z + 2) (z + 3) z (z + 1) l1 l2 := ⟨ne (by decide), ne (by decide), ne (i := 0) (by decide), ne (by decide), ne (by decide), ne (j := 0) (by decide), ne (by decide), ne (j := 0) (by decide), ne (by decide), ne (i := 0) (by decide),
      out ho f4.1.2.2.2.1, out ho f3.1.2.2.2.1, out ho f0.1.2.2.2.1, out ho f1.1.2.2.2.1, out ho2 f4.1.2.2.2.1, out ho2 f3.1.2.2.2.1, out ho2 f0.1.2.2.2.1, out ho2 f1.1.2.2.2.1⟩
    refine wpAny_pyIter_zip f4.2 ?_
    refine ⟨z + 4, [z + 4, z + 2, z + 3, z, z + 1, l1, l2], [z + 4, z + 3, z, z + 1], (zipV vs us).map .t, _, _, ρ1, φ1, σ2, rfl, fun A hA => Itr.ofU (WalksT.zip2 hA _ _ _ _ _ _ _ D items items2).toU (by rw [zipV_len, size_of hv, size_of hv2]) (fun i h st b hb => ?_) fun i ls vals hi hp => ?_, k1.subσ hsub, m1,
      ⟨f4.2, f2.2, ⟨.none, .none, f3.2⟩, ⟨_, f0.2, c1, c2⟩, ⟨_, f1.2, c3, c4⟩, IsL.isList (show IsL s1.heap l1 items m from hL), IsL.isList (show IsL s1.heap l2 items2 m2 from hL2)⟩, fun b hb hnn => ?_, fun b hb => ?_, hK⟩
    · obtain ⟨t1, t2, ⟨_, _, t3⟩, ⟨_, t4, _⟩, ⟨_, t5, _⟩, ⟨_, t6, _⟩, ⟨_, t7, _⟩⟩ := st
      simp at hb
      rcases hb with rfl | rfl | rfl | rfl | rfl | rfl | rfl
      · exact ⟨_, t1⟩
      · exact ⟨_, t2⟩
      · exact ⟨_, t3⟩
      · exact ⟨_, t4⟩
      · exact ⟨_, t5⟩
      · exact ⟨_, t6⟩
      · exact ⟨_, t7⟩
    · obtain ⟨v, u, h1, h2, h3⟩ := zipV_get _ _ _ _ hi
      obtain ⟨x, y, q1, q2, q3⟩ := hp
      subst h3 q3
      obtain ⟨y1, h5, h6⟩ := hv.get h1
      obtain ⟨y2, h7, h8⟩ := hv2.get h2
      have h5 : items[i]? = some y1 := by simpa using h5
      have h7 : items2[i]? = some y2 := by simpa using h7
      rw [q1] at h5; cases h5
      rw [q2] at h7; cases h7
      exact .cons h6 (.cons h8 .nil)
    · simp at hb
      rcases hb with rfl | rfl | rfl | rfl | rfl | rfl | rfl
      · exact f4.1
      · exact f2.1
      · exact f3.1
      · exact f0.1
      · exact f1.1
      · rw [ho] at hnn; cases hnn
      · rw [ho2] at hnn; cases hnn
    · simp at hb
      rcases hb with rfl | rfl | rfl | rfl
      · exact f4.1.2.2.2.1
      · exact f3.1.2.2.2.1
      · exact f0.1.2.2.2.1
      · exact f1.1.2.2.2.1)
inductive DictK (w : World) (K : List Itm → Lo → Ph → Sg → Prop) (v : V) (ρ : Lo) (φ : Ph) (σ : Sg) : Prop
  | mk (d : Addr) (o : Obj) (xs : List (Scal × V)) (kvs : List (Scal × Value)) (e : v = .ref d) (h : φ d = some o) (h1 : sysModules < d) (h2 : o.IsDictOf (scalKind pw w) kvs) (h3 : KVs xs kvs) (q : K (xs.map fun kv => .v (scV kv.1)) ρ φ σ) : DictK w K v ρ φ σ
theorem It_dict {e : PySem.Expr} {x : Str} {p : Pos} (h : EW w H0 sc n e ρ φ σ (DictK w K)) : ItW w H0 sc n e (.Name x p) ρ φ σ K := fun τ env A s k =>
  Post.run (h τ env A s k) (fun x s1 b1 ρ1 φ1 σ1 r1 k1 m1 hPt => by
    obtain ⟨d, o, xs, kvs, e1, ho, hd, hD, hv, hK⟩ := hPt
    subst e1; refine VR.refE r1 ?_
    have hO := k1.hr.keep _ _ ho
    obtain ⟨ep, hA⟩ := (Heap.dictOf_iff.mpr ⟨o, hO, hD⟩ : s1.heap.DictOf (scalKind pw w) d kvs).dictAt
    refine wpAny_pyIter_dict (beq_false_of_ne (Nat.ne_of_gt hd)) hA ?_
    have hne : d ≠ s1.heap.objs.size := Nat.ne_of_lt (Heap.lt_size hO)
    have hI : (s1.heap.push { cls := .type "dict_keyiterator", data := .fields #[.ref d, .int 0 0, .int kvs.length 0, .int ep 0] }).get? s1.heap.objs.size = some { cls := .type "dict_keyiterator", data := .fields #[.ref d, .int 0 0, .int kvs.length 0, .int ep 0] } := Heap.get?_push_size _ rfl
    have k2 : Ok w H0 sc n τ env A ρ1 φ1 σ1 { s1 with heap := s1.heap.push { cls := .type "dict_keyiterator", data := .fields #[.ref d, .int 0 0, .int kvs.length 0, .int ep 0] } } := k1.grow fun b o e => Heap.get?_push_of_some _ e
    refine ⟨s1.heap.objs.size, [s1.heap.objs.size, d], [s1.heap.objs.size], xs.map fun kv => .v (scV kv.1), _, _, ρ1, φ1, σ1, rfl, fun A hA => Itr.ofWalks (Walks.dictKeys (knd := scalKind pw w) hA _ d hne kvs ep) (by rw [List.length_map, hv.length]) (fun i it v h hi hp _ => ?_) (fun i h st b hb => ?_) (fun i v s Q E hp st hQ => wpAny_pure hQ), k2, m1.trans ⟨rfl, rfl⟩, ⟨⟨_, hI, rfl, rfl⟩, hA.at' fun o e => Heap.get?_push_of_some _ e⟩, fun b hb hn => ?_, fun b hb => ?_, hK⟩
    · rw [List.getElem?_map] at hi
      obtain ⟨u, h1, h2⟩ := Option.map_eq_some_iff.mp hi
      subst h2
      obtain ⟨k', x', h3, h4⟩ := hp
      have key : ∀ {xs : List (Scal × V)} {kvs : List (Scal × Value)}, KVs xs kvs → ∀ {i : Nat} {u : Scal × V} {k' x'}, xs[i]? = some u → kvs[i]? = some (k', x') → u.1 = k' := by
        intro xs kvs h
        induction h with
        | nil => intro i u k' x' h; simp at h
        | cons _ _ ih =>
          intro i u k' x' h h'
          cases i with
          | zero => simp at h h'; subst h; exact h'.1
          | succ i => simp at h h'; exact ih h h'
      have := key hv h1 h3
      subst this
      have h4 := scIs_iff.mp h4
      show VR (scV u.1) v
      revert h4
      generalize u.1 = kk
      intro h4
      cases h4 with
      | str s t => exact .str s t
      | int i t => exact .int i t
    · simp at hb
      rcases hb with rfl | rfl
      · obtain ⟨o, ho, _⟩ := st.1; exact ⟨o, ho⟩
      · obtain ⟨o, _, ho, _⟩ := st.2; exact ⟨o, ho⟩
    · simp at hb
      rcases hb with rfl | rfl
      · exact k1.freeAt (Nat.le_refl _) hI
      · rw [ho] at hn; cases hn
    · simp at hb; subst hb
      exact (k1.freshAt (Nat.le_refl _)).2.2.2)
end
end Mine
namespace Mine
noncomputable def Sub (a b : Lo) : Prop := ∀ x v, a x = some v → b x = some v
theorem Sub.refl (a : Lo) : Sub a a := fun _ _ h => h
theorem Sub.set {a b : Lo} (h : Sub a b) {x : Str} {v : V} (hx : a x = none) : Sub a (setL b x v) := fun y u e => by
  unfold setL
  by_cases hy : y = x
  · subst hy; rw [hx] at e; cases e
  · rw [if_neg hy]; exact h y u e
theorem VRw.sub {a b : Option V} {y : Option Value} (h : VRw b y) (hs : ∀ v, a = some v → b = some v) : VRw a y := fun v e => h v (hs v e)
section
variable {sc : Scope} {n : Nat} {ρ : Lo} {φ : Ph} {σ : Sg}
set_option tactic.hygienic true in
theorem Ok.forget : ∀ {sc : Scope} {n : Nat} {ρ : Lo} {φ : Ph} {σ : Sg} {τ : Sg} {env : Env} {A : Around} {s : Shared} {ρ' : Lo} (k : Ok w H0 sc n τ env A ρ φ σ s) (h : Sub ρ' ρ), Ok w H0 sc n τ env A ρ' φ σ s := by
  apply @Mine.hk6; generalize ca1 (cx _) = sc, ca2 (cx _) = n, ca3 (cx _) = ρ, ca4 (cx _) = φ, ca5 (cx _) = σ, cz6 (cx _) = τ
  refine @Mine.hk4 _ _ _ _ _ neAround neShared _ _ ?_; generalize ca1 (cx _) = env, ca2 (cx _) = A, ca3 (cx _) = s, cz4 (cx _) = ρ'
  intro k h
  refine ⟨k.ok, k.room, fun a e => k.dj1 a (by rw [fr_some_iff env ρ ρ']; exact e), k.dj2, k.hr.keep, k.hr.root, fun a c e => ?_, fun a c e => ?_, k.hr.big⟩
  · cases q1 : τ a with
    | some c1 =>
      have : jn (jn τ (fr env ρ')) σ a = some c1 := jn_left (jn_left q1)
      rw [this] at e; cases e
      exact k.hr.cells a c (jn_left (jn_left q1))
    | none =>
      cases q2 : fr env ρ' a with
      | none =>
        refine k.hr.cells a c ?_
        unfold jn at e ⊢
        rw [q1, q2] at e
        rw [q1, fr_none q2]; exact e
      | some c1 =>
        have : jn (jn τ (fr env ρ')) σ a = some c1 := jn_left (jn_right q1 q2)
        rw [this] at e; cases e
        unfold fr at q2
        split at q2
        · rename_i ha
          subst ha
          cases q2
          obtain ⟨h1, o, h2, m', h3, h4⟩ := k.hr.cells _ _ (k.full_locals)
          refine ⟨h1, o, h2, m', h3, fun x => (h4 x).sub fun v e => ?_⟩
          dsimp only at e ⊢
          split at e
          · rename_i hk; rw [if_pos hk]; exact h x v e
          · cases e
        · rename_i ha
          obtain ⟨p, hp, hpc⟩ := Option.map_eq_some_iff.mp q2
          subst hpc
          have : fr env ρ a = some (.cell (ρ p.1)) := by unfold fr; rw [if_neg ha, hp]; rfl
          obtain ⟨h1, o, h2, v', h3, h4⟩ := k.hr.cells _ _ (jn_left (jn_right q1 this))
          exact ⟨h1, o, h2, v', h3, h4.sub (h p.1)⟩
  · have hs : (jn (jn τ (fr env ρ)) σ a).isSome = true := by
      have := fr_some_iff env ρ ρ' a
      unfold jn at e ⊢
      cases q1 : τ a with
      | some c1 => simp
      | none =>
        rw [q1] at e
        cases q2 : fr env ρ a with
        | some c2 => simp
        | none =>
          rw [q2] at this
          have q3 : fr env ρ' a = none := by
            cases q : fr env ρ' a with
            | none => rfl
            | some _ => rw [q] at this; cases this
          rw [q3] at e
          simp at e ⊢; rw [e]; rfl
    obtain ⟨c', hc'⟩ := Option.isSome_iff_exists.mp hs
    exact k.hr.high a c' hc'
noncomputable def relab (sc scope : Scope) : Scope := { scope with names := scope.names.map fun (n, k) => if (k == .free && sc.kind == .function && sc.names.lookup n == some .cell) then (n, .cell) else (n, k) }
noncomputable def capL (scope : Scope) (ρ : Lo) : Lo := fun x => if scope.names.lookup x = some .free then ρ x else none
noncomputable def cloF (cs : List (Str × Addr)) : List (Str × NameKind) → List (Str × Addr) → List (Str × Addr)
  | [], acc => acc
  | (x, k) :: r, acc => if k == .free then match cs.lookup x with
    | some c => cloF cs r ((x, c) :: acc)
    | none => cloF cs r acc
    else cloF cs r acc
theorem relabel_eq {sc scope : Scope} {env : Env} (h : env.scope = sc) : relabel scope env = relab sc scope := by
  unfold relabel relab Env.kindOf; rw [h]
theorem closure_for : ∀ {env : Env}, ∀ (names : List (Str × NameKind)) (acc : List (Str × Addr)), (∀ p ∈ names, p.2 = .free → ∃ c, env.cells.lookup p.1 = some c) →
    (forIn names acc fun (x : Str × NameKind) (cs : List (Str × Addr)) => if x.2 == .free then (do let c ← cellOf env x.1; pure (ForInStep.yield ((x.1, c) :: cs))) else pure (ForInStep.yield cs) : Sem (List (Str × Addr))) = pure (cloF env.cells names acc) := by
  apply @Mine.hk; generalize cx _ = env
  intro names
  induction names with
  | nil => intro acc _; rfl
  | cons p r ih =>
    intro acc h
    obtain ⟨x, k⟩ := p
    have hr := fun q hq => h q (List.mem_cons_of_mem _ hq)
    rw [List.forIn_cons]
    dsimp only
    unfold cloF
    by_cases hk : (k == NameKind.free) = true
    · rw [if_pos hk, if_pos hk]
      obtain ⟨c, hc⟩ := h (x, k) (.head _) (beq_iff_eq.mp hk)
      unfold cellOf
      dsimp only at hc
      rw [hc]
      simp only [pure_bind]
      exact ih _ hr
    · rw [if_neg hk, if_neg hk]
      simp only [pure_bind]
      exact ih _ hr
theorem closure_eq {scope : Scope} {env : Env} (h : ∀ p ∈ scope.names, p.2 = .free → ∃ c, env.cells.lookup p.1 = some c) : closureFor scope env = pure (cloF env.cells scope.names []) := by
  have := closure_for (env := env) scope.names [] h
  unfold closureFor
  show (forIn scope.names ([] : List (Str × Addr)) (fun (x : Str × NameKind) (cs : List (Str × Addr)) => if x.2 == .free then (do let c ← cellOf env x.1; pure (ForInStep.yield ((x.1, c) :: cs))) else pure (ForInStep.yield cs)) : Sem (List (Str × Addr))) >>= pure = _
  rw [this]; rfl
set_option tactic.hygienic true in
theorem clo_mem {cs : List (Str × Addr)} : ∀ (names : List (Str × NameKind)) (acc : List (Str × Addr)) (p : Str × Addr), p ∈ cloF cs names acc → p ∈ acc ∨ ((p.1, NameKind.free) ∈ names ∧ cs.lookup p.1 = some p.2) := by
  intro names
  induction names with
  | nil => intro acc p h; exact .inl h
  | cons q r ih =>
    intro acc p h
    obtain ⟨x, k⟩ := q
    unfold cloF at h
    split at h
    · rename_i hk
      have hk := beq_iff_eq.mp hk
      subst hk
      split at h
      · rename_i c hc
        rcases ih _ _ h with h | ⟨h1, h2⟩
        · rcases List.mem_cons.mp h with rfl | h
          · exact .inr ⟨.head _, hc⟩
          · exact .inl h
        · exact .inr ⟨.tail _ h1, h2⟩
      · rcases ih _ _ h with h | ⟨h1, h2⟩
        · exact .inl h
        · exact .inr ⟨.tail _ h1, h2⟩
    · rcases ih _ _ h with h | ⟨h1, h2⟩
      · exact .inl h
      · exact .inr ⟨.tail _ h1, h2⟩
theorem clo_acc {cs : List (Str × Addr)} : ∀ (names : List (Str × NameKind)) (acc : List (Str × Addr)) (p : Str × Addr), p ∈ acc → p ∈ cloF cs names acc := by
  intro names
  induction names with
  | nil => intro acc p h; exact h
  | cons q r ih =>
    intro acc p h
    obtain ⟨x, k⟩ := q
    unfold cloF
    split
    · split
      · exact ih _ _ (.tail _ h)
      · exact ih _ _ h
    · exact ih _ _ h
theorem clo_has {cs : List (Str × Addr)} : ∀ (names : List (Str × NameKind)) (acc : List (Str × Addr)) (x : Str) (c : Addr), (x, NameKind.free) ∈ names → cs.lookup x = some c → (x, c) ∈ cloF cs names acc := by
  intro names
  induction names with
  | nil => intro acc x c h; cases h
  | cons q r ih =>
    intro acc x c h hc
    obtain ⟨y, k⟩ := q
    unfold cloF
    rcases List.mem_cons.mp h with e | h
    · cases e
      rw [if_pos (by decide), hc]
      exact clo_acc _ _ _ (.head _)
    · split
      · split
        · exact ih _ _ _ h hc
        · exact ih _ _ _ h hc
      · exact ih _ _ _ h hc
set_option tactic.hygienic true in
theorem from_mem : ∀ (names : List (Str × NameKind)) (m : Nat) (acc : List (Str × Addr)) (p : Str × Addr), p ∈ cellsFrom m names acc → p ∈ acc ∨ ((p.1, NameKind.cell) ∈ names ∧ m ≤ p.2) := by
  intro names
  induction names with
  | nil => intro m acc p h; exact .inl h
  | cons q r ih =>
    intro m acc p h
    obtain ⟨x, k⟩ := q
    unfold cellsFrom at h
    split at h
    · rename_i hk
      have hk := beq_iff_eq.mp hk
      subst hk
      rcases ih _ _ _ h with h | ⟨h1, h2⟩
      · rcases List.mem_cons.mp h with rfl | h
        · exact .inr ⟨.head _, Nat.le_refl _⟩
        · exact .inl h
      · exact .inr ⟨.tail _ h1, by lia⟩
    · rcases ih _ _ _ h with h | ⟨h1, h2⟩
      · exact .inl h
      · exact .inr ⟨.tail _ h1, h2⟩
theorem from_acc : ∀ (names : List (Str × NameKind)) (m : Nat) (acc : List (Str × Addr)) (p : Str × Addr), p ∈ acc → p ∈ cellsFrom m names acc := by
  intro names
  induction names with
  | nil => intro m acc p h; exact h
  | cons q r ih =>
    intro m acc p h
    obtain ⟨x, k⟩ := q
    unfold cellsFrom
    split
    · exact ih _ _ _ (.tail _ h)
    · exact ih _ _ _ h
theorem from_has : ∀ (names : List (Str × NameKind)) (m : Nat) (acc : List (Str × Addr)) (x : Str), (x, NameKind.cell) ∈ names → ∃ c, (x, c) ∈ cellsFrom m names acc := by
  intro names
  induction names with
  | nil => intro m acc x h; cases h
  | cons q r ih =>
    intro m acc x h
    obtain ⟨y, k⟩ := q
    unfold cellsFrom
    rcases List.mem_cons.mp h with e | h
    · cases e
      rw [if_pos (by decide)]
      exact ⟨m, from_acc _ _ _ _ (.head _)⟩
    · split
      · exact ih _ _ _ h
      · exact ih _ _ _ h
structure CellsW (names : List (Str × NameKind)) (cs : List (Str × Addr)) (L : List (Str × Addr)) : Prop where
  nd : (L.map (·.1)).Nodup
  apart : L.Pairwise fun x y => x.2 ≠ y.2
theorem look_nd {β : Type} : ∀ {l : List (Str × β)} {x : Str} {b : β}, (l.map (·.1)).Nodup → (x, b) ∈ l → l.lookup x = some b := by
  intro l
  induction l with
  | nil => intro x b _ h; cases h
  | cons p r ih =>
    intro x b hn h
    obtain ⟨y, c⟩ := p
    rw [List.map_cons, List.nodup_cons] at hn
    rw [List.lookup_cons]
    rcases List.mem_cons.mp h with e | h
    · cases e; simp
    · have : (x == y) = false := beq_false_of_ne fun q => hn.1 (q ▸ List.mem_map.mpr ⟨_, h, rfl⟩)
      rw [this]; exact ih hn.2 h
theorem key_one {names : List (Str × NameKind)} (h : (names.map (·.1)).Nodup) {x : Str} {k k' : NameKind} (h1 : (x, k) ∈ names) (h2 : (x, k') ∈ names) : k = k' := by
  have a := look_nd h h1
  rw [look_nd h h2] at a
  exact (Option.some.inj a).symm
set_option tactic.hygienic true in
theorem clo_nd {cs : List (Str × Addr)} : ∀ (names : List (Str × NameKind)) (acc : List (Str × Addr)), (names.map (·.1)).Nodup → (acc.map (·.1)).Nodup → (∀ p ∈ acc, p.1 ∉ names.map (·.1)) → ((cloF cs names acc).map (·.1)).Nodup := by
  intro names
  induction names with
  | nil => intro acc _ h _; exact h
  | cons q r ih =>
    intro acc hn ha hd
    obtain ⟨x, k⟩ := q
    rw [List.map_cons, List.nodup_cons] at hn
    have hd' : ∀ p ∈ acc, p.1 ∉ r.map (·.1) := fun p hp h => hd p hp (.tail _ h)
    unfold cloF
    split
    · split
      · rename_i c hc
        refine ih _ hn.2 ?_ fun p hp => ?_
        · rw [List.map_cons, List.nodup_cons]
          refine ⟨fun h => ?_, ha⟩
          obtain ⟨p, hp, e⟩ := List.mem_map.mp h
          exact hd p hp (e ▸ .head _)
        · rcases List.mem_cons.mp hp with rfl | hp
          · exact hn.1
          · exact hd' p hp
      · exact ih _ hn.2 ha hd'
    · exact ih _ hn.2 ha hd'
set_option tactic.hygienic true in
theorem from_nd : ∀ (names : List (Str × NameKind)) (m : Nat) (acc : List (Str × Addr)), (names.map (·.1)).Nodup → (acc.map (·.1)).Nodup → (∀ p ∈ acc, (p.1, NameKind.cell) ∉ names) → ((cellsFrom m names acc).map (·.1)).Nodup := by
  intro names
  induction names with
  | nil => intro m acc _ h _; exact h
  | cons q r ih =>
    intro m acc hn ha hd
    obtain ⟨x, k⟩ := q
    rw [List.map_cons, List.nodup_cons] at hn
    have hd' : ∀ p ∈ acc, (p.1, NameKind.cell) ∉ r := fun p hp h => hd p hp (.tail _ h)
    unfold cellsFrom
    split
    · rename_i hk
      have hk := beq_iff_eq.mp hk
      subst hk
      refine ih _ _ hn.2 ?_ fun p hp => ?_
      · rw [List.map_cons, List.nodup_cons]
        refine ⟨fun h => ?_, ha⟩
        obtain ⟨p, hp, e⟩ := List.mem_map.mp h
        exact hd p hp (by rw [show p.1 = x from e]; exact .head _)
      · rcases List.mem_cons.mp hp with rfl | hp
        · exact fun h => hn.1 (List.mem_map.mpr ⟨_, h, rfl⟩)
        · exact hd' p hp
    · exact ih _ _ hn.2 ha hd'
theorem from_apart : ∀ (names : List (Str × NameKind)) (m : Nat) (acc : List (Str × Addr)), (acc.Pairwise fun x y => x.2 ≠ y.2) → (∀ p ∈ acc, p.2 < m) → (cellsFrom m names acc).Pairwise fun x y => x.2 ≠ y.2 := by
  intro names
  induction names with
  | nil => intro m acc h _; exact h
  | cons q r ih =>
    intro m acc ha hd
    obtain ⟨x, k⟩ := q
    unfold cellsFrom
    split
    · refine ih _ _ (List.pairwise_cons.mpr ⟨fun y hy e => ?_, ha⟩) fun p hp => ?_
      · have h1 := hd y hy; have e : m = y.2 := e; rw [← e] at h1; exact Nat.lt_irrefl _ h1
      · rcases List.mem_cons.mp hp with rfl | hp
        · exact Nat.lt_succ_self _
        · exact Nat.lt_succ_of_lt (hd p hp)
    · exact ih _ _ ha hd
theorem apart_of_names {cs L : List (Str × Addr)} (hc : cs.Pairwise fun x y => x.2 ≠ y.2) (hn : (L.map (·.1)).Nodup) (hl : ∀ p ∈ L, p ∈ cs) : L.Pairwise fun x y => x.2 ≠ y.2 := by
  induction L with
  | nil => exact .nil
  | cons p r ih =>
    rw [List.map_cons, List.nodup_cons] at hn
    refine List.pairwise_cons.mpr ⟨fun q hq e => ?_, ih hn.2 fun q hq => hl q (.tail _ hq)⟩
    have h1 := hl p (.head _)
    have h2 := hl q (.tail _ hq)
    have := name_of_addr hc (n := p.1) (n' := q.1) (c := p.2) h1 (by rw [e]; exact h2)
    exact hn.1 (this ▸ List.mem_map_of_mem hq)
end
end Mine
namespace Mine
theorem from_app : ∀ (names : List (Str × NameKind)) (m : Nat) (a b : List (Str × Addr)), cellsFrom m names (a ++ b) = cellsFrom m names a ++ b := by
  intro names
  induction names with
  | nil => intro m a b; rfl
  | cons q r ih =>
    intro m a b
    obtain ⟨x, k⟩ := q
    unfold cellsFrom
    split
    · rw [← List.cons_append, ih]
    · exact ih _ _ _
noncomputable def compE (scope : Scope) (env : Env) (C : Addr) : Env :=
  { scope := relabel scope env, locals := C, globals := env.globals, cells := cellsFrom (C + 1) scope.names (cloF env.cells scope.names []), qual := env.qual, func := none, code := env.code, frame := env.frame, builtins := env.builtins }
theorem newComp {M : Model} {A : Around} {E : Value → Shared → Prop} {s : Shared} {scope : Scope} {env : Env} {cl : List (Str × Addr)} {Q : Env → Shared → Prop}
    (hQ : Q { scope := scope, locals := s.heap.objs.size, globals := env.globals, cells := cellsFrom (s.heap.objs.size + 1) scope.names cl, qual := env.qual, func := none, code := env.code, frame := env.frame, builtins := env.builtins }
      { s with heap := pushCells (s.heap.push { cls := .type "dict", data := .dict #[] }) scope.names }) :
    wpAny M A (newFunctionEnv scope env.globals cl [] env.qual none .none (some env)) Q E s := by
  simp only [newFunctionEnv, Option.isSome_some, if_true]
  refine wpAny_bind (wpAny_alloc ?_)
  refine wpAny_bind (wpAny_layCells _ (fun name kind cells => by cases hkc : kind == NameKind.cell <;> simp [hkc]) _ _ _ _ ?_)
  rw [show ({ s with heap := s.heap.push { cls := .type "dict", data := .dict #[] } } : Shared).heap.objs.size = s.heap.objs.size + 1 from Heap.size_push ..]
  simp only [List.forIn_nil]
  exact wpAny_bind (wpAny_pure (wpAny_pure hQ))
section
variable {sc : Scope} {n : Nat} {ρ : Lo} {φ : Ph} {σ : Sg}
theorem relab_lookup : ∀ {sc scope : Scope} {x : Str}, (relab sc scope).names.lookup x = (scope.names.lookup x).map fun k => if (k == .free && sc.kind == .function && sc.names.lookup x == some .cell) then .cell else k := by
  apply @Mine.hk3; generalize ca1 (cx _) = sc, ca2 (cx _) = scope, cz3 (cx _) = x
  unfold relab
  dsimp only
  generalize scope.names = l
  induction l with
  | nil => rfl
  | cons p r ih =>
    obtain ⟨y, k⟩ := p
    show List.lookup x ((if (k == .free && sc.kind == .function && sc.names.lookup y == some .cell) = true then (y, NameKind.cell) else (y, k)) :: _) = _
    by_cases hx : x = y
    · subst hx
      by_cases hcnd : (k == .free && sc.kind == .function && sc.names.lookup x == some .cell) = true
      · rw [if_pos hcnd, List.lookup_cons, List.lookup_cons, beq_self_eq_true]; exact (congrArg some (if_pos hcnd)).symm
      · rw [if_neg hcnd, List.lookup_cons, List.lookup_cons, beq_self_eq_true]; exact (congrArg some (if_neg hcnd)).symm
    · have hb : (x == y) = false := beq_false_of_ne hx
      rw [List.lookup_cons (as := r), hb]
      by_cases hcnd : (k == .free && sc.kind == .function && sc.names.lookup y == some .cell) = true
      · rw [if_pos hcnd, List.lookup_cons, hb]; exact ih
      · rw [if_neg hcnd, List.lookup_cons, hb]; exact ih
noncomputable def hideL (cl : List (Str × Addr)) (T : Sg) : Sg := fun a => if cl.any (·.2 == a) then none else T a
theorem hide_in {cl : List (Str × Addr)} {T : Sg} {p : Str × Addr} (h : p ∈ cl) : hideL cl T p.2 = none := by
  unfold hideL; rw [if_pos (List.any_eq_true.mpr ⟨p, h, by simp⟩)]
theorem hide_out {cl : List (Str × Addr)} {T : Sg} {a : Addr} (h : ∀ p ∈ cl, p.2 ≠ a) : hideL cl T a = T a := by
  unfold hideL
  rw [if_neg]
  intro q
  obtain ⟨p, hp, e⟩ := List.any_eq_true.mp q
  exact h p hp (beq_iff_eq.mp e)
structure CompOk (sc scope : Scope) : Prop where
  fn : scope.kind = .function
  nd : (scope.names.map (·.1)).Nodup
  free : ∀ p ∈ scope.names, p.2 = .free → (sc.names.lookup p.1 = some .cell ∨ sc.names.lookup p.1 = some .free)
noncomputable def compB (sc scope : Scope) : Bool := (scope.kind == .function) && nodupB (scope.names.map (·.1)) && scope.names.all fun p => p.2 != .free || (sc.names.lookup p.1 == some .cell || sc.names.lookup p.1 == some .free)
theorem compOk {sc scope : Scope} (h : compB sc scope = true) : CompOk sc scope := by
  unfold compB at h
  simp only [Bool.and_eq_true, List.all_eq_true] at h
  obtain ⟨⟨h1, h2⟩, h3⟩ := h
  refine ⟨by simpa using h1, nodupB_sound h2, fun p hp hf => ?_⟩
  have := h3 p hp
  rw [hf] at this
  simpa using this
section
variable {scope : Scope} {τ : Sg} {env : Env} {A : Around} {s : Shared} (k : Ok w H0 sc n τ env A ρ φ σ s) (hc : CompOk sc scope)
include k hc
theorem Ok.free_cell {x : Str} (h : (x, NameKind.free) ∈ scope.names) : ∃ c, env.cells.lookup x = some c :=
  (hc.free _ h rfl).elim (fun e => k.ok.has x _ e (.inl rfl)) fun e => k.ok.has x _ e (.inr rfl)
theorem Ok.cl_mem {p : Str × Addr} (h : p ∈ cloF env.cells scope.names []) : (p.1, NameKind.free) ∈ scope.names ∧ env.cells.lookup p.1 = some p.2 ∧ p.2 < s.heap.objs.size := by
  rcases clo_mem _ _ _ h with h | ⟨h1, h2⟩
  · cases h
  · exact ⟨h1, h2, k.hr.lt (k.full_cell h2)⟩
set_option tactic.hygienic true in
theorem Ok.compEnvOk {C : Addr} (hC : s.heap.objs.size ≤ C) : EnvOk (relab sc scope) (compE scope env C) := by
  have hrel := relabel_eq (scope := scope) k.ok.scope
  have clnd : ((cloF env.cells scope.names []).map (·.1)).Nodup := clo_nd _ _ hc.nd .nil fun _ h => (nomatch h)
  have clap : (cloF env.cells scope.names []).Pairwise fun x y => x.2 ≠ y.2 := apart_of_names k.ok.apart clnd fun p hp => lookup_mem (k.cl_mem hc hp).2.1
  refine ⟨hrel, hc.fn, k.ok.glob, k.ok.blt, ?_, fun p hp q => ?_, fun x kk hx hkk => ?_, fun p hp q => ?_, ?_⟩
  · exact from_apart _ _ _ clap fun p hp => Nat.lt_succ_of_lt (Nat.lt_of_lt_of_le (k.cl_mem hc hp).2.2 hC)
  · have q : p.2 = C := q
    rcases from_mem _ _ _ _ hp with h | ⟨_, h2⟩
    · have h3 := (k.cl_mem hc h).2.2; rw [q] at h3; exact Nat.lt_irrefl _ (Nat.lt_of_lt_of_le h3 hC)
    · rw [q] at h2; exact Nat.lt_irrefl _ h2
  · rw [relab_lookup] at hx
    obtain ⟨k0, h1, h2⟩ := Option.map_eq_some_iff.mp hx
    have hm := look_mem h1
    have hk0 : k0 = .cell ∨ k0 = .free := by
      split at h2
      · rename_i hcnd
        right
        simp only [Bool.and_eq_true, beq_iff_eq] at hcnd
        exact hcnd.1.1
      · subst h2; exact hkk
    have : ∃ c, (x, c) ∈ cellsFrom (C + 1) scope.names (cloF env.cells scope.names []) := by
      rcases hk0 with rfl | rfl
      · exact from_has _ _ _ _ hm
      · obtain ⟨c, hcc⟩ := k.free_cell hc hm
        exact ⟨c, from_acc _ _ _ _ (clo_has _ _ _ _ hm hcc)⟩
    obtain ⟨c, hcc⟩ := this
    have ndL : ((cellsFrom (C + 1) scope.names (cloF env.cells scope.names [])).map (·.1)).Nodup := from_nd _ _ _ hc.nd clnd fun p hp h => by
      cases key_one hc.nd h (k.cl_mem hc hp).1
    exact ⟨c, look_nd ndL hcc⟩
  · rw [relab_lookup] at q
    obtain ⟨k0, h1, h2⟩ := Option.map_eq_some_iff.mp q
    have hm := look_mem h1
    have : k0 = .local := by
      split at h2
      · cases h2
      · exact h2
    subst this
    rcases from_mem _ _ _ _ hp with h | ⟨h1, _⟩
    · cases key_one hc.nd hm (k.cl_mem hc h).1
    · cases key_one hc.nd hm h1
  · exact from_nd _ _ _ hc.nd clnd fun p hp h => by cases key_one hc.nd h (k.cl_mem hc hp).1
set_option tactic.hygienic true in
theorem capL_some {x : Str} {v : V} (h : capL scope ρ x = some v) : scope.names.lookup x = some .free ∧ ρ x = some v := by
  unfold capL at h
  split at h
  · rename_i e; exact ⟨e, h⟩
  · cases h
set_option tactic.hygienic true in
theorem Ok.comp : Ok w H0 (relab sc scope) n (hideL (cloF env.cells scope.names []) (jn τ (fr env ρ))) (compE scope env s.heap.objs.size) A (capL scope ρ) φ σ { s with heap := pushCells (s.heap.push { cls := .type "dict", data := .dict #[] }) scope.names } := by
  have eok := k.compEnvOk hc (Nat.le_refl _)
  have keep : ∀ b o, s.heap.get? b = some o → (pushCells (s.heap.push { cls := .type "dict", data := .dict #[] }) scope.names).get? b = some o := fun b o e => pushCells_keeps _ _ b o (Heap.get?_push_of_some _ e)
  have own : ∀ p ∈ (compE scope env s.heap.objs.size).cells, (p ∈ cloF env.cells scope.names []) ∨ (s.heap.objs.size < p.2 ∧ (p.1, NameKind.cell) ∈ scope.names ∧ (pushCells (s.heap.push { cls := .type "dict", data := .dict #[] }) scope.names).IsCell p.2 none) := fun p hp => by
    have e : (compE scope env s.heap.objs.size).cells = cellsFrom (s.heap.objs.size + 1) scope.names [] ++ cloF env.cells scope.names [] := from_app scope.names _ [] _
    rw [e] at hp
    rcases List.mem_append.mp hp with h | h
    · right
      have ok := cellsFrom_ok scope.names (s.heap.push { cls := .type "dict", data := .dict #[] }) (s.heap.objs.size + 1) [] ⟨fun _ _ hm => (nomatch hm), List.Pairwise.nil⟩ (by rw [Heap.size_push]; exact Nat.le_refl _)
      rw [Heap.size_push] at ok
      obtain ⟨h1, h2⟩ := ok.empty p.1 p.2 h
      rcases from_mem _ _ _ _ h with h3 | h3
      · cases h3
      · exact ⟨h2, h3.1, h1⟩
    · exact .inl h
  have frc : ∀ a c, fr (compE scope env s.heap.objs.size) (capL scope ρ) a = some c → (a = s.heap.objs.size ∧ c = .lo fun x => if (compE scope env s.heap.objs.size).kindOf x = some .local then capL scope ρ x else none) ∨
      ∃ p, p ∈ (compE scope env s.heap.objs.size).cells ∧ p.2 = a ∧ c = .cell (capL scope ρ p.1) := fun a c e => by
    unfold fr at e
    split at e
    · rename_i ha; cases e; exact .inl ⟨ha, rfl⟩
    · obtain ⟨p, hp, hpc⟩ := Option.map_eq_some_iff.mp e
      exact .inr ⟨p, List.mem_of_find?_eq_some hp, beq_iff_eq.mp (List.find?_some (p := fun p : Str × Addr => p.2 == a) hp), hpc.symm⟩
  have big : ∀ a, s.heap.objs.size ≤ a → τ a = none ∧ fr env ρ a = none ∧ σ a = none ∧ φ a = none := fun a ha => k.freshAt ha
  have ncl : ∀ a, s.heap.objs.size ≤ a → ∀ p ∈ cloF env.cells scope.names [], p.2 ≠ a := fun a ha p hp q => by have h3 := (k.cl_mem hc hp).2.2; rw [q] at h3; exact Nat.lt_irrefl _ (Nat.lt_of_lt_of_le h3 ha)
  have ofL : ∀ a c, jn (jn τ (fr env ρ)) σ a = some c → ∃ o, φ a = none ∧ s.heap.get? a = some o ∧ CR w φ c o := fun a c e => by obtain ⟨h1, o, h2, h3⟩ := k.hr.cells a c e; exact ⟨o, h1, h2, h3⟩
  refine ⟨eok, k.room, fun a e => ?_, fun a e => ?_, fun a o e => keep _ _ (k.hr.keep a o e), k.hr.root, fun a c e => ?_, fun a c e => ?_, k.hr.big⟩
  · obtain ⟨c, hcc⟩ := Option.isSome_iff_exists.mp e
    rcases frc a c hcc with ⟨rfl, _⟩ | ⟨p, hp, rfl, _⟩
    · have b := big _ (Nat.le_refl _)
      exact ⟨by rw [hide_out (ncl _ (Nat.le_refl _))]; exact jn_none.mpr ⟨b.1, b.2.1⟩, b.2.2.1⟩
    · rcases own p hp with h | ⟨h, _⟩
      · refine ⟨hide_in h, ?_⟩
        have hl := (k.cl_mem hc h).2.1
        exact (k.dj1 p.2 (by rw [fr_cell k.ok ρ hl]; rfl)).2
      · have b := big p.2 (Nat.le_of_lt h)
        exact ⟨by rw [hide_out (ncl _ (Nat.le_of_lt h))]; exact jn_none.mpr ⟨b.1, b.2.1⟩, b.2.2.1⟩
  · unfold hideL
    split
    · rfl
    · refine jn_none.mpr ⟨k.dj2 a e, ?_⟩
      cases q : fr env ρ a with
      | none => rfl
      | some c => have := (k.dj1 a (by rw [q]; rfl)).2; rw [this] at e; cases e
  · cases q1 : fr (compE scope env s.heap.objs.size) (capL scope ρ) a with
    | some c1 =>
      rcases frc a c1 q1 with ⟨rfl, rfl⟩ | ⟨p, hp, rfl, rfl⟩
      · have b := big _ (Nat.le_refl _)
        have e1 := jn_left (σ := σ) (jn_right (τ := hideL (cloF env.cells scope.names []) (jn τ (fr env ρ))) (by rw [hide_out (ncl _ (Nat.le_refl _))]; exact jn_none.mpr ⟨b.1, b.2.1⟩) q1)
        rw [e1] at e; cases e
        refine ⟨b.2.2.2, _, pushCells_keeps _ _ _ _ (Heap.get?_push_size _ rfl), fun _ => none, ⟨#[], 0, rfl, fun _ he => by simp at he, fun _ => rfl⟩, fun x v e2 => ?_⟩
        dsimp only at e2
        split at e2
        · rename_i hk
          have h1 := (capL_some k hc e2).1
          unfold Env.kindOf compE at hk
          rw [relabel_eq k.ok.scope, relab_lookup, h1] at hk
          simp only [Option.map_some] at hk
          split at hk <;> cases hk
        · cases e2
      · rcases own p hp with h | ⟨h, hcl, hcell⟩
        · have e1 := jn_left (σ := σ) (jn_right (hide_in (T := jn τ (fr env ρ)) h) q1)
          rw [e1] at e; cases e
          have hl := (k.cl_mem hc h).2.1
          obtain ⟨o, h1, h2, v', h3, h4⟩ := ofL _ _ (k.full_cell hl)
          exact ⟨h1, o, keep _ _ h2, v', h3, h4.sub fun v e2 => (capL_some k hc e2).2⟩
        · have b := big p.2 (Nat.le_of_lt h)
          have e1 := jn_left (σ := σ) (jn_right (τ := hideL (cloF env.cells scope.names []) (jn τ (fr env ρ))) (by rw [hide_out (ncl _ (Nat.le_of_lt h))]; exact jn_none.mpr ⟨b.1, b.2.1⟩) q1)
          rw [e1] at e; cases e
          obtain ⟨o, h2, h3⟩ := hcell
          refine ⟨b.2.2.2, o, h2, none, h3, fun v e2 => ?_⟩
          have h5 := (capL_some k hc e2).1
          cases key_one hc.nd hcl (look_mem h5)
    | none =>
      have e2 : jn (jn τ (fr env ρ)) σ a = some c := by
        unfold jn at e
        rw [q1] at e
        unfold hideL at e
        split at e
        · rename_i hcl
          obtain ⟨p, hp, hpa⟩ := List.any_eq_true.mp hcl
          exfalso
          have hpa := beq_iff_eq.mp hpa
          have := fr_cell eok (capL scope ρ) (x := p.1) (c := p.2) (look_nd eok.nd (from_acc _ _ _ _ hp))
          rw [hpa, q1] at this; cases this
        · show ((τ a).or (fr env ρ a)).or (σ a) = some c
          simpa [jn] using e
      obtain ⟨o, h1, h2, h3⟩ := ofL _ _ e2
      exact ⟨h1, o, keep _ _ h2, h3⟩
  · cases q1 : fr (compE scope env s.heap.objs.size) (capL scope ρ) a with
    | some c1 =>
      rcases frc a c1 q1 with ⟨rfl, _⟩ | ⟨p, hp, rfl, _⟩
      · exact k.hr.past
      · rcases own p hp with h | ⟨h, _, _⟩
        · exact k.hr.high _ _ (k.full_cell (k.cl_mem hc h).2.1)
        · exact Nat.lt_trans k.hr.past h
    | none =>
      refine k.hr.high a c ?_
      unfold jn at e
      rw [q1] at e
      unfold hideL at e
      split at e
      · rename_i hcl
        obtain ⟨p, hp, hpa⟩ := List.any_eq_true.mp hcl
        exfalso
        have hpa := beq_iff_eq.mp hpa
        have := fr_cell eok (capL scope ρ) (x := p.1) (c := p.2) (look_nd eok.nd (from_acc _ _ _ _ hp))
        rw [hpa, q1] at this; cases this
      · show ((τ a).or (fr env ρ a)).or (σ a) = some c
        simpa [jn] using e
theorem Ok.uncomp {C : Addr} {ρ' : Lo} {φ' : Ph} {σ' : Sg} {s' : Shared} (kc : Ok w H0 (relab sc scope) n (hideL (cloF env.cells scope.names []) (jn τ (fr env ρ))) (compE scope env C) A ρ' φ' σ' s') (hs : Sub (capL scope ρ) ρ') : Ok w H0 sc n τ env A ρ φ' σ' s' := by
  have kc := kc.forget hs
  have capc : ∀ p ∈ cloF env.cells scope.names [], fr (compE scope env C) (capL scope ρ) p.2 = some (.cell (ρ p.1)) := fun p hp => by
    have := fr_cell kc.ok (capL scope ρ) (x := p.1) (c := p.2) (look_nd kc.ok.nd (from_acc _ _ _ _ hp))
    rw [this]
    unfold capL
    rw [if_pos (look_nd hc.nd (k.cl_mem hc hp).1)]
  have split : ∀ a, (∃ p ∈ cloF env.cells scope.names [], p.2 = a) ∨ ∀ p ∈ cloF env.cells scope.names [], p.2 ≠ a := fun a => by
    by_cases h : ∃ p ∈ cloF env.cells scope.names [], p.2 = a
    · exact .inl h
    · exact .inr fun p hp q => h ⟨p, hp, q⟩
  refine ⟨k.ok, k.room, fun a e => ?_, fun a e => ?_, kc.hr.sub fun a c e => ?_⟩
  · refine ⟨(k.dj1 a e).1, ?_⟩
    rcases split a with ⟨p, hp, rfl⟩ | h
    · exact (kc.dj1 p.2 (by rw [capc p hp]; rfl)).2
    · cases q : σ' a with
      | none => rfl
      | some c =>
        have := kc.dj2 a (by rw [q]; rfl)
        rw [hide_out h] at this
        have := (jn_none.mp this).2
        rw [this] at e; cases e
  · rcases split a with ⟨p, hp, rfl⟩ | h
    · have := (kc.dj1 p.2 (by rw [capc p hp]; rfl)).2
      rw [this] at e; cases e
    · have := kc.dj2 a e
      rw [hide_out h] at this
      exact (jn_none.mp this).1
  · rcases split a with ⟨p, hp, rfl⟩ | h
    · have hl := (k.cl_mem hc hp).2.1
      have e1 := fr_cell k.ok ρ hl
      have d := k.dj1 p.2 (by rw [e1]; rfl)
      have e2 : jn (jn τ (fr env ρ)) σ' p.2 = some (.cell (ρ p.1)) := jn_left (jn_right d.1 e1)
      rw [e2] at e; cases e
      exact jn_left (jn_right (hide_in hp) (capc p hp))
    · cases q : jn τ (fr env ρ) a with
      | some c1 =>
        have e2 : jn (jn τ (fr env ρ)) σ' a = some c1 := jn_left q
        rw [e2] at e; cases e
        exact jn_left (jn_left (by rw [hide_out h]; exact q))
      | none =>
        have e2 : σ' a = some c := by
          unfold jn at e q
          rw [q] at e; simpa using e
        have d2 := kc.dj2 a (by rw [e2]; rfl)
        refine jn_right (jn_none.mpr ⟨d2, ?_⟩) e2
        cases q3 : fr (compE scope env C) (capL scope ρ) a with
        | none => rfl
        | some _ => have := (kc.dj1 a (by rw [q3]; rfl)).2; rw [this] at e2; cases e2
end
end
end Mine
namespace Mine
section
variable {prog : Program} {A : Around} {E : Value → Shared → Prop} {R : Result → Shared → Prop} {s : Shared}
theorem compLoop_any : ∀ {prog : Program} {A : Around} {R : Result → Shared → Prop} {s : Shared} {elt target iter : PySem.Expr} {ifs : List PySem.Expr} {scope : Scope} {pos : Pos} {it acc : Value} {env : Env} (I : Nat → Shared → Prop) (turn : ∀ n s, I n s → wpAny (model prog w) A (pyNext it) (fun r s₁ => match r with
      | none => R (.ok .next) s₁
      | some v => wpAny (model prog w) A (letOwnedTupleGo target it v) (fun _ s₁' => wpAny (model prog w) A (assign target env v) (fun _ s₂ =>
          wpAny (model prog w) A (forIn ifs true fun c r => if r = true then do let ok ← isTrue c env (eval c env); pure (ForInStep.yield ok) else pure (ForInStep.yield r)) (fun ok s₃ =>
            if ok = true then wpAny (model prog w) A (eval elt env) (fun x s₄ =>
              wpAny (model prog w) A (call (.builtin "list.append") [acc, x]) (fun _ s₅ => ∃ m, m < n ∧ I m s₅) (fun _ _ => False) s₄) (fun _ _ => False) s₃
            else ∃ m, m < n ∧ I m s₃) (fun _ _ => False) s₂) (fun _ _ => False) s₁') (fun _ _ => False) s₁) (fun _ _ => False) s) (n : Nat) (h : I n s),
    codeAny (model prog w) A (.compLoop (.ListComp elt [⟨target, iter, ifs, 0⟩] scope pos) 0 it acc env) R s := by
  refine @Mine.hk6 _ _ _ _ _ _ _ neAround _ neShared _ _ _ ?_; generalize ca1 (cx _) = prog, ca2 (cx _) = A, ca3 (cx _) = R, ca4 (cx _) = s, ca5 (cx _) = elt, cz6 (cx _) = target
  apply @Mine.hk6; generalize ca1 (cx _) = iter, ca2 (cx _) = ifs, ca3 (cx _) = scope, ca4 (cx _) = pos, ca5 (cx _) = it, cz6 (cx _) = acc
  apply @Mine.hk2; generalize ca1 (cx _) = env, cz2 (cx _) = I
  intro turn
  apply @Mine.hk; generalize cx _ = n
  intro h
  refine codeAny_loop rfl I (fun n s hI => ?_) n h
  show wpAny _ A ((compTurn (.ListComp elt [⟨target, iter, ifs, 0⟩] scope pos) 0 it acc env).onRaise (fun x => do noteFrame x env; theTreesLotGoes x)) _ _ s
  refine wpAny_noted ?_
  rw [compTurn_list]
  refine wpAny_bind (wpAny_standAt (wpAny_bind (wpAny_mono (turn n s hI) (fun r s₁ h₁ => ?_) fun _ _ h' => h'.elim)))
  cases r with
  | none => exact wpAny_pure h₁
  | some v =>
    refine wpAny_bind (wpAny_mono h₁ (fun _ s₁' h₁' => ?_) fun _ _ h' => h'.elim)
    refine wpAny_bind (wpAny_mono h₁' (fun _ s₂ h₂ => wpAny_bind (wpAny_mono h₂ (fun ok s₃ h₃ => ?_) fun _ _ h' => h'.elim)) fun _ _ h' => h'.elim)
    cases ok with
    | false => exact wpAny_pure ⟨rfl, h₃⟩
    | true =>
      exact wpAny_bind (wpAny_bind (wpAny_mono h₃ (fun x s₄ h₄ => wpAny_bind (wpAny_mono h₄ (fun _ s₅ h₅ => wpAny_pure (wpAny_pure ⟨rfl, h₅⟩)) fun _ _ h' => h'.elim)) fun _ _ h' => h'.elim))
end
noncomputable def TsW (w : World) (H0 : Heap) (sc : Scope) (n : Nat) (ifs : List PySem.Expr) (ρ : Lo) (φ : Ph) (σ : Sg) (Q : Bool → Lo → Ph → Sg → Prop) : Prop := match ifs with
  | [] => Q true ρ φ σ
  | [c] => TW w H0 sc n c ρ φ σ Q
  | _ => False
abbrev ElK (φ : Ph) (ρ : Lo) (P : V → Ph → Sg → Prop) : V → Lo → Ph → Sg → Prop := fun v ρ3 φ3 σ3 => Sub ρ ρ3 ∧ Le φ φ3 ∧ P v φ3 σ3
abbrev TkK (w : World) (H0 : Heap) (sc : Scope) (n : Nat) (elt : PySem.Expr) (φ : Ph) (ρ : Lo) (P : V → Ph → Sg → Prop) (P0 : Ph → Sg → Prop) : Bool → Lo → Ph → Sg → Prop := fun ok ρ2 φ2 σ2 =>
  (ok = true → EW w H0 sc n elt ρ2 φ2 σ2 (ElK φ ρ P)) ∧ (ok = false → Sub ρ ρ2 ∧ Le φ φ2 ∧ P0 φ2 σ2)
abbrev TsK (w : World) (H0 : Heap) (sc : Scope) (n : Nat) (ifs : List PySem.Expr) (Q : Bool → Lo → Ph → Sg → Prop) : Lo → Ph → Sg → Prop := fun ρ1 φ1 σ1 => TsW w H0 sc n ifs ρ1 φ1 σ1 Q
noncomputable def Lc (w : World) (H0 : Heap) (sc : Scope) (n : Nat) (target : PySem.Expr) (ifs : List PySem.Expr) (elt : PySem.Expr) (ρ : Lo) : List Itm → List V → Ph → Sg → (List V → Ph → Sg → Prop) → Prop
  | [], acc, φ, σ, Q => Q acc φ σ
  | i :: is, acc, φ, σ, Q => acc.length ≤ 900 ∧ Asn w H0 sc n target i ρ φ σ (TsK w H0 sc n ifs (TkK w H0 sc n elt φ ρ (fun v φ3 σ3 => Lc w H0 sc n target ifs elt ρ is (acc ++ [v]) φ3 σ3 Q) (fun φ2 σ2 => Lc w H0 sc n target ifs elt ρ is acc φ2 σ2 Q)))
section
variable {sc : Scope} {n : Nat} {ρ : Lo} {φ : Ph} {σ : Sg}
theorem TsW.run {ifs : List PySem.Expr} {Q : Bool → Lo → Ph → Sg → Prop} (h : TsW w H0 sc n ifs ρ φ σ Q) {τ : Sg} {env : Env} {A : Around} {s : Shared} (k : Ok w H0 sc n τ env A ρ φ σ s) :
    wpAny (model pw w) A (forIn ifs true fun c r => if r = true then do let ok ← isTrue c env (eval c env); pure (ForInStep.yield ok) else pure (ForInStep.yield r))
      (fun ok s' => ∃ ρ' φ' σ', Ok w H0 sc n τ env A ρ' φ' σ' s' ∧ Same s s' ∧ Q ok ρ' φ' σ') (fun _ _ => False) s := by
  match ifs, h with
  | [], h => exact wpAny_tests_nil ⟨ρ, φ, σ, k, .refl s, h⟩
  | [c], h => exact wpAny_tests_one (Post.run (h τ env A s k) (fun b s' b' ρ' φ' σ' e k' m' h' => by
      have e : b = b' := e
      subst e
      exact ⟨ρ', φ', σ', k', m', h'⟩))
theorem Ok.freeComp {scope : Scope} {τ : Sg} {env : Env} {A : Around} {s : Shared} (k : Ok w H0 sc n τ env A ρ φ σ s) (hc : CompOk sc scope) {C b : Addr} {h h' : Heap} (f : Free τ env ρ φ σ h b) (hb : b < C) (hg : ∃ o, h'.get? b = some o) :
    Free (hideL (cloF env.cells scope.names []) (jn τ (fr env ρ))) (compE scope env C) (capL scope ρ) φ σ h' b := by
  refine ⟨?_, ?_, f.2.2.1, f.2.2.2.1, hg, f.2.2.2.2.2⟩
  · unfold hideL
    split
    · rfl
    · exact jn_none.mpr ⟨f.1, f.2.1⟩
  · unfold fr
    rw [if_neg (show b ≠ (compE scope env C).locals from Nat.ne_of_lt hb)]
    cases e : (compE scope env C).cells.find? fun p => p.2 == b with
    | none => rfl
    | some p =>
      exfalso
      have hm := List.mem_of_find?_eq_some e
      have hq : p.2 = b := beq_iff_eq.mp (List.find?_some (p := fun p : Str × Addr => p.2 == b) e)
      rcases from_mem _ _ _ _ hm with h1 | ⟨_, h1⟩
      · have := fr_cell k.ok ρ (k.cl_mem hc h1).2.1
        rw [hq, f.2.1] at this; cases this
      · rw [hq] at h1
        exact Nat.lt_irrefl _ (Nat.lt_trans hb (Nat.lt_of_lt_of_le (Nat.lt_succ_self _) h1))
theorem app_at {M : Program} {A : Around} {s : Shared} {D : Addr} {its : Array Value} {m : Nat} {x : Value} {Q : Value → Shared → Prop} (ho : s.heap.get? D = some ⟨.type "list", none, .seq its m, #[]⟩)
    (h : ∀ h', Heap.SameBut D s.heap h' → h'.get? D = some ⟨.type "list", none, .seq (its.push x) (m + 1), #[]⟩ → Q .none { s with heap := h' }) (hsz : its.size ≤ sizeLine) :
    wpAny (model M w) A (call (.builtin "list.append") [.ref D, x]) Q (fun _ _ => False) s := append_at ho h hsz
inductive CpI (w : World) (H0 : Heap) (sc : Scope) (n : Nat) (τ : Sg) (env : Env) (A : Around) (ρ : Lo) (s : Shared) (D : Addr) (fp wr : List Addr) (items : List Itm) (St : Nat → Heap → Prop) (target : PySem.Expr) (ifs : List PySem.Expr) (elt : PySem.Expr) (Q : List V → Ph → Sg → Prop) (N : Nat) (s' : Shared) : Prop
  | mk (i : Nat) (acc : List V) (φ : Ph) (σ : Sg) (its : Array Value) (c : Nat) (k : Ok w H0 sc n τ env A ρ φ σ s') (m : Same s s') (st : St i s'.heap) (hf : ∀ b ∈ D :: fp, φ b = none → Free τ env ρ φ σ s'.heap b) (hw : ∀ b ∈ wr, φ b = none) (hD : φ D = none)
    (hg : s'.heap.get? D = some ⟨.type "list", none, .seq its c, #[]⟩) (hv : VRs acc its.toList) (hi : i ≤ items.length) (hL : Lc w H0 sc n target ifs elt ρ (items.drop i) acc φ σ Q) (e : N = items.length - i) : CpI w H0 sc n τ env A ρ s D fp wr items St target ifs elt Q N s'
inductive CpE (w : World) (H0 : Heap) (sc : Scope) (n : Nat) (τ : Sg) (env : Env) (A : Around) (ρ : Lo) (s : Shared) (C : Addr) (acc : Value) (Q : List V → Ph → Sg → Prop) (r : Except Value Flow) (s' : Shared) : Prop
  | mk (vs : List V) (φ' : Ph) (σ' : Sg) (D : Addr) (e : r = .ok .next) (ea : acc = .ref D) (k : Ok w H0 sc n τ env A ρ φ' (upd σ' D (.list vs)) s') (h1 : σ' D = none) (h2 : φ' D = none) (m : Same s s') (hn : ∃ m, s'.heap.Ns C m) (hf : Free τ env ρ φ' (upd σ' D (.list vs)) s'.heap C) (q : Q vs φ' σ') : CpE w H0 sc n τ env A ρ s C acc Q r s'
theorem comp_run : ∀ {sc : Scope} {n : Nat} {ρ : Lo} {φ : Ph} {σ : Sg} {elt target iter : PySem.Expr} {ifs : List PySem.Expr} {scope : Scope} {pos : Pos} {τ : Sg} {env : Env} {A : Around} {s : Shared} {I : Addr} {fp wr : List Addr} {items : List Itm} {St : Nat → Heap → Prop} {Mid : Nat → Value → Heap → Prop} {Q : List V → Ph → Sg → Prop} (k : Ok w H0 sc n τ env A ρ φ σ s) (hc : CompOk sc scope) (W0 : Itr w A target I fp wr items St Mid) (st : St 0 s.heap) (hf : ∀ b ∈ fp, φ b = none → Free τ env ρ φ σ s.heap b) (hw : ∀ b ∈ wr, φ b = none) (hL : Lc w H0 (relab sc scope) n target ifs elt (capL scope ρ) items [] φ σ Q),
    wpAny (model pw w) A (newList []) (fun acc s3 => wpAny (model pw w) A (newFunctionEnv scope env.globals (cloF env.cells scope.names []) [] env.qual none .none (some env)) (fun cenv s4 =>
      codeAny (model pw w) A (.compStart (.ListComp elt [⟨target, iter, ifs, 0⟩] scope pos) 0 (.ref I) acc { cenv with scope := relabel scope env }) (CpE w H0 sc n τ env A ρ s cenv.locals acc Q) s4) (fun _ _ => False) s3) (fun _ _ => False) s := by
  apply @Mine.hk6; generalize ca1 (cx _) = sc, ca2 (cx _) = n, ca3 (cx _) = ρ, ca4 (cx _) = φ, ca5 (cx _) = σ, cz6 (cx _) = elt
  apply @Mine.hk6; generalize ca1 (cx _) = target, ca2 (cx _) = iter, ca3 (cx _) = ifs, ca4 (cx _) = scope, ca5 (cx _) = pos, cz6 (cx _) = τ
  refine @Mine.hk6 _ _ _ _ _ _ _ neAround neShared _ _ _ _ ?_; generalize ca1 (cx _) = env, ca2 (cx _) = A, ca3 (cx _) = s, ca4 (cx _) = I, ca5 (cx _) = fp, cz6 (cx _) = wr
  apply @Mine.hk4; generalize ca1 (cx _) = items, ca2 (cx _) = St, ca3 (cx _) = Mid, cz4 (cx _) = Q
  intro k hc W0 st hf hw hL
  refine wpAny_newObj_type (hd := by size_fits) ?_
  refine newComp ?_
  generalize hs3 : ({ s with heap := s.heap.push { cls := .type "list", dict := none, data := .seq ([] : List Value).toArray } } : Shared) = s3
  have e3 : s3.heap = s.heap.push { cls := .type "list", dict := none, data := .seq ([] : List Value).toArray } := by rw [← hs3]
  have z3 : s3.heap.objs.size = s.heap.objs.size + 1 := by rw [e3, Heap.size_push]
  have k3 : Ok w H0 sc n τ env A ρ φ σ s3 := k.grow fun b o e => by rw [e3]; exact Heap.get?_push_of_some _ e
  have m3 : Same s s3 := by rw [← hs3]; exact ⟨rfl, rfl⟩
  have kc := k3.comp hc
  generalize hs4 : ({ s3 with heap := pushCells (s3.heap.push { cls := .type "dict", data := .dict #[] }) scope.names } : Shared) = s4 at *
  have hD4 : s4.heap.get? s.heap.objs.size = some ⟨.type "list", none, .seq #[] 0, #[]⟩ := by
    rw [← hs4]
    exact pushCells_keeps _ _ _ _ (Heap.get?_push_of_some _ (by rw [e3]; exact Heap.get?_push_size _ rfl))
  have keep4 : ∀ b o, s.heap.get? b = some o → s4.heap.get? b = some o := fun b o e => by
    rw [← hs4]
    exact pushCells_keeps _ _ _ _ (Heap.get?_push_of_some _ (by rw [e3]; exact Heap.get?_push_of_some _ e))
  have m4 : Same s s4 := m3.trans (by rw [← hs4]; exact ⟨rfl, rfl⟩)
  have hC4 : ∃ o, s4.heap.get? s3.heap.objs.size = some o ∧ True := ⟨_, by rw [← hs4]; exact pushCells_keeps _ _ _ _ (Heap.get?_push_size _ rfl), trivial⟩
  generalize hDD : s.heap.objs.size = D at *
  generalize hCC : s3.heap.objs.size = C at *
  have hDC : D < C := by rw [z3]; exact Nat.lt_succ_self _
  have fD0 : Free τ env ρ φ σ s4.heap D := k.freeAt (by rw [hDD]; exact Nat.le_refl _) hD4
  have fD := k3.freeComp hc fD0 hDC ⟨_, hD4⟩
  have hlt : ∀ b ∈ fp, b < C := fun b hb => by
    obtain ⟨o, ho⟩ := W0.has _ _ st b hb
    exact Nat.lt_of_lt_of_le (Heap.lt_size ho) (by rw [hDD]; exact Nat.le_of_lt hDC)
  have hDfp : D ∉ fp := fun hb => by
    obtain ⟨o, ho⟩ := W0.has _ _ st D hb
    have := Heap.lt_size ho
    rw [hDD] at this; exact Nat.lt_irrefl _ this
  have st4 : St 0 s4.heap := W0.frame _ _ _ st fun b _ o e => keep4 b o e
  have hf4 : ∀ b ∈ fp, φ b = none → Free (hideL (cloF env.cells scope.names []) (jn τ (fr env ρ))) (compE scope env C) (capL scope ρ) φ σ s4.heap b := fun b hb hn =>
    let f := hf b hb hn; k3.freeComp hc f (hlt b hb) (let ⟨o, ho⟩ := f.2.2.2.2.1; ⟨o, keep4 b o ho⟩)
  have fCenv : ∀ φ' σ' (s' : Shared), Ok w H0 (relab sc scope) n (hideL (cloF env.cells scope.names []) (jn τ (fr env ρ))) (compE scope env C) A (capL scope ρ) φ' σ' s' → σ' D = none → ∀ vs, (∃ m, s'.heap.Ns C m) ∧ Free τ env ρ φ' (upd σ' D (.list vs)) s'.heap C := fun φ' σ' s' k' hn vs => by
    have hfl := k'.full_locals
    obtain ⟨h1, o, h2, m', h3, _⟩ := k'.hr.cells _ _ hfl
    have g := k3.freshAt (a := C) (by rw [hCC]; exact Nat.le_refl _)
    refine ⟨⟨m', ns_iff.mpr ⟨o, h2, h3⟩⟩, g.1, g.2.1, ?_, h1, ⟨o, h2⟩, k'.hr.high _ _ hfl⟩
    rw [upd_other (Nat.ne_of_gt hDC)]
    have e := fr_locals (compE scope env C) (capL scope ρ)
    exact (k'.dj1 C (by have e : fr (compE scope env C) (capL scope ρ) C = _ := e; rw [e]; rfl)).2
  have loop : codeAny (model pw w) A (.compLoop (.ListComp elt [⟨target, iter, ifs, 0⟩] scope pos) 0 (.ref I) (.ref D) (compE scope env C)) (CpE w H0 sc n τ env A ρ s C (.ref D) Q) s4 := by
    refine compLoop_any (CpI w H0 (relab sc scope) n (hideL (cloF env.cells scope.names []) (jn τ (fr env ρ))) (compE scope env C) A (capL scope ρ) s D fp wr items St target ifs elt Q) ?_ items.length
      ⟨0, [], φ, σ, #[], 0, kc, m4, st4, fun b hb hn => ?_, hw, fD.2.2.2.1, hD4, .nil, Nat.zero_le _, hL, rfl⟩
    rotate_left
    · rcases List.mem_cons.mp hb with rfl | hb
      · exact fD
      · exact hf4 b hb hn
    rintro N s5 ⟨i, acc, φ5, σ5, its, c, k5, m5, st5, hf5, hw5, hDn, hDo, hv, hi, hL5, rfl⟩
    have hDw : D ∉ wr := fun hb => hDfp (W0.sub D hb)
    have hfw : ∀ b ∈ wr, Free (hideL (cloF env.cells scope.names []) (jn τ (fr env ρ))) (compE scope env C) (capL scope ρ) φ5 σ5 s5.heap b := fun b hb => hf5 b (List.mem_cons_of_mem _ (W0.sub b hb)) (hw5 b hb)
    cases hd : items[i]? with
    | none =>
      have hie : i = items.length := by
        have := List.getElem?_eq_none_iff.mp hd; omega
      subst hie
      rw [List.drop_length] at hL5
      refine W0.done s5 _ _ st5 fun h' tk hk => ?_
      have k6 := k5.outside (s' := { s5 with heap := h', toks := tk }) hfw hk
      have hD6 := hk D _ hDw hDo
      have fDc := hf5 D (.head _) hDn
      have fDe : Free τ env ρ φ5 σ5 h' D := ⟨fD0.1, fD0.2.1, fDc.2.2.1, hDn, ⟨_, hD6⟩, fD0.2.2.2.2.2⟩
      have ke := k3.uncomp hc k6 (Sub.refl _)
      have k7 := ke.addAt fDe hD6 (c := .list acc) ⟨its, c, rfl, hv⟩
      have fc := fCenv φ5 σ5 _ k6 fDc.2.2.1 acc
      exact ⟨acc, φ5, σ5, D, rfl, rfl, k7, fDc.2.2.1, hDn, m5.trans ⟨rfl, rfl⟩, fc.1, fc.2, hL5⟩
    | some it =>
      have hlt2 := (List.getElem?_eq_some_iff.mp hd).1
      have hdr : items.drop i = it :: items.drop (i + 1) := by
        rw [List.drop_eq_getElem_cons hlt2]; congr 1; exact (List.getElem?_eq_some_iff.mp hd).2
      rw [hdr] at hL5
      obtain ⟨hacc, hAsn⟩ := hL5
      refine W0.item i it s5 _ _ hd st5 fun v h' tk hm hk => ?_
      refine wpAny_mono (W0.go i it v _ (fun _ s' => ∃ h2, s' = { s5 with heap := h2, toks := tk } ∧ St (i + 1) h2 ∧ ItmAt h2 it v ∧ ∀ b o, b ∉ wr → h'.get? b = some o → h2.get? b = some o) (fun _ _ => False) hd hm fun h2 a b c => ⟨h2, rfl, a, b, c⟩) (fun _ s6 hPt => ?_) fun _ _ x => x.elim
      obtain ⟨h2, e6, st6, it6, hk6⟩ := hPt
      subst e6
      have hk62 : ∀ b o, b ∉ wr → s5.heap.get? b = some o → h2.get? b = some o := fun b o hb e => hk6 b o hb (hk b o hb e)
      have k6 := k5.outside (s' := { s5 with heap := h2, toks := tk }) hfw hk62
      have hD6 := hk62 D _ hDw hDo
      have hf6 : ∀ b ∈ D :: fp, φ5 b = none → Free (hideL (cloF env.cells scope.names []) (jn τ (fr env ρ))) (compE scope env C) (capL scope ρ) φ5 σ5 h2 b := fun b hb hn => by
        have f := hf5 b hb hn
        refine ⟨f.1, f.2.1, f.2.2.1, f.2.2.2.1, ?_, f.2.2.2.2.2⟩
        rcases List.mem_cons.mp hb with rfl | hb
        · exact ⟨_, hD6⟩
        · exact W0.has _ _ st6 b hb
      have kg := k6.guard hf6
      refine Post.runE (Asn.run hAsn kg it6) (fun _ s7 _ ρ7 φ7 σ7 _ k7 m7 h7 => wpAny_mono (TsW.run h7 k7) (fun ok s8 hPt => ?_) fun _ _ x => x.elim)
      obtain ⟨ρ8, φ8, σ8, k8, m8, h8⟩ := hPt
      have fin : ∀ {ρ9 φ9 σ9} {s9 : Shared} {acc' : List V} {its' : Array Value} {c' : Nat}, Ok w H0 (relab sc scope) n (gd (D :: fp) φ5 h2 (hideL (cloF env.cells scope.names []) (jn τ (fr env ρ)))) (compE scope env C) A ρ9 φ9 σ9 s9 → Same s s9 → Sub (capL scope ρ) ρ9 → Le φ5 φ9 →
          ∀ {s10 : Shared}, s10.heap.get? D = some ⟨.type "list", none, .seq its' c', #[]⟩ → VRs acc' its'.toList → (∀ b, b ≠ D → s10.heap.get? b = s9.heap.get? b) → Same s9 s10 →
          Lc w H0 (relab sc scope) n target ifs elt (capL scope ρ) (items.drop (i + 1)) acc' φ9 σ9 Q →
          ∃ m, m < items.length - i ∧ CpI w H0 (relab sc scope) n (hideL (cloF env.cells scope.names []) (jn τ (fr env ρ))) (compE scope env C) A (capL scope ρ) s D fp wr items St target ifs elt Q m s10 := by
        intro ρ9 φ9 σ9 s9 acc' its' c' k9 m9 hs9 l9 s10 hD10 hv10 hot m10 hL10
        have k9' := (Ok.unguardOk (s := { s5 with heap := h2, toks := tk }) hf6 k9).forget hs9
        have u := Ok.unguard k6 hf6 k9 l9
        have hn9 : ∀ b ∈ D :: fp, φ9 b = none → φ5 b = none := fun b hb e => by
          cases q : φ5 b with
          | none => rfl
          | some o => rw [l9 _ _ q] at e; cases e
        have fD9 := u.2 D (.head _) hDn
        have fD9' : Free (hideL (cloF env.cells scope.names []) (jn τ (fr env ρ))) (compE scope env C) (capL scope ρ) φ9 σ9 s9.heap D := ⟨fD9.1, fr_none fD9.2.1, fD9.2.2⟩
        have k10 : Ok w H0 (relab sc scope) n (hideL (cloF env.cells scope.names []) (jn τ (fr env ρ))) (compE scope env C) A (capL scope ρ) φ9 σ9 s10 := k9'.outside (wr := [D]) (fun b hb => by simp at hb; subst hb; exact fD9') fun b o hb e => (hot b (by simpa using hb)).trans e
        refine ⟨items.length - (i + 1), by omega, i + 1, acc', φ9, σ9, its', c', k10, m9.trans m10, W0.frame _ _ _ st6 fun b hb o e => ?_, fun b hb e => ?_, fun b hb => (u.2 b (List.mem_cons_of_mem _ (W0.sub b hb)) (hw5 b hb)).2.2.2.1, fD9.2.2.2.1, hD10, hv10, hlt2, hL10, rfl⟩
        · rw [hot b fun q => hDfp (q ▸ hb)]
          exact u.1 b (List.mem_cons_of_mem _ hb) o e
        · have f := u.2 b hb (hn9 b hb e)
          refine ⟨f.1, fr_none f.2.1, f.2.2.1, f.2.2.2.1, ?_, f.2.2.2.2.2⟩
          by_cases hb' : b = D
          · subst hb'; exact ⟨_, hD10⟩
          · obtain ⟨o, ho⟩ := f.2.2.2.2.1
            exact ⟨o, (hot b hb').trans ho⟩
      have m58 : Same s s8 := m5.trans (⟨rfl, rfl⟩ : Same s5 { s5 with heap := h2, toks := tk }) |>.trans (m7.trans m8)
      cases ok with
      | false =>
        obtain ⟨hs8, l8, hL8⟩ := h8.2 rfl
        have u := Ok.unguard k6 hf6 k8 l8
        exact fin k8 m58 hs8 l8 (u.1 D (.head _) _ hD6) hv (fun b _ => rfl) (.refl _) hL8
      | true =>
        refine Post.runE (h8.1 rfl _ _ A s8 k8) (fun x s9 v9 ρ9 φ9 σ9 r9 k9 m9 hPt => ?_)
        obtain ⟨hs9, l9, hL9⟩ := hPt
        have u := Ok.unguard k6 hf6 k9 l9
        refine app_at (u.1 D (.head _) _ hD6) (fun h' hs' ho => ?_) (fit hv (by omega))
        exact fin k9 (m58.trans m9) hs9 l9 (s10 := { s9 with heap := h' }) ho (by simpa using hv.append (.cons r9 .nil)) (fun b hb => hs'.2 b hb) ⟨rfl, rfl⟩ hL9
  exact codeAny_compStart_list loop (W0.self 0 _ _ _ st4 loop)
end
end Mine
namespace Mine
section
variable {sc : Scope} {n : Nat} {ρ : Lo} {φ : Ph} {σ : Sg}
theorem names_local {scope : Scope} (h : (scope.names.map (·.1)).Nodup) : ∀ x ∈ scope.names, x.2 = .local → scope.names.lookup x.1 = some .local := fun x hx e => by
  have := look_nd (b := x.2) h hx
  rw [this, e]
theorem E_comp : ∀ {sc : Scope} {n : Nat} {ρ : Lo} {φ : Ph} {σ : Sg} {elt target iter : PySem.Expr} {ifs : List PySem.Expr} {scope : Scope} {pos : Pos} {Q : V → Lo → Ph → Sg → Prop} (hb : compB sc scope = true) (hs : ∀ env x, foldedSetIterable iter env x = pure x) (h : ItW w H0 sc n iter target ρ φ σ fun items ρ1 φ1 σ1 => Lc w H0 (relab sc scope) n target ifs elt (capL scope ρ1) items [] φ1 σ1 fun vs φ2 σ2 => ∀ a, σ2 a = none → φ2 a = none → Q (.ref a) ρ1 φ2 (upd σ2 a (.list vs))),
    EW w H0 sc n (.ListComp elt [⟨target, iter, ifs, 0⟩] scope pos) ρ φ σ Q := by
  apply @Mine.hk6; generalize ca1 (cx _) = sc, ca2 (cx _) = n, ca3 (cx _) = ρ, ca4 (cx _) = φ, ca5 (cx _) = σ, cz6 (cx _) = elt
  apply @Mine.hk6; generalize ca1 (cx _) = target, ca2 (cx _) = iter, ca3 (cx _) = ifs, ca4 (cx _) = scope, ca5 (cx _) = pos, cz6 (cx _) = Q
  intro hb hs h
  refine @Mine.hk4 _ _ _ _ _ _ neAround neShared _ ?_; generalize ca1 (cx _) = τ, ca2 (cx _) = env, ca3 (cx _) = A, cz4 (cx _) = s
  intro k
  have hc := compOk hb
  have hclo := closure_eq (scope := scope) (env := env) fun p hp hf => k.free_cell hc (show (p.1, NameKind.free) ∈ scope.names by rw [← hf]; exact hp)
  rw [eval_ListComp]
  refine wpAny_comprehension_free (use := none) rfl (hs env) hclo hc.fn (names_local hc.nd) (wpAny_mono (h τ env A s k) (fun x s1 h1 => wpAny_mono h1 (fun it s2 hPt => ?_) fun _ _ x => x) fun _ _ x => x)
  obtain ⟨I, fp, wr, items, St, Mid, ρ1, φ1, σ1, e1, hI, k2, m2, st, hf, hw, hL⟩ := hPt
  subst e1
  refine wpAny_mono (comp_run k2 hc (hI A k.room.2.2) st hf hw hL) (fun acc s3 h3 => wpAny_mono h3 (fun cenv s4 h4 => codeAny_mono h4 fun r s5 hPt => ?_) fun _ _ x => x.elim) fun _ _ x => x.elim
  obtain ⟨vs, φ5, σ5, D, e5, e6, k5, hσ, hφ, m5, hns, hC, hq⟩ := hPt
  subst e5 e6
  obtain ⟨mm, hns⟩ := hns
  refine ⟨mm, hns, fun h' hs' => ⟨_, ρ1, φ5, _, .ref _, k5.outside (s' := { s5 with heap := h' }) (wr := [cenv.locals]) (fun b hb => by simp at hb; subst hb; exact hC) fun b o hb e => hs'.extBut b o (by simpa using hb) e, m2.trans (m5.trans ⟨rfl, rfl⟩), hq D hσ hφ⟩⟩
theorem S_comp : ∀ {sc : Scope} {n : Nat} {ρ : Lo} {φ : Ph} {σ : Sg} {elt target iter : PySem.Expr} {ifs : List PySem.Expr} {scope : Scope} {pos spos py : Pos} {y : Str} {Q : Fl → Lo → Ph → Sg → Prop} (hb : compB sc scope = true) (hs : ∀ env x, foldedSetIterable iter env x = pure x) (hsw : ∀ env, env.scope = sc → swapsWith (.ListComp elt [⟨target, iter, ifs, 0⟩] scope pos) (some (.Name y py)) spos.line env = pure true) (hy : sc.names.lookup y = some .local) (h : ItW w H0 sc n iter target ρ φ σ fun items ρ1 φ1 σ1 => Lc w H0 (relab sc scope) n target ifs elt (capL scope ρ1) items [] φ1 σ1 fun vs φ2 σ2 => ∀ a, σ2 a = none → φ2 a = none → Q .next (setL ρ1 y (.ref a)) φ2 (upd σ2 a (.list vs))),
    SW w H0 sc n (.Assign [.Name y py] (.ListComp elt [⟨target, iter, ifs, 0⟩] scope pos) spos) ρ φ σ Q := by
  apply @Mine.hk6; generalize ca1 (cx _) = sc, ca2 (cx _) = n, ca3 (cx _) = ρ, ca4 (cx _) = φ, ca5 (cx _) = σ, cz6 (cx _) = elt
  apply @Mine.hk6; generalize ca1 (cx _) = target, ca2 (cx _) = iter, ca3 (cx _) = ifs, ca4 (cx _) = scope, ca5 (cx _) = pos, cz6 (cx _) = spos
  apply @Mine.hk3; generalize ca1 (cx _) = py, ca2 (cx _) = y, cz3 (cx _) = Q
  intro hb hs hsw hy h
  refine @Mine.hk4 _ _ _ _ _ _ neAround neShared _ ?_; generalize ca1 (cx _) = τ, ca2 (cx _) = env, ca3 (cx _) = A, cz4 (cx _) = s
  intro k
  have hc := compOk hb
  have hclo := closure_eq (scope := scope) (env := env) fun p hp hf => k.free_cell hc (show (p.1, NameKind.free) ∈ scope.names by rw [← hf]; exact hp)
  show wpAny _ _ (exec (.Assign [.Name y py] (.ListComp elt [⟨target, iter, ifs, 0⟩] scope pos) spos) env) _ _ _
  rw [exec_Assign_Name_used _ _ _ _ (hsw env k.ok.scope)]
  refine wpAny_bind (wpAny_standAt (wpAny_bind ?_))
  show wpAny _ A (do let _ ← comprehension (.ListComp elt [⟨target, iter, ifs, 0⟩] scope pos) scope env _ (newList []) false (eval iter env) (some (assign (.Name y py) env))) _ _ s
  refine wpAny_bind (wpAny_mono (wpAny_comprehension_free (E := fun _ _ => False) (use := some (assign (.Name y py) env)) (Q := fun _ s' => Post w H0 sc n τ env A s FR Q Flow.next s') rfl (hs env) hclo hc.fn (names_local hc.nd)
    (wpAny_mono (h τ env A s k) (fun x s1 h1 => wpAny_mono h1 (fun it s2 ⟨I, fp, wr, items, St, Mid, ρ1, φ1, σ1, e1, hI, k2, m2, st, hf, hw, hL⟩ => ?_) fun _ _ x => x) fun _ _ x => x)) (fun _ s' hq => wpAny_pure (wpAny_pure hq)) fun _ _ e => e)
  subst e1
  refine wpAny_mono (comp_run k2 hc (hI A k.room.2.2) st hf hw hL) (fun acc s3 h3 => wpAny_mono h3 (fun cenv s4 h4 => codeAny_mono h4 fun r s5 hPt => ?_) fun _ _ x => x.elim) fun _ _ x => x.elim
  obtain ⟨vs, φ5, σ5, D, e5, e6, k5, hσ, hφ, m5, hns, hC, hq⟩ := hPt
  subst e5 e6
  obtain ⟨mm, hns⟩ := hns
  have kg := k5.guard (fp := [cenv.locals]) fun b hb _ => by simp at hb; subst hb; exact hC
  refine Post.runE (A_local (Q := fun ρ' φ' σ' => ρ' = setL ρ1 y (.ref D) ∧ φ' = φ5 ∧ σ' = upd σ5 D (.list vs)) hy ⟨rfl, rfl, rfl⟩ (.ref D) (.ref D) _ env A s5 kg) (fun _ s6 _ ρ6 φ6 σ6 _ k6 m6 hPt => ?_)
  obtain ⟨e1, e2, e3⟩ := hPt
  subst e1 e2 e3
  have u := Ok.unguard k5 (fp := [cenv.locals]) (fun b hb _ => by simp at hb; subst hb; exact hC) k6 (.refl _)
  have k7 := Ok.unguardOk (s := s5) (fp := [cenv.locals]) (fun b hb _ => by simp at hb; subst hb; exact hC) k6
  have hns6 : s6.heap.Ns cenv.locals mm := by
    obtain ⟨o, ho, hm⟩ := ns_iff.mp hns
    exact ns_iff.mpr ⟨o, u.1 _ (.head _) _ ho, hm⟩
  have hC6 := u.2 _ (.head _) hC.2.2.2.1
  exact ⟨mm, hns6, fun h' hs' => ⟨.next, _, φ6, _, .next, k7.outside (s' := { s6 with heap := h' }) (wr := [cenv.locals]) (fun b hb => by simp at hb; subst hb; exact hC6) fun b o hb e => hs'.extBut b o (by simpa using hb) e, m2.trans (m5.trans (m6.trans ⟨rfl, rfl⟩)), hq D hσ hφ⟩⟩
theorem S_assignS {x : Str} {p pos : Pos} {e : PySem.Expr} {Q : Fl → Lo → Ph → Sg → Prop} (hs : ∀ env, env.scope = sc → swapsWith e (some (.Name x p)) pos.line env = pure false) (h : EW w H0 sc n e ρ φ σ (AsK w H0 sc n (.Name x p) Q)) :
    SW w H0 sc n (.Assign [.Name x p] e pos) ρ φ σ Q := fun τ env A s k => by
  show wpAny _ _ (exec (.Assign [.Name x p] e pos) env) _ _ _
  rw [exec_Assign_Name env x p e pos (hs env k.ok.scope)]
  refine wpAny_bind (wpAny_standAt (wpAny_bind (Post.run (h τ env A s k) (fun y s1 b1 ρ1 φ1 σ1 r1 k1 m1 h1 => ?_))))
  show wpAny _ _ (assign (.Name x p) env y >>= fun _ => pure Flow.next) _ _ _
  exact wpAny_bind (Post.run (h1 y r1 τ env A s1 k1) (fun _ s2 b2 ρ2 φ2 σ2 r2 k2 m2 h2 => wpAny_pure ⟨.next, ρ2, φ2, σ2, .next, k2, m1.trans m2, h2⟩))
theorem S_tup {es : List PySem.Expr} {kk : Nat} {p pos : Pos} {e : PySem.Expr} {Q : Fl → Lo → Ph → Sg → Prop} (hs : ∀ env, env.scope = sc → swapsWithSole [.Tuple es kk p] e pos.line env = pure false) (hw : ∀ env, env.scope = sc → swappedStores [.Tuple es kk p] e env = pure none)
    (h : EW w H0 sc n e ρ φ σ fun v ρ φ σ => AW w H0 sc n (.Tuple es kk p) v ρ φ σ fun ρ φ σ => Q .next ρ φ σ) : SW w H0 sc n (.Assign [.Tuple es kk p] e pos) ρ φ σ Q := fun τ env A s k =>
  Assign_Tuple (Post.run (h τ env A s k) (fun y s1 b1 ρ1 φ1 σ1 r1 k1 m1 h1 => Post.run (h1 y r1 τ env A s1 k1) (fun _ s2 b2 ρ2 φ2 σ2 r2 k2 m2 h2 => ⟨.next, ρ2, φ2, σ2, .next, k2, m1.trans m2, h2⟩))) (hs env k.ok.scope) (hw env k.ok.scope)
end
end Mine
namespace Mine
section
variable {sc : Scope} {n : Nat} {ρ : Lo} {φ : Ph} {σ : Sg} {Q : V → Lo → Ph → Sg → Prop}
theorem O_addL {l b : Addr} {vs ws : List V} (hl : Lst φ σ l vs) (hb : Lst φ σ b ws) (hz : vs.length ≤ 400) (hz2 : ws.length ≤ 400) (q : ∀ a, σ a = none → φ a = none → Q (.ref a) ρ φ (upd σ a (.list (vs ++ ws)))) : OpW w H0 sc n .Add (.ref l) (.ref b) ρ φ σ Q := fun x y hx hy => by
  refine VR.refE hx ?_; refine VR.refE hy ?_
  intro τ env A s k
  obtain ⟨items, m, h1, hv⟩ := k.lst hl
  obtain ⟨items2, m2, h2, hw⟩ := k.lst hb
  refine concat_meets ⟨_, h1, rfl⟩ ⟨_, h2, rfl⟩ noFill_list_add seq_list_add PySem.F.slot_list_add PySem.F.entry_list_add (PySem.F.args_list_add_2 _ _) (list_addW l b items items2 m m2 none none #[] #[] (by rw [size_of hv, size_of hw, sizeLine_eq]; lia)) ⟨h1, h2, ?_⟩
  obtain ⟨k2, e1, e2⟩ := k.allocC (s' := { s with heap := s.heap.push { cls := .type "list", data := .seq (items ++ items2) } }) (o := { cls := .type "list", data := .seq (items ++ items2) }) (c := .list (vs ++ ws)) ⟨_, 0, rfl, by simpa using hv.append hw⟩ rfl rfl
  exact ⟨_, ρ, φ, _, .ref _, k2, ⟨rfl, rfl⟩, q _ e1 e2⟩
theorem VRs.rep {v : V} {x : Value} (h : VR v x) : ∀ m, VRs (List.replicate m v) (List.replicate m x)
  | 0 => .nil
  | m + 1 => .cons h (VRs.rep h m)
theorem rep_one {x : Value} (m : Nat) : (List.foldl (fun (x1 x2 : Array Value) => x1 ++ x2) #[] (List.replicate m #[x])).toList = List.replicate m x := by
  have : ∀ (acc : Array Value), (List.foldl (fun (x1 x2 : Array Value) => x1 ++ x2) acc (List.replicate m #[x])).toList = acc.toList ++ List.replicate m x := by
    induction m with
    | zero => intro acc; simp
    | succ m ih => intro acc; rw [List.replicate_succ, List.foldl_cons, ih, List.replicate_succ]; simp
  simpa using this #[]
theorem O_mulL {l : Addr} {v : V} {k : Nat} (hl : Lst φ σ l [v]) (hk : k ≤ 900) (q : ∀ a, σ a = none → φ a = none → Q (.ref a) ρ φ (upd σ a (.list (List.replicate k v)))) : OpW w H0 sc n .Mult (.ref l) (.int k) ρ φ σ Q := fun x y hx hy => by
  refine VR.refE hx ?_; refine VR.intE hy (fun _ => ?_)
  intro τ env A s kk
  obtain ⟨items, m, h1, hv⟩ := kk.lst hl
  have hs : items.size = 1 := size_of hv
  obtain ⟨x, hx⟩ : ∃ x, items = #[x] := ⟨items[0], by apply Array.ext (by simp [hs]); intro i h1 h2; simp at h2; subst h2; rfl⟩
  subst hx
  have hvx : VR v x := by
    have : VRs [v] [x] := hv
    cases this with | cons h _ => exact h
  refine wpAny_binaryOp_repeat_ref (T := "list") (U := "int") (by decide) ⟨_, h1, rfl⟩ (fun s' => typeIs_int s' _ _) noFill_list_mul PySem.F.fills_int_mul PySem.F.slot_int_rmul repeat_list PySem.F.slot_int_index.lookup
    (call_meets PySem.F.slot_int_rmul (typeIs_int s _ _) PySem.F.entry_int_rmul (PySem.F.args_int_rmul_2 _ _) (int___rmul___int_list _ _ l #[x] m)
      ⟨h1, rfl, ⟨_, h1, rfl⟩, call_meets PySem.F.slot_list_mul ⟨_, h1, rfl⟩ PySem.F.entry_list_mul (PySem.F.args_list_mul_2 _ _)
        (AutoListH.list___mul___list_int_3 l #[x] m _ _ ?_ ?_ ?_)
        ⟨h1, ?_⟩⟩)
  · intro hh; unfold Builtin.List.listFitsIndex at hh; simp at hh; lia
  · have e : (#[x] : Array Value).size * (k : Int).toNat = k := by simp
    rw [e]; exact Nat.not_lt.mpr (Nat.le_trans hk (by decide))
  · have e : (#[x] : Array Value).size * (k : Int).toNat = k := by simp
    rw [e]
    intro hh
    unfold Builtin.List.listTooLong at hh
    simp at hh
    first | omega | (rw [sizeLine_eq] at hh; lia)
  obtain ⟨k2, e1, e2⟩ := kk.allocC (s' := { s with heap := s.heap.push { cls := .type "list", data := .seq (List.foldl (fun x1 x2 => x1 ++ x2) #[] (List.replicate (if (#[x] : Array Value).isEmpty = true then 0 else (k : Int).toNat) #[x])) } }) (o := { cls := .type "list", data := .seq (List.foldl (fun x1 x2 => x1 ++ x2) #[] (List.replicate (if (#[x] : Array Value).isEmpty = true then 0 else (k : Int).toNat) #[x])) }) (c := .list (List.replicate k v)) ⟨_, 0, rfl, by
    rw [rep_one]
    simpa using VRs.rep hvx k⟩ rfl rfl
  exact ⟨_, ρ, φ, _, .ref _, k2, ⟨rfl, rfl⟩, q _ e1 e2⟩
theorem C_isSelf {a : Addr} (q : Q (.bool true) ρ φ σ) : CmW w H0 sc n .Is (.ref a) (.ref a) ρ φ σ Q := fun x y hx hy => by
  refine VR.refE hx ?_; refine VR.refE hy ?_; exact W.leaf (fun τ env A s k => wpAny_is_ref_self ⟨.bool _, rfl, rfl, rfl⟩) q
theorem C_isNotSelf {a : Addr} (q : Q (.bool false) ρ φ σ) : CmW w H0 sc n .IsNot (.ref a) (.ref a) ρ φ σ Q := fun x y hx hy => by
  refine VR.refE hx ?_; refine VR.refE hy ?_; exact W.leaf (fun τ env A s k => wpAny_isNot_ref_self ⟨.bool _, rfl, rfl, rfl⟩) q
theorem C_isOther {a b : Addr} {oa ob : Obj} (hne : a ≠ b) (ha : φ a = some oa) (hb : φ b = some ob) (hc : oa.cls ≠ .type "tuple") (q : Q (.bool false) ρ φ σ) : CmW w H0 sc n .Is (.ref a) (.ref b) ρ φ σ Q := fun x y hx hy => by
  refine VR.refE hx ?_; refine VR.refE hy ?_; exact W.leaf (fun τ env A s k => wpAny_is_ref_other hne (k.hr.keep _ _ ha) (k.hr.keep _ _ hb) hc ⟨.bool _, rfl, rfl, rfl⟩) q
theorem C_isNotOther {a b : Addr} {oa ob : Obj} (hne : a ≠ b) (ha : φ a = some oa) (hb : φ b = some ob) (hc : oa.cls ≠ .type "tuple") (q : Q (.bool true) ρ φ σ) : CmW w H0 sc n .IsNot (.ref a) (.ref b) ρ φ σ Q := fun x y hx hy => by
  refine VR.refE hx ?_; refine VR.refE hy ?_; exact W.leaf (fun τ env A s k => wpAny_isNot_ref_other hne (k.hr.keep _ _ ha) (k.hr.keep _ _ hb) hc ⟨.bool _, rfl, rfl, rfl⟩) q
theorem KAVs.value {xs : List (List Scal × V)} {kvs : List (List Scal × Addr × Value)} (h : KAVs xs kvs) (k : List Scal) : VRo (valV xs k) ((atKey kvs k).map (·.2)) := by
  induction h with
  | nil => exact .none
  | @cons k' v a x vs ys hv _ ih =>
    unfold valV atKey at ih ⊢
    rw [List.find?_cons, List.find?_cons]
    by_cases e : k' = k
    · simp [e]; exact .some hv
    · simp [e]; simpa using ih
theorem KAVs.length {xs : List (List Scal × V)} {kvs : List (List Scal × Addr × Value)} (h : KAVs xs kvs) : kvs.length = xs.length := by
  induction h with
  | nil => rfl
  | cons _ _ ih => simp [ih]
theorem KAVs.any {xs : List (List Scal × V)} {kvs : List (List Scal × Addr × Value)} (h : KAVs xs kvs) (k : List Scal) : (atKey kvs k).isSome = xs.any (fun kv => kv.1 = k) := by
  induction h with
  | nil => rfl
  | @cons k' v a x vs ys hv _ ih =>
    unfold atKey at ih ⊢
    rw [List.find?_cons, List.any_cons]
    by_cases e : k' = k
    · simp [e]
    · simp [e]; simpa using ih
theorem KAVs.map {xs : List (List Scal × V)} {kvs : List (List Scal × Addr × Value)} (h : KAVs xs kvs) {v : V} {x : Value} (hv : VR v x) (k : List Scal) : KAVs (xs.map (fun kv => if kv.1 = k then (kv.1, v) else kv)) (kvs.map (putAt k x)) := by
  induction h with
  | nil => exact .nil
  | @cons k' v' a x' vs ys h1 _ ih =>
    rw [List.map_cons, List.map_cons]
    have e : putAt k x (k', a, x') = if k' = k then (k', a, x) else (k', a, x') := rfl
    rw [e]
    dsimp only
    split
    · exact .cons hv ih
    · exact .cons h1 ih
theorem KAVs.snoc {xs : List (List Scal × V)} {kvs : List (List Scal × Addr × Value)} (h : KAVs xs kvs) {v : V} {x : Value} (hv : VR v x) (k : List Scal) (a : Addr) : KAVs (xs ++ [(k, v)]) (kvs ++ [(k, a, x)]) := by
  induction h with
  | nil => exact .cons hv .nil
  | cons h1 _ ih => exact .cons h1 ih
theorem KAVs.stored {xs : List (List Scal × V)} {kvs : List (List Scal × Addr × Value)} (h : KAVs xs kvs) {v : V} {x : Value} (hv : VR v x) (k : List Scal) (a : Addr) : KAVs (storedV xs k v) (storedH kvs k a x) := by
  unfold storedV storedH
  rw [h.any k]
  split
  · exact h.map hv k
  · exact h.snoc hv k a
theorem tup_key {t : Addr} {ks : List Scal} (h : Tup φ t (ks.map scV)) : TupKey w φ ks t := by
  obtain ⟨items, m, h1, h2⟩ := h
  refine ⟨_, items, m, h1, rfl, rfl, ?_⟩
  revert h2
  generalize items.toList = xs
  induction ks generalizing xs with
  | nil => intro h; refine VRs.nilE h ?_; exact .nil
  | cons k r ih =>
    intro h
    rw [List.map_cons] at h
    cases h with
    | cons h1 h2 => exact .cons (sc_is h1) (ih _ h2)
theorem TupKey.heap {τ : Sg} {env : Env} {A : Around} {s : Shared} (k : Ok w H0 sc n τ env A ρ φ σ s) {ks : List Scal} {a : Addr} (h : TupKey w φ ks a) : (tupleKind (scalKind pw w)).is s.heap ks a :=
  by obtain ⟨o, items, m, h1, h2⟩ := h; exact ⟨o, items, m, k.hr.keep _ _ h1, h2⟩
inductive TdAt (w : World) (φ : Ph) (h : Heap) (d : Addr) (xs : List (List Scal × V)) : Prop
  | mk (kvs : List (List Scal × Addr × Value)) (h1 : h.DictOfH (tupleKind (scalKind pw w)) d kvs) (h2 : KAVs xs kvs) (h3 : (d == sysModules) = false) (h4 : ∀ x ∈ kvs, TupKey w φ x.1 x.2.1) : TdAt w φ h d xs
theorem Ok.tdict : ∀ {sc : Scope} {n : Nat} {ρ : Lo} {φ : Ph} {σ : Sg} {τ : Sg} {env : Env} {A : Around} {s : Shared} {d : Addr} {xs : List (List Scal × V)} (k : Ok w H0 sc n τ env A ρ φ σ s) (h : σ d = some (.tdict xs)), TdAt w φ s.heap d xs := by
  apply @Mine.hk6; generalize ca1 (cx _) = sc, ca2 (cx _) = n, ca3 (cx _) = ρ, ca4 (cx _) = φ, ca5 (cx _) = σ, cz6 (cx _) = τ
  refine @Mine.hk5 _ _ _ _ _ _ neAround neShared _ _ _ ?_; generalize ca1 (cx _) = env, ca2 (cx _) = A, ca3 (cx _) = s, ca4 (cx _) = d, cz5 (cx _) = xs
  intro k h
  obtain ⟨_, o, ho, kvs, es, ep, h1, h2, h3, h4, h5, h6⟩ := k.hr.cells _ _ (k.full_sg h)
  exact ⟨kvs, ⟨o, es, ep, ho, h2, h3, h4, fun x hx => (h5 x hx).heap k, h6⟩, h1, beq_false_of_ne (Nat.ne_of_gt (k.hr.high _ _ (k.full_sg h))), h5⟩
theorem Room.cl {n : Nat} {A : Around} (h : Room n A) : A.in1.units < cLine := by
  have := h.2.1
  show A.units + 1 < cLine
  unfold cLine; lia
theorem C_inT {d t : Addr} (q : ∃ xs ks, Tup φ t (ks.map scV) ∧ σ d = some (.tdict xs) ∧ Q (.bool (valV xs ks).isSome) ρ φ σ) : CmW w H0 sc n .In (.ref t) (.ref d) ρ φ σ Q := fun x y hx hy => by
  refine VR.refE hx ?_; refine VR.refE hy ?_
  obtain ⟨xs, ks, ht, hd, q⟩ := q
  refine W.leaf (b := _) (fun τ env A s kk => ?_) q
  obtain ⟨kvs, h1, h2, h3, h4⟩ := kk.tdict hd
  have hr := h2.value ks
  have e : (atKey kvs ks).isSome = (valV xs ks).isSome := by
    revert hr; generalize valV xs ks = a; generalize atKey kvs ks = b
    intro h; cases b <;> cases h <;> rfl
  exact wpAny_in_heap kk.room.cl ((tup_key ht).heap kk) h3 h1 ⟨by rw [e]; exact .bool _, rfl, rfl, rfl⟩
theorem C_notInT {d t : Addr} (q : ∃ xs ks, Tup φ t (ks.map scV) ∧ σ d = some (.tdict xs) ∧ Q (.bool (!(valV xs ks).isSome)) ρ φ σ) : CmW w H0 sc n .NotIn (.ref t) (.ref d) ρ φ σ Q := fun x y hx hy => by
  refine VR.refE hx ?_; refine VR.refE hy ?_
  obtain ⟨xs, ks, ht, hd, q⟩ := q
  refine W.leaf (b := _) (fun τ env A s kk => ?_) q
  obtain ⟨kvs, h1, h2, h3, h4⟩ := kk.tdict hd
  have hr := h2.value ks
  have e : (atKey kvs ks).isSome = (valV xs ks).isSome := by
    revert hr; generalize valV xs ks = a; generalize atKey kvs ks = b
    intro h; cases b <;> cases h <;> rfl
  exact wpAny_notIn_heap kk.room.cl ((tup_key ht).heap kk) h3 h1 ⟨by rw [e]; exact .bool _, rfl, rfl, rfl⟩
theorem T_item {e i : PySem.Expr} {d t : Addr} (hs : ∀ y, subscripted i false (.ref d) y = operate [.ref d, y] (getItem (.ref d) y))
    (q : ∃ xs ks v, Tup φ t (ks.map scV) ∧ σ d = some (.tdict xs) ∧ valV xs ks = some v ∧ Q v ρ φ σ) : ∀ x y, VR (.ref d) x → VR (.ref t) y → W w H0 sc n VR (fun _ => subscriptTail e i x y) ρ φ σ Q := fun x y hx hy => by
  refine VR.refE hx ?_; refine VR.refE hy ?_
  obtain ⟨xs, ks, v, ht, hd, hv, q⟩ := q
  refine W.leaf (b := v) (fun τ env A s kk => ?_) q
  obtain ⟨kvs, h1, h2, h3, h4⟩ := kk.tdict hd
  have hr := h2.value ks
  rw [hv] at hr
  cases e : atKey kvs ks with
  | none => rw [e] at hr; cases hr
  | some p =>
    rw [e] at hr
    cases hr with
    | some hvu => exact tail_any h1.typeIs slot_dict_getitem.lookup (wpAny_getItem_heap kk.room.cl ((tup_key ht).heap kk) h1 e ⟨hvu, rfl, rfl, rfl⟩) (hs _)
theorem G_setT : ∀ {sc : Scope} {n : Nat} {ρ : Lo} {φ : Ph} {σ : Sg} {d t : Addr} {xs : List (List Scal × V)} {ks : List Scal} {v : V} {Q : Lo → Ph → Sg → Prop} (ht : Tup φ t (ks.map scV)) (hd : σ d = some (.tdict xs)) (hz : xs.length ≤ 900) (q : Q ρ φ (upd σ d (.tdict (storedV xs ks v)))),
    ∀ y j u, VR (.ref d) y → VR (.ref t) j → VR v u → W w H0 sc n UR (fun _ => setItem y j u) ρ φ σ fun _ => Q := by
  apply @Mine.hk6; generalize ca1 (cx _) = sc, ca2 (cx _) = n, ca3 (cx _) = ρ, ca4 (cx _) = φ, ca5 (cx _) = σ, cz6 (cx _) = d
  apply @Mine.hk5; generalize ca1 (cx _) = t, ca2 (cx _) = xs, ca3 (cx _) = ks, ca4 (cx _) = v, cz5 (cx _) = Q
  intro ht hd hz q
  intro y j u hy hj hu τ env A s ok
  refine VR.refE hy ?_; refine VR.refE hj ?_
  obtain ⟨kvs, h1, h2, h3, h4⟩ := ok.tdict hd
  refine wpAny_setItem_heap ok.room.cl ((tup_key ht).heap ok) h1 (fun h' hd' hs' => ?_) (by rw [h2.length, sizeLine_eq]; lia)
  obtain ⟨o, es, ep, g1, g2, g3, g4, g5, g6⟩ := hd'
  refine ⟨(), ρ, φ, _, trivial, ok.set hd (s' := { s with heap := h', toks := s.toks + (tupleKind (scalKind pw w)).draws ks }) (fun b hb => hs'.2 b hb) g1 (c' := .tdict (storedV xs ks v)) ⟨_, es, ep, h2.stored hu ks t, g2, g3, g4, fun x hx => ?_, g6⟩, ⟨rfl, rfl⟩, q⟩
  unfold storedH at hx
  split at hx
  · obtain ⟨y, hy, e⟩ := List.mem_map.mp hx
    have := h4 y hy
    unfold putAt at e
    split at e <;> (subst e; exact this)
  · rcases List.mem_append.mp hx with hx | hx
    · exact h4 x hx
    · simp at hx; subst hx; exact tup_key ht
end
end Mine
namespace Mine
section
variable {sc : Scope} {n : Nat} {ρ : Lo} {φ : Ph} {σ : Sg} {Q : V → Lo → Ph → Sg → Prop}
noncomputable def bindAll : List Str → List V → Lo → Lo
  | x :: xs, v :: vs, ρ => bindAll xs vs (setL ρ x v)
  | _, _, ρ => ρ
theorem bind_w {names : List Str} : ∀ {vs : List V} {xs : List Value} {ρ : Lo} {Q : Lo → Ph → Sg → Prop}, (∀ x ∈ names, sc.names.lookup x = some .local) → names.length = vs.length → VRs vs xs → Q (bindAll names vs ρ) φ σ →
    W w H0 sc n UR (fun env => assignInOrder (names.map fun n => bindName env n) xs) ρ φ σ fun _ => Q := by
  induction names with
  | nil =>
    intro vs xs ρ Q _ hl hx q
    cases vs with
    | cons v vs => cases hl
    | nil => refine VRs.nilE hx ?_; exact W.leaf (b := ()) (fun τ env A s k => wpAny_pure ⟨trivial, rfl, ⟨rfl, rfl⟩⟩) q
  | cons x r ih =>
    intro vs xs ρ Q hk hl hx q
    cases vs with
    | nil => cases hl
    | cons v vs =>
      cases hx with
      | @cons _ y _ ys hv hx =>
        intro τ env A s k
        show wpAny _ _ (assignInOrder ((x :: r).map fun n => bindName env n) (y :: ys)) _ _ _
        rw [List.map_cons]
        exact wpAny_bind (wpAny_holding (Post.run (BN_local (Q := fun ρ' φ' σ' => ρ' = setL ρ x v ∧ φ' = φ ∧ σ' = σ) (hk x (.head _)) ⟨rfl, rfl, rfl⟩ y hv τ env A s k) (fun _ s1 b1 ρ1 φ1 σ1 r1 k1 m1 hPt => by
          obtain ⟨e1, e2, e3⟩ := hPt
          subst e1 e2 e3
          exact Post.run (ih (fun x hx => hk x (.tail _ hx)) (by simpa using hl) hx q τ env A s1 k1) (fun _ s2 b2 ρ2 φ2 σ2 r2 k2 m2 h2 => ⟨b2, ρ2, φ2, σ2, r2, k2, m1.trans m2, h2⟩))))
theorem VRs.reverse {a : List V} {x : List Value} (h : VRs a x) : VRs a.reverse x.reverse := by
  induction h with
  | nil => exact .nil
  | cons h _ ih => rw [List.reverse_cons, List.reverse_cons]; exact ih.append (.cons h .nil)
theorem S_tupSw {es : List PySem.Expr} {kk : Nat} {p pos : Pos} {e : PySem.Expr} {names : List Str} {Q : Fl → Lo → Ph → Sg → Prop} (hs : ∀ env, env.scope = sc → swapsWithSole [.Tuple es kk p] e pos.line env = pure false)
    (hw : ∀ env, env.scope = sc → swappedStores [.Tuple es kk p] e env = pure (some names)) (hk : (names.all fun x => sc.names.lookup x == some .local) = true)
    (h : EW w H0 sc n e ρ φ σ fun v ρ φ σ => ∃ t ls, v = .ref t ∧ Tup φ t ls ∧ names.length = ls.length ∧ Q .next (bindAll names.reverse ls.reverse ρ) φ σ) : SW w H0 sc n (.Assign [.Tuple es kk p] e pos) ρ φ σ Q := fun τ env A s k =>
  Assign_Tuple_swapped (Post.run (h τ env A s k) (fun y s1 b1 ρ1 φ1 σ1 r1 k1 m1 hPt => by
    obtain ⟨t, ls, e1, ht, hl, q⟩ := hPt
    subst e1; refine VR.refE r1 ?_
    obtain ⟨items, g1, g2⟩ := k1.tupT ht
    rw [hl, ← size_of g2]
    refine wpAny_unpackItems_tuple k.room.2.2 g1 fun h' he => ?_
    have k2 : Ok w H0 sc n τ env A ρ1 φ1 σ1 { s1 with heap := h' } := k1.grow fun b o eb => he b o (Nat.ne_of_lt (Heap.lt_size eb)) eb
    exact Post.run (bind_w (names := names.reverse) (Q := fun ρ' φ' σ' => Q .next ρ' φ' σ') (fun x hx => by simpa using List.all_eq_true.mp hk x (List.mem_reverse.mp hx)) (by simpa using hl) g2.reverse q τ env A _ k2) (fun _ s2 b2 ρ2 φ2 σ2 r2 k3 m2 h2 => ⟨.next, ρ2, φ2, σ2, .next, k3, m1.trans ⟨m2.1, m2.2⟩, h2⟩))) (hs env k.ok.scope) (hw env k.ok.scope)
theorem G_prop (R : Rt w H0) {x Cc d p f : Addr} {m : Lo} {name : Str} {e : Bool} {fd : FuncData} {body : List Stmt} {bs : List (Str × V)} {rest : List Value} (hx : φ x = some (instObj Cc d)) (hd : DictIs φ σ d m)
    (hg : plainGet (KK w.params) Cc name = true) (hh : hasDictIn (KK w.params) Cc = true) (ha : findIn (KK w.params) (.ref Cc) name = some (some (.ref p))) (hn : specialIn (KK w.params) (.ref p) "__get__" = some (some (.builtin "property.__get__")))
    (ht : takesIn (KK w.params) (.ref p) = some true) (hp : recIn (KK w.params) p "property" = some (.ref f :: rest)) (F : FnOk w H0 f fd body) (hb : Bind H0 fd [.ref x] bs)
    (hbk : ∀ x ∈ bs.map (·.1), fd.scope.names.lookup x = some .local ∨ fd.scope.names.lookup x = some .cell)
    (h : XW w H0 fd.scope n body (ofL bs noLo) φ σ fun fl _ φ σ => handV (FlV fl) = true ∧ Q (FlV fl) ρ φ σ) :
    ∀ y, VR (.ref x) y → W w H0 sc (n+2) VR (fun _ => getAttr y name e) ρ φ σ Q := fun y hy τ env A s k => by
  refine VR.refE hy ?_
  obtain ⟨od, m', I, hnn, hr⟩ := k.inst hx hd
  have X := R.K.keeps k.root
  refine get_bind X I (plainGet_of hg).1 (findObj_data (by obtain ⟨cd, hc, _⟩ := any_some hh; rw [hc]; rfl) ha hn ht) (plainGet_of hg).2 (wpAny_call (prop_get (s := { s with toks := s.toks + 1 }) X hp ?_))
  have hrm : Room (n + 1) A.in1 := by
    obtain ⟨a, b, c⟩ := k.room
    exact ⟨by show A.depth + _ ≤ _; lia, by show A.units + 1 + _ ≤ _; lia, c⟩
  have hfr : ∀ (σ' : Sg), (∀ a, (σ' a).isSome = true → jn τ (fr env ρ) a = none) → ∀ a, (fr env ρ a).isSome = true → τ a = none ∧ σ' a = none := fun σ' h a e => by
    refine ⟨(k.dj1 a e).1, ?_⟩
    cases q : σ' a with
    | none => rfl
    | some c => have := (jn_none.mp (h a (by rw [q]; rfl))).2; rw [this] at e; cases e
  refine code_fn (s := { s with toks := s.toks + 1 }) R F hb hbk (Q := fun v φ' σ' => handV v = true ∧ Q v ρ φ' σ') h hrm (.cons (.ref x) .nil) (τ := jn τ (fr env ρ)) (fun a e => jn_none.mpr ⟨k.dj2 a e, ?_⟩) k.hr fun v x φ' σ' s' h1 h2 h3 h4 h5 => ?_
  · cases q : fr env ρ a with
    | none => rfl
    | some c => have := (k.dj1 a (by rw [q]; rfl)).2; rw [this] at e; cases e
  · show wpAny _ _ (handedOut x) _ _ _
    rw [handedOut_of (handed_of h1 h5.1)]
    exact wpAny_pure ⟨v, ρ, φ', σ', h1, ⟨k.ok, k.room, hfr σ' h2, fun a e => (jn_none.mp (h2 a e)).1, h3⟩, ⟨h4.1, h4.2⟩, h5.2⟩
end
end Mine
namespace Mine
section
variable {sc : Scope} {n : Nat} {ρ : Lo} {φ : Ph} {σ : Sg}
theorem S_whileI : ∀ {sc : Scope} {n : Nat} {ρ : Lo} {φ : Ph} {σ : Sg} {test : PySem.Expr} {body : List Stmt} {pos : Pos} {Q : Fl → Lo → Ph → Sg → Prop} {m : Nat} (I : Nat → Lo → Ph → Sg → Prop) (turn : ∀ m ρ φ σ, I m ρ φ σ → TW w H0 sc n test ρ φ σ fun c ρ φ σ => (c = true → XW w H0 sc n body ρ φ σ fun f ρ φ σ => match f with
      | .next => ∃ k, k < m ∧ I k ρ φ σ
      | .cont => ∃ k, k < m ∧ I k ρ φ σ
      | .brk => Q .next ρ φ σ
      | .ret v => Q (.ret v) ρ φ σ) ∧ (c = false → Q .next ρ φ σ)) (h : I m ρ φ σ), SW w H0 sc n (.While test body [] pos) ρ φ σ Q := by
  apply @Mine.hk6; generalize ca1 (cx _) = sc, ca2 (cx _) = n, ca3 (cx _) = ρ, ca4 (cx _) = φ, ca5 (cx _) = σ, cz6 (cx _) = test
  apply @Mine.hk5; generalize ca1 (cx _) = body, ca2 (cx _) = pos, ca3 (cx _) = Q, ca4 (cx _) = m, cz5 (cx _) = I
  intro turn h
  refine @Mine.hk4 _ _ _ _ _ _ neAround neShared _ ?_; generalize ca1 (cx _) = τ, ca2 (cx _) = env, ca3 (cx _) = A, cz4 (cx _) = s
  intro k
  refine wpAny_While (codeAny_whileLoop (fun N s' => ∃ ρ φ σ, Ok w H0 sc n τ env A ρ φ σ s' ∧ Same s s' ∧ I N ρ φ σ) ?_ m ⟨ρ, φ, σ, k, .refl s, h⟩)
  rintro N s1 ⟨ρ1, φ1, σ1, k1, m1, h1⟩
  refine Post.runE (turn N ρ1 φ1 σ1 h1 τ env A s1 k1) (fun b s2 c ρ2 φ2 σ2 e k2 m2 h2 => ?_)
  have e : b = c := e
  subst e
  cases b with
  | false =>
    rw [if_neg (by decide)]
    exact wpAny_execs_nil ⟨.next, ρ2, φ2, σ2, .next, k2, m1.trans m2, h2.2 rfl⟩
  | true =>
    rw [if_pos rfl]
    refine Post.runE (h2.1 rfl τ env A s2 k2) (fun f s3 fl ρ3 φ3 σ3 r3 k3 m3 h3 => ?_)
    cases r3 with
    | next => exact let ⟨kk, a, b⟩ := h3; ⟨kk, a, ρ3, φ3, σ3, k3, m1.trans (m2.trans m3), b⟩
    | cont => exact let ⟨kk, a, b⟩ := h3; ⟨kk, a, ρ3, φ3, σ3, k3, m1.trans (m2.trans m3), b⟩
    | brk => exact ⟨.next, ρ3, φ3, σ3, .next, k3, m1.trans (m2.trans m3), h3⟩
    | ret hv => exact ⟨_, ρ3, φ3, σ3, .ret hv, k3, m1.trans (m2.trans m3), h3⟩
end
end Mine
namespace Mine
section
variable {sc : Scope} {n : Nat} {ρ : Lo} {φ : Ph} {σ : Sg} {Q : V → Lo → Ph → Sg → Prop}
theorem GM_bdict {name : Str} {id : String} {d : Addr} {xs : List (List UInt8 × V)} {pl : Env → Sem Bool} {Q : Value × List V → Lo → Ph → Sg → Prop} (slot : Slot "dict" name id) (hty : typeOf (.builtin id) = pure (.type "method_descriptor")) (hd : σ d = some (.bdict xs)) (q : Q (.builtin id, [.ref d]) ρ φ σ) :
    ∀ y, VR (.ref d) y → W w H0 sc n (fun (p : Value × List V) (y : Value × List Value) => y.1 = p.1 ∧ VRs p.2 y.2) (fun env => getMethod y name (pl env)) ρ φ σ Q :=
  GM "dict" PySem.F.plainAttrs_dict slot hty (fun τ env A s k => by obtain ⟨kvs, h1, _, _⟩ := k.bdict hd; exact ⟨h1.typeIs, h1.mapOf.noDict⟩) q
set_option tactic.hygienic true in
theorem E_getB : ∀ {sc : Scope} {n : Nat} {ρ : Lo} {φ : Ph} {σ : Sg} {Q : V → Lo → Ph → Sg → Prop} {o ek ed : PySem.Expr} {apos pos : Pos} (hs : ([ek, ed].all noStar) = true) (he : ∀ env, eval (.Call (.Attribute o (Str.ofString "get") apos) [ek, ed] [] pos) env = (do
      let ov ← eval o env
      standAt apos.atName
      let (f, first) ← holding [ov] (getMethod ov (Str.ofString "get") (do return (← importBound o env).getD true))
      callWith pos f first (backTo pos (starEach [ek, ed] env)) [])) (h : EW w H0 sc n o ρ φ σ fun ov ρ φ σ => ∃ d, ov = .ref d ∧ (∃ xs, σ d = some (.bdict xs)) ∧ EW w H0 sc n ek ρ φ σ fun kv ρ φ σ => EW w H0 sc n ed ρ φ σ fun dv ρ φ σ => ∃ xs key, kv = .bytes key ∧ σ d = some (.bdict xs) ∧ Q ((valV xs key.toList).getD dv) ρ φ σ),
    EW w H0 sc n (.Call (.Attribute o (Str.ofString "get") apos) [ek, ed] [] pos) ρ φ σ Q := by
  apply @Mine.hk6; generalize ca1 (cx _) = sc, ca2 (cx _) = n, ca3 (cx _) = ρ, ca4 (cx _) = φ, ca5 (cx _) = σ, cz6 (cx _) = Q
  apply @Mine.hk5; generalize ca1 (cx _) = o, ca2 (cx _) = ek, ca3 (cx _) = ed, ca4 (cx _) = apos, cz5 (cx _) = pos
  intro hs he h
  have h1 : noStar ek = true ∧ noStar ed = true := by simpa using hs
  refine E_meth (pl := fun env => do return (← importBound o env).getD true) hs (h.mono fun ov ρ φ σ hPt => ?_) he
  obtain ⟨d, e1, ⟨xs, hd⟩, h2⟩ := hPt
  subst e1
  refine GM_bdict PySem.F.slot_dict_get PySem.F.type_dict_get hd ⟨mach rfl, A_cons (h2.mono fun kv ρ φ σ h3 => A_cons (h3.mono fun dv ρ φ σ ⟨xs, key, e2, hd, q⟩ => A_nil fun ys hy => ?_) (one_star h1.2)) (fun env => star_one h1.1 _ env)⟩
  subst e2
  cases hy with | cons g1 hy => cases hy with | cons g2 hy => cases hy with | cons g3 hy =>
  refine VRs.nilE hy ?_; refine VR.refE g1 ?_; refine VR.bytesE g2 (fun _ => ?_)
  rename_i dy tk
  refine W.leaf (fun τ env A s k => ?_) q
  obtain ⟨kvs, a1, a2, a3⟩ := k.bdict hd
  refine call_meetsIn PySem.F.slot_dict_get a1.typeIs PySem.F.entry_dict_get (PySem.F.args_dict_get_3 _ _ _) (meets_dict_get_default (k := key.toList) (bytesKind pw w) d (by simp [bytesKind, isBytes]) a3 _) ⟨_, a1.mapOf, ?_⟩
  refine ⟨?_, rfl, rfl, rfl⟩
  have hr := a2.value key.toList
  revert hr
  generalize valV xs key.toList = x1
  generalize valueAt kvs key.toList = x2
  intro hr
  cases hr with
  | none => exact g3
  | some h => exact h
end
end Mine
namespace Mine
section
variable {sc : Scope} {n : Nat} {ρ : Lo} {φ : Ph} {σ : Sg} {Q : V → Lo → Ph → Sg → Prop}
noncomputable def isI (x : Int) : Value → Bool
  | .int j _ => j == x
  | _ => false
theorem ints_any {is : List Int} {xs : List Value} (h : VRs (is.map V.int) xs) (x : Int) : xs.any (isI x) = is.any (· == x) ∧ ∀ y ∈ xs, ∃ j t, y = .int j t := by
  induction is generalizing xs with
  | nil => refine VRs.nilE h ?_; exact ⟨rfl, fun _ h => (nomatch h)⟩
  | cons i r ih =>
    rw [List.map_cons] at h
    cases h with
    | cons h1 h2 =>
      cases h1 with
      | int _ t =>
        have := ih h2
        refine ⟨by simp [isI, this.1], fun y hy => ?_⟩
        rcases List.mem_cons.mp hy with rfl | hy
        · exact ⟨_, _, rfl⟩
        · exact this.2 y hy
theorem isI_gives {y : Value} {x : Int} {t : Tok} (h : ∃ j u, y = .int j u) : MeetsSeq.EqGives y (.int x t) (isI x y) := by
  obtain ⟨j, u, rfl⟩ := h
  exact MeetsSeq.EqGives.int j x u t
theorem C_inLI {l : Addr} {is : List Int} {x : Int} (hl : Lst φ σ l (is.map .int)) (q : Q (.bool (is.any (· == x))) ρ φ σ) : CmW w H0 sc n .In (.int x) (.ref l) ρ φ σ Q := fun a b ha hb => by
  refine VR.intE ha (fun _ => ?_); refine VR.refE hb ?_
  refine W.leaf (fun τ env A s k => ?_) q
  obtain ⟨items, m, h1, hv⟩ := k.lst hl
  have e := ints_any hv x
  refine PySem.SeqRoads2.in_list (isI x) (fun y hy => isI_gives (e.2 y (by simpa using hy))) h1 ⟨?_, rfl, rfl, rfl⟩
  rw [← Array.any_toList, e.1]; exact .bool _
theorem C_notInLI {l : Addr} {is : List Int} {x : Int} (hl : Lst φ σ l (is.map .int)) (q : Q (.bool (!is.any (· == x))) ρ φ σ) : CmW w H0 sc n .NotIn (.int x) (.ref l) ρ φ σ Q := fun a b ha hb => by
  refine VR.intE ha (fun _ => ?_); refine VR.refE hb ?_
  refine W.leaf (fun τ env A s k => ?_) q
  obtain ⟨items, m, h1, hv⟩ := k.lst hl
  have e := ints_any hv x
  refine PySem.SeqRoads2.notIn_list (isI x) (fun y hy => isI_gives (e.2 y (by simpa using hy))) h1 ⟨?_, rfl, rfl, rfl⟩
  rw [← Array.any_toList, e.1]; exact .bool _
end
end Mine
namespace Mine
section
noncomputable def EqV (w : World) (H0 : Heap) (φ : Ph) (σ : Sg) (d : Nat) (v u : V) : Prop :=
  ∀ sc n τ env A' (A : Around) ρ s x y, Ok w H0 sc n τ env A' ρ φ σ s → A.units + d < cLine → VR v x → VR u y → SeqAt.EqAt A s x y true
variable {φ : Ph} {σ : Sg} {d : Nat}
theorem EqV.int (i : Int) : EqV w H0 φ σ d (.int i) (.int i) := fun _ _ _ _ _ A _ s x y _ _ hx hy => by
  refine VR.intE hx (fun _ => ?_); refine VR.intE hy (fun _ => ?_); simpa using (MeetsSeq.EqGives.int i i _ _).at A s
theorem EqV.str (i : Str) : EqV w H0 φ σ d (.str i) (.str i) := fun _ _ _ _ _ A _ s x y _ _ hx hy => by
  refine VR.strE hx (fun _ => ?_); refine VR.strE hy (fun _ => ?_); simpa using (SeqRoads2.EqGives.str i i _ _).at A s
theorem EqV.bytes (b : Array UInt8) : EqV w H0 φ σ d (.bytes b) (.bytes b) := fun _ _ _ _ _ A _ s x y _ _ hx hy => by
  refine VR.bytesE hx (fun _ => ?_); refine VR.bytesE hy (fun _ => ?_); exact fun prog w E Q h => eqBool_bytes (by simpa using h)
theorem EqV.bool (b : Bool) : EqV w H0 φ σ d (.bool b) (.bool b) := fun _ _ _ _ _ A _ s x y _ _ hx hy => by
  refine VR.boolE hx ?_; refine VR.boolE hy ?_; exact SeqAt.EqAt.same _
theorem EqV.none : EqV w H0 φ σ d .none .none := fun _ _ _ _ _ A _ s x y _ _ hx hy => by
  refine VR.noneE hx ?_; refine VR.noneE hy ?_; exact SeqAt.EqAt.same _
theorem EqV.self (a : Addr) : EqV w H0 φ σ d (.ref a) (.ref a) := fun _ _ _ _ _ A _ s x y _ _ hx hy => by
  refine VR.refE hx ?_; refine VR.refE hy ?_; exact SeqAt.EqAt.same _
noncomputable def EqVs (w : World) (H0 : Heap) (φ : Ph) (σ : Sg) (d : Nat) (vs us : List V) : Prop := vs.length = us.length ∧ ∀ (i : Nat) v u, vs[i]? = some v → us[i]? = some u → EqV w H0 φ σ d v u
theorem EqVs.nil : EqVs w H0 φ σ d [] [] := ⟨rfl, fun i v u h => by simp at h⟩
theorem EqVs.cons {v u : V} {vs us : List V} (h : EqV w H0 φ σ d v u) (hs : EqVs w H0 φ σ d vs us) : EqVs w H0 φ σ d (v :: vs) (u :: us) :=
  ⟨by simp [hs.1], fun i x y hx hy => by
    cases i with
    | zero => simp at hx hy; subst hx hy; exact h
    | succ i => simp at hx hy; exact hs.2 i x y hx hy⟩
variable {sc : Scope} {n : Nat} {τ : Sg} {env : Env} {A' A : Around} {ρ : Lo} {s : Shared}
inductive LsAt (h : Heap) (l : Addr) (vs : List V) : Prop
  | mk (items : Array Value) (e : h.IsList l items) (hv : VRs vs items.toList) : LsAt h l vs
theorem Ok.isList (k : Ok w H0 sc n τ env A' ρ φ σ s) {l : Addr} {vs : List V} (h : Lst φ σ l vs) : LsAt s.heap l vs :=
  by obtain ⟨items, m, h1, h2⟩ := k.lst h; exact ⟨items, ⟨_, h1, rfl, m, rfl⟩, h2⟩
theorem EqVs.each : ∀ {φ : Ph} {σ : Sg} {d : Nat} {sc : Scope} {n : Nat} {τ : Sg} {env : Env} {A' : Around} {A : Around} {ρ : Lo} {s : Shared} {vs us : List V} {xs ys : Array Value} (k : Ok w H0 sc n τ env A' ρ φ σ s) (hu : A.units + d < cLine) (h : EqVs w H0 φ σ d vs us) (hx : VRs vs xs.toList) (hy : VRs us ys.toList),
    xs.size = ys.size ∧ ∀ j (h1 : j < xs.size) (h2 : j < ys.size), SeqAt.EqAt A s xs[j] ys[j] true := by
  apply @Mine.hk6; generalize ca1 (cx _) = φ, ca2 (cx _) = σ, ca3 (cx _) = d, ca4 (cx _) = sc, ca5 (cx _) = n, cz6 (cx _) = τ
  refine @Mine.hk6 _ _ _ _ _ _ _ neAround neAround _ neShared _ _ ?_; generalize ca1 (cx _) = env, ca2 (cx _) = A', ca3 (cx _) = A, ca4 (cx _) = ρ, ca5 (cx _) = s, cz6 (cx _) = vs
  apply @Mine.hk3; generalize ca1 (cx _) = us, ca2 (cx _) = xs, cz3 (cx _) = ys
  intro k hu h hx hy
  have e1 := size_of hx
  have e2 := size_of hy
  refine ⟨by rw [e1, e2, h.1], fun j h1 h2 => ?_⟩
  obtain ⟨x, gx, vx⟩ := hx.get (i := j) (v := vs[j]'(by lia)) (by simp)
  obtain ⟨y, gy, vy⟩ := hy.get (i := j) (v := us[j]'(by lia)) (by simp)
  have gx' : xs[j] = x := by simp [h1] at gx; exact gx
  have gy' : ys[j] = y := by simp [h2] at gy; exact gy
  rw [gx', gy']
  exact h.2 j _ _ (by simp) (by simp) sc n τ env A' A ρ s x y k hu vx vy
theorem of_rc {a b : Value} {k : Bool} {A : Around} {E : Value → Shared → Prop} {s : Shared} {Q : Value → Shared → Prop} (h : SeqAt.RcNeAt A s a b k) (hq : Q (.bool k) s) : wpAny (model pw w) A (compareOp .NotEq a b) Q E s := h pw w E Q hq
theorem all_true (n : Nat) : (List.range n).all (fun _ => true) = true := by simp
theorem EqV.tup {a b : Addr} {vs us : List V} (ha : Tup φ a vs) (hb : Tup φ b us) (h : EqVs w H0 φ σ d vs us) : EqV w H0 φ σ (d + 1) (.ref a) (.ref b) := fun sc n τ env A' A ρ s x y k hu hx hy => by
  refine VR.refE hx ?_; refine VR.refE hy ?_
  by_cases hne : a = b
  · subst hne; exact SeqAt.EqAt.same _
  obtain ⟨xs, g1, g2⟩ := k.tupT ha
  obtain ⟨ys, g3, g4⟩ := k.tupT hb
  have e := EqVs.each (A := A.in1) k (by show A.units + 1 + d < cLine; lia) h g2 g4
  have := SeqAt.RcAt.tuples (e := fun _ => true) g1 g3 (show A.units < cLine by lia) e.2
  refine SeqAt.EqAt.of_refs hne ?_
  rw [all_true, e.1] at this
  simpa using this
theorem EqV.lst {a b : Addr} {vs us : List V} (ha : Lst φ σ a vs) (hb : Lst φ σ b us) (h : EqVs w H0 φ σ d vs us) : EqV w H0 φ σ (d + 1) (.ref a) (.ref b) := fun sc n τ env A' A ρ s x y k hu hx hy => by
  refine VR.refE hx ?_; refine VR.refE hy ?_
  by_cases hne : a = b
  · subst hne; exact SeqAt.EqAt.same _
  obtain ⟨xs, g1, g2⟩ := k.isList ha
  obtain ⟨ys, g3, g4⟩ := k.isList hb
  have e := EqVs.each (A := A.in1) k (by show A.units + 1 + d < cLine; lia) h g2 g4
  have := SeqAt.RcAt.lists (e := fun _ => true) g1 g3 e.1 (show A.units < cLine by lia) e.2
  refine SeqAt.EqAt.of_refs hne ?_
  rw [all_true] at this
  exact this
theorem Room.lev {n : Nat} {A : Around} (h : Room n A) : A.units + 100 < cLine := by
  have := h.2.1
  unfold cLine; lia
variable {Q : V → Lo → Ph → Sg → Prop}
theorem C_eqTup {a b : Addr} {vs us : List V} (ha : Tup φ a vs) (hb : Tup φ b us) (h : EqVs w H0 φ σ 20 vs us) (q : Q (.bool true) ρ φ σ) : CmW w H0 sc n .Eq (.ref a) (.ref b) ρ φ σ Q := fun x y hx hy => by
  refine VR.refE hx ?_; refine VR.refE hy ?_
  refine W.leaf (b := .bool true) (fun τ env A s k => ?_) q
  obtain ⟨xs, g1, g2⟩ := k.tupT ha
  obtain ⟨ys, g3, g4⟩ := k.tupT hb
  have hu := k.room.lev
  have e := EqVs.each (A := A.in1) k (by show A.units + 1 + 20 < cLine; lia) h g2 g4
  refine SeqAt.eq_tupleAt (e := fun _ => true) g1 g3 (by lia) e.2 ⟨?_, rfl, rfl, rfl⟩
  rw [all_true, e.1]; simpa using VR.bool true
theorem C_eqLst {a b : Addr} {vs us : List V} (ha : Lst φ σ a vs) (hb : Lst φ σ b us) (h : EqVs w H0 φ σ 20 vs us) (q : Q (.bool true) ρ φ σ) : CmW w H0 sc n .Eq (.ref a) (.ref b) ρ φ σ Q := fun x y hx hy => by
  refine VR.refE hx ?_; refine VR.refE hy ?_
  refine W.leaf (b := .bool true) (fun τ env A s k => ?_) q
  obtain ⟨xs, g1, g2⟩ := k.isList ha
  obtain ⟨ys, g3, g4⟩ := k.isList hb
  have hu := k.room.lev
  have e := EqVs.each (A := A.in1) k (by show A.units + 1 + 20 < cLine; lia) h g2 g4
  refine SeqAt.eq_listAt (e := fun _ => true) g1 g3 e.1 (by lia) e.2 ⟨?_, rfl, rfl, rfl⟩
  rw [all_true]; exact .bool true
theorem C_neTup {a b : Addr} {vs us : List V} (ha : Tup φ a vs) (hb : Tup φ b us) (h : EqVs w H0 φ σ 20 vs us) (q : Q (.bool false) ρ φ σ) : CmW w H0 sc n .NotEq (.ref a) (.ref b) ρ φ σ Q := fun x y hx hy => by
  refine VR.refE hx ?_; refine VR.refE hy ?_
  refine W.leaf (b := .bool false) (fun τ env A s k => ?_) q
  obtain ⟨xs, g1, g2⟩ := k.tupT ha
  obtain ⟨ys, g3, g4⟩ := k.tupT hb
  have hu := k.room.lev
  have e := EqVs.each (A := A.in1) k (by show A.units + 1 + 20 < cLine; lia) h g2 g4
  refine of_rc (SeqAt.RcNeAt.tuples (e := fun _ => true) g1 g3 (by lia) e.2) ⟨?_, rfl, rfl, rfl⟩
  rw [all_true, e.1]; simpa using VR.bool false
theorem C_neLst {a b : Addr} {vs us : List V} (ha : Lst φ σ a vs) (hb : Lst φ σ b us) (h : EqVs w H0 φ σ 20 vs us) (q : Q (.bool false) ρ φ σ) : CmW w H0 sc n .NotEq (.ref a) (.ref b) ρ φ σ Q := fun x y hx hy => by
  refine VR.refE hx ?_; refine VR.refE hy ?_
  refine W.leaf (b := .bool false) (fun τ env A s k => ?_) q
  obtain ⟨xs, g1, g2⟩ := k.isList ha
  obtain ⟨ys, g3, g4⟩ := k.isList hb
  have hu := k.room.lev
  have e := EqVs.each (A := A.in1) k (by show A.units + 1 + 20 < cLine; lia) h g2 g4
  refine of_rc (SeqAt.RcNeAt.lists (e := fun _ => true) g1 g3 e.1 (by lia) e.2) ⟨?_, rfl, rfl, rfl⟩
  rw [all_true]; exact .bool false
theorem C_neLen {a b : Addr} {vs us : List V} (ha : Lst φ σ a vs) (hb : Lst φ σ b us) (h : vs.length ≠ us.length) (q : Q (.bool true) ρ φ σ) : CmW w H0 sc n .NotEq (.ref a) (.ref b) ρ φ σ Q := fun x y hx hy => by
  refine VR.refE hx ?_; refine VR.refE hy ?_
  refine W.leaf (b := .bool true) (fun τ env A s k => ?_) q
  obtain ⟨xs, g1, g2⟩ := k.isList ha
  obtain ⟨ys, g3, g4⟩ := k.isList hb
  have hu := k.room.lev
  exact of_rc (SeqAt.RcNeAt.lists_lengths g1 g3 (by rw [size_of g2, size_of g4]; simpa using h) (by lia)) ⟨.bool true, rfl, rfl, rfl⟩
theorem C_eqLen {a b : Addr} {vs us : List V} (ha : Lst φ σ a vs) (hb : Lst φ σ b us) (h : vs.length ≠ us.length) (q : Q (.bool false) ρ φ σ) : CmW w H0 sc n .Eq (.ref a) (.ref b) ρ φ σ Q := fun x y hx hy => by
  refine VR.refE hx ?_; refine VR.refE hy ?_
  refine W.leaf (b := .bool false) (fun τ env A s k => ?_) q
  obtain ⟨xs, g1, g2⟩ := k.isList ha
  obtain ⟨ys, g3, g4⟩ := k.isList hb
  have hu := k.room.lev
  exact SeqAt.eq_list_lengthsAt g1 g3 (by rw [size_of g2, size_of g4]; simpa using h) (by lia) ⟨.bool false, rfl, rfl, rfl⟩
theorem C_neNil {a b : Addr} {vs : List V} (ha : Lst φ σ a vs) (hb : Lst φ σ b []) (q : Q (.bool (!vs.isEmpty)) ρ φ σ) : CmW w H0 sc n .NotEq (.ref a) (.ref b) ρ φ σ Q := by
  cases vs with
  | nil => exact C_neLst ha hb .nil q
  | cons v r => exact C_neLen ha hb (by simp) q
theorem C_eqNil {a b : Addr} {vs : List V} (ha : Lst φ σ a vs) (hb : Lst φ σ b []) (q : Q (.bool vs.isEmpty) ρ φ σ) : CmW w H0 sc n .Eq (.ref a) (.ref b) ρ φ σ Q := by
  cases vs with
  | nil => exact C_eqLst ha hb .nil q
  | cons v r => exact C_eqLen ha hb (by simp) q
theorem C_neB {x : Array UInt8} (q : Q (.bool false) ρ φ σ) : CmW w H0 sc n .NotEq (.bytes x) (.bytes x) ρ φ σ Q := fun a b ha hb => by
  refine VR.bytesE ha (fun _ => ?_); refine VR.bytesE hb (fun _ => ?_); exact W.leaf (fun τ env A s k => ne_bytes ⟨by simpa using VR.bool false, rfl, rfl, rfl⟩) q
theorem C_eqNone (q : Q (.bool true) ρ φ σ) : CmW w H0 sc n .Eq .none .none ρ φ σ Q := fun a b ha hb => by
  refine VR.noneE ha ?_; refine VR.noneE hb ?_
  refine W.leaf (b := .bool true) (fun τ env A s k => ?_) q
  exact SeqAt.RcAt.none_none pw w _ _ ⟨.bool true, rfl, rfl, rfl⟩
theorem O_subI {x y : Int} (q : Q (.int (x - y)) ρ φ σ) : OpW w H0 sc n .Sub (.int x) (.int y) ρ φ σ Q := fun a b ha hb => by
  refine VR.intE ha (fun _ => ?_); refine VR.intE hb (fun _ => ?_); exact W.leaf (fun τ env A s k => PyProof.Rows.sub_int ⟨.int _ _, rfl, rfl, rfl⟩) q
theorem S_exprA {e : PySem.Expr} {pos : Pos} {Q : Fl → Lo → Ph → Sg → Prop} (hk : sc.kind = .function) (hs : ∀ env, env.scope.kind = .function → swapsWith e none pos.line env = pure false) (h : EW w H0 sc n e ρ φ σ fun _ ρ φ σ => Q .next ρ φ σ) : SW w H0 sc n (.Expr e pos) ρ φ σ Q := fun τ env A s k => by
  have hf : env.scope.kind = .function := by rw [k.ok.scope]; exact hk
  exact wpAny_Expr_any (Post.run (h τ env A s k) (fun x s1 b1 ρ1 φ1 σ1 r1 k1 m1 h1 => ⟨.next, ρ1, φ1, σ1, .next, k1, m1, h1⟩)) (by unfold interactive; rw [hf]; rfl) (hs env hf)
theorem B_tuple {t : Addr} {vs : List V} (h : Tup φ t vs) (q : Q (.ref t) ρ φ σ) : CallW w H0 sc n (.type "tuple") [.ref t] ρ φ σ Q := fun xs hx => by
  cases hx with | cons h1 hx =>
  refine VRs.nilE hx ?_; refine VR.refE h1 ?_
  refine W.leaf (b := .ref t) (fun τ env A s k => ?_) q
  obtain ⟨xs, g1, g2⟩ := k.tupT h
  exact call_tuple_same g1 ⟨.ref t, rfl, rfl, rfl⟩
end
end Mine
namespace Mine
section
variable {sc : Scope} {n : Nat} {ρ : Lo} {φ : Ph} {σ : Sg} {Q : V → Lo → Ph → Sg → Prop}
noncomputable def isB (x : Array UInt8) : Value → Bool
  | .bytes c _ => decide (c.toList = x.toList)
  | _ => false
theorem bytes_any {is : List (Array UInt8)} {xs : List Value} (h : VRs (is.map V.bytes) xs) (x : Array UInt8) : xs.any (isB x) = is.any (· == x) ∧ xs.countP (isB x) = is.count x ∧ ∀ y ∈ xs, ∃ j t, y = .bytes j t := by
  induction is generalizing xs with
  | nil => refine VRs.nilE h ?_; exact ⟨rfl, rfl, fun _ h => (nomatch h)⟩
  | cons i r ih =>
    cases h with
    | cons h1 h2 =>
      refine VR.bytesE h1 (fun _ => ?_)
      have := ih h2
      have e : decide (i.toList = x.toList) = (i == x) := by
        rw [Bool.eq_iff_iff]; simp only [decide_eq_true_eq, beq_iff_eq]; exact ⟨fun h => Array.toList_inj.mp h, fun h => by rw [h]⟩
      refine ⟨by rw [List.any_cons, List.any_cons, this.1, ← e]; rfl, ?_, fun y hy => ?_⟩
      · rw [List.countP_cons, this.2.1, List.count_cons]; simp only [isB, e]
      rcases List.mem_cons.mp hy with rfl | hy
      · exact ⟨_, _, rfl⟩
      · exact this.2.2 y hy
theorem isB_gives {y : Value} {x : Array UInt8} {t : Tok} (h : ∃ j u, y = .bytes j u) : MeetsSeq.EqGives y (.bytes x t) (isB x y) := by
  obtain ⟨j, u, rfl⟩ := h
  exact fun prog w A E s Q h => eqBool_bytes h
theorem C_inLB {l : Addr} {is : List (Array UInt8)} {x : Array UInt8} (hl : Lst φ σ l (is.map .bytes)) (q : Q (.bool (is.any (· == x))) ρ φ σ) : CmW w H0 sc n .In (.bytes x) (.ref l) ρ φ σ Q := fun a b ha hb => by
  refine VR.bytesE ha (fun _ => ?_); refine VR.refE hb ?_
  refine W.leaf (fun τ env A s k => ?_) q
  obtain ⟨items, m, h1, hv⟩ := k.lst hl
  have e := bytes_any hv x
  refine PySem.SeqRoads2.in_list (isB x) (fun y hy => isB_gives (e.2.2 y (by simpa using hy))) h1 ⟨?_, rfl, rfl, rfl⟩
  rw [← Array.any_toList, e.1]; exact .bool _
theorem C_notInLB : ∀ {sc : Scope} {n : Nat} {ρ : Lo} {φ : Ph} {σ : Sg} {Q : V → Lo → Ph → Sg → Prop} {l : Addr} {is : List (Array UInt8)} {x : Array UInt8} (hl : Lst φ σ l (is.map .bytes)) (q : Q (.bool (!is.any (· == x))) ρ φ σ), CmW w H0 sc n .NotIn (.bytes x) (.ref l) ρ φ σ Q := by
  apply @Mine.hk6; generalize ca1 (cx _) = sc, ca2 (cx _) = n, ca3 (cx _) = ρ, ca4 (cx _) = φ, ca5 (cx _) = σ, cz6 (cx _) = Q
  apply @Mine.hk3; generalize ca1 (cx _) = l, ca2 (cx _) = is, cz3 (cx _) = x
  intro hl q
  intro a b ha hb
  refine VR.bytesE ha (fun _ => ?_); refine VR.refE hb ?_
  refine W.leaf (fun τ env A s k => ?_) q
  obtain ⟨items, m, h1, hv⟩ := k.lst hl
  have e := bytes_any hv x
  refine PySem.SeqRoads2.notIn_list (isB x) (fun y hy => isB_gives (e.2.2 y (by simpa using hy))) h1 ⟨?_, rfl, rfl, rfl⟩
  rw [← Array.any_toList, e.1]; exact .bool _
theorem E_countB : ∀ {sc : Scope} {n : Nat} {ρ : Lo} {φ : Ph} {σ : Sg} {Q : V → Lo → Ph → Sg → Prop} {o e : PySem.Expr} {apos pos : Pos} (hs : noStar e = true) (he : ∀ env, eval (.Call (.Attribute o (Str.ofString "count") apos) [e] [] pos) env = (do
      let ov ← eval o env
      standAt apos.atName
      let (f, first) ← holding [ov] (getMethod ov (Str.ofString "count") (do return (← importBound o env).getD true))
      callWith pos f first (backTo pos (starEach [e] env)) [])) (h : EW w H0 sc n o ρ φ σ fun ov ρ φ σ => ∃ (l : Addr) (is : List (Array UInt8)), ov = .ref l ∧ LstP φ l (is.map .bytes) ∧ EW w H0 sc n e ρ φ σ fun v ρ φ σ => ∃ x, v = .bytes x ∧ LstP φ l (is.map .bytes) ∧ Q (.int (is.count x)) ρ φ σ),
    EW w H0 sc n (.Call (.Attribute o (Str.ofString "count") apos) [e] [] pos) ρ φ σ Q := by
  apply @Mine.hk6; generalize ca1 (cx _) = sc, ca2 (cx _) = n, ca3 (cx _) = ρ, ca4 (cx _) = φ, ca5 (cx _) = σ, cz6 (cx _) = Q
  apply @Mine.hk4; generalize ca1 (cx _) = o, ca2 (cx _) = e, ca3 (cx _) = apos, cz4 (cx _) = pos
  intro hs he h
  refine E_meth (pl := fun env => do return (← importBound o env).getD true) (by simpa using hs) (h.mono fun ov ρ φ σ hPt => ?_) he
  obtain ⟨l, is, e1, hl, h2⟩ := hPt
  subst e1
  refine GM_list PySem.F.slot_list_count PySem.F.type_list_count (.inr hl) ⟨mach rfl, A_cons (h2.mono fun v ρ φ σ ⟨x, e2, hl, q⟩ => A_nil fun xs hx => ?_) (one_star hs)⟩
  subst e2
  cases hx with | cons h1 hx => cases hx with | cons h2 hx =>
  refine VRs.nilE hx ?_; refine VR.refE h1 ?_; refine VR.bytesE h2 (fun _ => ?_)
  refine W.leaf (fun τ env A s k => ?_) q
  obtain ⟨items, m, g1, hv⟩ := k.lst (.inr hl)
  have e := bytes_any hv x
  refine call_meets PySem.F.slot_list_count ⟨_, g1, rfl⟩ PySem.F.entry_list_count (PySem.F.args_list_count_2 _ _) (MeetsSeq.list_count l items m _ (isB x) fun y hy => isB_gives (e.2.2 y (by simpa using hy))) ⟨g1, ?_⟩
  refine ⟨?_, rfl, rfl, rfl⟩
  rw [e.2.1]; exact .int _ _
noncomputable def negB : Array UInt8 := #[110, 101, 103]
noncomputable def absB : Array UInt8 := #[97, 98, 115]
noncomputable def opsK : Value → Option Nat
  | .bytes b _ => if b = absB then some 0 else if b = negB then some 1 else none
  | _ => none
noncomputable def opKind : PyProof.Rows.KeyKind where
  α := Nat
  blt a b := decide (a < b)
  irrefl a := by simp
  trans a b c h1 h2 := by simp at *; lia
  negTrans a b c h := by simp at *; lia
  total a b h1 h2 := by simp at *; lia
  keyOf := opsK
  dflt := 0
theorem slot_bytes_lt : Slot "bytes" "__lt__" "bytes.__lt__" :=
  .of (owner := "bytes") (n := "__lt__") (by rw [typeLookup_type, builtinLookup_eq_fast]; kernel_rfl) (by decide +kernel) (by decide +kernel) (by decide +kernel)
    (by first | exact .inl (by decide +kernel) | exact .inr (by decide +kernel)) (by rw [isSubtype_type]; kernel_rfl)
theorem entry_bytes_lt : entryFor table "bytes.__lt__" = some Builtin.«bytes.__lt__» := entryFor_of_tree (by kernel_rfl)
theorem args_bytes_lt_2 (a b : Value) : argsOk "bytes.__lt__" ⟨[a, b], []⟩ := by
  unfold argsOk; kernel_rfl
theorem ops_two {b : Array UInt8} {k : Nat} {t : Tok} (h : opsK (.bytes b t) = some k) : (b = absB ∧ k = 0) ∨ (b = negB ∧ k = 1) := by
  by_cases h1 : b = absB
  · simp [opsK, h1] at h; exact .inl ⟨h1, h.symm⟩
  · by_cases h2 : b = negB
    · subst h2; simp [opsK, h1] at h; exact .inr ⟨rfl, h.symm⟩
    · simp [opsK, h1, h2] at h
theorem lt_gives (b c : Array UInt8) (t u : Tok) (k : Bool) (hk : Builtin.Bytes.holds "__lt__" (Builtin.Bytes.order b.toList c.toList) = k) : Gives (Builtin.«bytes.__lt__» ⟨[.bytes b t, .bytes c u], []⟩) (.val (.bool k)) := by
  refine .of_wp fun M A E s Q hq => ?_
  show wpAny M A (isInstance (.bytes c u) (.type "bytes") >>= fun r => _) _ E s
  refine wpAny_bind (wpAny_isInstance (typeIs_bytes s c u) F.sub_bytes_bytes ?_)
  exact wpAny_pure ⟨_, rfl, by rw [← hk] at hq; exact hq⟩
theorem opKind_oneLt : opKind.OneLt := by
  intro prog w A E s x y a b Q ha hb h
  cases x with
  | bytes bx tx =>
    cases y with
    | bytes b2 ty =>
      have e : Builtin.Bytes.holds "__lt__" (Builtin.Bytes.order bx.toList b2.toList) = opKind.blt a b := by
        rcases ops_two (t := tx) ha with ⟨rfl, rfl⟩ | ⟨rfl, rfl⟩ <;> rcases ops_two (t := ty) hb with ⟨rfl, rfl⟩ | ⟨rfl, rfl⟩ <;> decide +kernel
      rw [oneLt'_eq]
      simp only [if_true]
      refine wpAny_bind (wpAny_cRoomFor_byValue rfl ?_)
      refine wpAny_bind (wpAny_callSpecialIfBound?_slot (typeIs_bytes s bx tx) slot_bytes_lt (call_gives slot_bytes_lt (typeIs_bytes s bx tx) entry_bytes_lt (args_bytes_lt_2 _ _) (lt_gives _ _ _ _ _ e) ?_))
      exact wpAny_truthy_bool h
    | _ => cases hb
  | _ => cases ha
theorem ops_of {b : Array UInt8} {t : Tok} (h : b = absB ∨ b = negB) : ∃ k, opsK (.bytes b t) = some k := by
  rcases h with rfl | rfl
  · exact ⟨0, by simp [opsK]⟩
  · exact ⟨1, by simp [opsK, show negB ≠ absB by decide]⟩
noncomputable def opR (b : Array UInt8) : Nat := if b = absB then 0 else 1
theorem ops_is {b : Array UInt8} {t : Tok} (h : b = absB ∨ b = negB) : opsK (.bytes b t) = some (opR b) := by
  rcases h with rfl | rfl
  · simp [opsK, opR]
  · simp [opsK, opR, show negB ≠ absB by decide]
noncomputable def opsL (is : List (Array UInt8)) : List (Array UInt8) := List.replicate (is.count absB) absB ++ List.replicate (is.count negB) negB
theorem opsL_of : ∀ {js : List (Array UInt8)}, (∀ b ∈ js, b = absB ∨ b = negB) → js.Pairwise (fun a b => opR a ≤ opR b) → js = opsL js
  | [], _, _ => rfl
  | b :: r, h, hp => by
    have ih := opsL_of (fun c hc => h c (.tail _ hc)) (List.pairwise_cons.mp hp).2
    have h1 := (List.pairwise_cons.mp hp).1
    rcases h b (.head _) with rfl | rfl
    · have e1 : (absB :: r).count absB = r.count absB + 1 := by simp
      have e2 : (absB :: r).count negB = r.count negB := List.count_cons_of_ne (by decide)
      unfold opsL
      rw [e1, e2, List.replicate_succ, List.cons_append]
      unfold opsL at ih
      rw [← ih]
    · have all : ∀ c ∈ r, c = negB := fun c hc => (h c (.tail _ hc)).elim (fun e => by
        subst e
        have := h1 _ hc
        exact absurd this (by decide)) id
      have e3 : r = List.replicate r.length negB := List.eq_replicate_iff.mpr ⟨rfl, all⟩
      have e1 : (negB :: r).count absB = 0 := by
        rw [List.count_eq_zero]
        intro hm
        rcases List.mem_cons.mp hm with e | hm
        · exact absurd e (by decide)
        · exact absurd (all _ hm) (by decide)
      have e2 : (negB :: r).count negB = r.length + 1 := by
        rw [e3]; simp
      unfold opsL
      rw [e1, e2]
      simp [List.replicate_succ, ← e3]
theorem opsL_perm {is js : List (Array UInt8)} (h : js.Perm is) : opsL js = opsL is := by
  unfold opsL; rw [h.count_eq, h.count_eq]
noncomputable def bof : Value → Array UInt8
  | .bytes b _ => b
  | _ => #[]
theorem KK_op {xs : Array Keyed} {i : Nat} (hi : i < xs.size) {b : Array UInt8} {t : Tok} {q : Value} (hx : xs[i] = (.bytes b t, q)) (hb : b = absB ∨ b = negB) : PyProof.Rows.KK opKind xs i = opR b := by
  unfold PyProof.Rows.KK; rw [getElem?_pos xs i hi, hx]
  show (opsK (.bytes b t)).getD 0 = opR b
  rw [ops_is (t := t) hb]; rfl
theorem bytes_vrs : ∀ {vs : List Value}, (∀ v ∈ vs, ∃ b t, v = .bytes b t) → VRs ((vs.map bof).map .bytes) vs
  | [], _ => .nil
  | v :: r, h => by
    obtain ⟨b, t, rfl⟩ := h v (.head _)
    exact .cons (.bytes _ _) (bytes_vrs fun u hu => h u (.tail _ hu))
theorem op_out : ∀ {vs : List Value} {xs : Array Keyed} (hV : ∀ v ∈ vs, ∃ b t, v = .bytes b t ∧ (b = absB ∨ b = negB)) (hp : xs.Perm (pairsOf vs)) (hs : SortedToK opKind xs (pairsOf vs).size),
    VRs ((opsL (vs.map bof)).map .bytes) (xs.map (·.2)).toList := by
  apply @Mine.hk2; generalize ca1 (cx _) = vs, cz2 (cx _) = xs
  intro hV hp hs
  have hl : xs.toList.Perm (vs.zip vs) := by rw [← pairsOf_toList]; exact Array.perm_iff_toList_perm.mp hp
  have hmem : ∀ p, p ∈ xs.toList → p.1 = p.2 ∧ p.1 ∈ vs := fun p hp' => mem_zip_self (hl.mem_iff.mp hp')
  have e : (xs.map (·.2)).toList = xs.toList.map (·.1) := by
    rw [Array.toList_map]; exact List.map_congr_left fun p hp' => (hmem p hp').1.symm
  have hall : ∀ v ∈ xs.toList.map (·.1), ∃ b t, v = Value.bytes b t ∧ (b = absB ∨ b = negB) := fun v hv => by
    obtain ⟨p, hp', rfl⟩ := List.mem_map.mp hv
    exact hV _ (hmem p hp').2
  rw [e]
  have h1 := bytes_vrs (vs := xs.toList.map (·.1)) fun v hv => by obtain ⟨b, t, e, _⟩ := hall v hv; exact ⟨b, t, e⟩
  have hperm : ((xs.toList.map (·.1)).map bof).Perm (vs.map bof) := by
    have h2 := (hl.map (fun p : Keyed => p.1)).map bof
    have e2 : (vs.zip vs).map (fun p : Keyed => p.1) = vs := List.map_fst_zip (Nat.le_refl _)
    rwa [e2] at h2
  have hsorted : ((xs.toList.map (·.1)).map bof) = opsL ((xs.toList.map (·.1)).map bof) := by
    refine opsL_of (fun b hb => ?_) ?_
    · obtain ⟨v, hv, rfl⟩ := List.mem_map.mp hb
      obtain ⟨b, t, rfl, h⟩ := hall v hv
      exact h
    · rw [List.pairwise_iff_getElem]
      intro i j hi hj hij
      have hi' : i < xs.size := by simpa using hi
      have hj' : j < xs.size := by simpa using hj
      have h1 := hs i j (Nat.le_of_lt hij) (by rw [← hp.size_eq]; exact hj')
      obtain ⟨x, t, ex, hx⟩ := hV _ (hmem xs[i] (by simp)).2
      obtain ⟨y, u, ey, hy⟩ := hV _ (hmem xs[j] (by simp)).2
      rw [KK_op hi' (b := x) (t := t) (q := xs[i].2) (Prod.ext ex rfl) hx, KK_op hj' (b := y) (t := u) (q := xs[j].2) (Prod.ext ey rfl) hy] at h1
      change decide (opR y < opR x) = false at h1
      have := of_decide_eq_false h1
      simp only [List.getElem_map, Array.getElem_toList]
      rw [show bof xs[i].1 = x by rw [ex]; rfl, show bof xs[j].1 = y by rw [ey]; rfl]
      lia
  rw [hsorted, opsL_perm hperm] at h1
  exact h1
theorem op_keys {vs : List Value} (hV : ∀ v ∈ vs, ∃ b t, v = .bytes b t ∧ (b = absB ∨ b = negB)) : KeysOf opKind (pairsOf vs) := by
  intro p hp
  rw [pairsOf_toList] at hp
  obtain ⟨b, t, e, h⟩ := hV _ (mem_zip_self hp).2
  exact ⟨opR b, by rw [e]; exact ops_is (t := t) h⟩
theorem op_kind {v₁ v₂ : Value} {vs : List Value} (hV : ∀ v ∈ v₁ :: v₂ :: vs, ∃ b t, v = .bytes b t ∧ (b = absB ∨ b = negB)) : keyKind' (v₁ :: v₂ :: vs).toArray = pure oneType' := by
  have m1 : ∀ (l : List Value), (∀ v ∈ l, ∃ b t, v = .bytes b t ∧ (b = absB ∨ b = negB)) → l.mapM firstOfTuple' = pure (l.map fun _ => none) := by
    intro l
    induction l with
    | nil => intro _; simp
    | cons v r ih =>
      intro h
      obtain ⟨b, t, rfl, _⟩ := h v (.head _)
      rw [List.mapM_cons, show firstOfTuple' (.bytes b t) = pure none from rfl, ih fun u hu => h u (.tail _ hu)]; simp
  have m2 : ∀ (l : List Value), (∀ v ∈ l, ∃ b t, v = .bytes b t ∧ (b = absB ∨ b = negB)) → l.mapM typeOf = pure (l.map fun _ => Value.type "bytes") := by
    intro l
    induction l with
    | nil => intro _; simp
    | cons v r ih =>
      intro h
      obtain ⟨b, t, rfl, _⟩ := h v (.head _)
      rw [List.mapM_cons, ih fun u hu => h u (.tail _ hu)]
      show (pure (Value.type "bytes") >>= fun b => pure _ >>= fun bs => pure (b :: bs)) = _
      simp
  rw [keyKind'_eq, List.mapM_toArray, m1 _ hV]
  simp only [map_pure, pure_bind]
  rw [if_neg (by simp), if_neg (by simp)]
  rw [oneTypeOnly'_eq, List.mapM_toArray, m2 _ hV]
  simp only [map_pure, pure_bind]
  have hall : ((List.map (fun _ => Value.type "bytes") (v₁ :: v₂ :: vs)).toArray.all fun x => x == Value.type "bytes") = true := by
    simp only [List.all_toArray, List.all_map, List.all_eq_true]
    intro _ _
    rfl
  have h0 : (List.map (fun _ => Value.type "bytes") (v₁ :: v₂ :: vs)).toArray[0]? = some (Value.type "bytes") := by simp
  rw [h0]
  simp only [hall, if_true, pure_bind, Option.isSome_some]
theorem B_sortL {l : Addr} {is : List (Array UInt8)} (hl : Lst φ σ l (is.map .bytes)) (hz : is.length ≤ 60) (hi : ∀ b ∈ is, b = absB ∨ b = negB)
    (q : ∀ a, σ a = none → φ a = none → Q (.ref a) ρ φ (upd σ a (.list ((opsL is).map .bytes)))) : CallW w H0 sc n (.builtin "sorted") [.ref l] ρ φ σ Q := fun xs hx => by
  cases hx with | cons h1 hx =>
  refine VRs.nilE hx ?_; refine VR.refE h1 ?_
  intro τ env A s k
  obtain ⟨items, hL, hv⟩ := k.isList hl
  have hb := (bytes_any hv #[]).2.2
  have hbof : items.toList.map bof = is := by
    have : ∀ {is : List (Array UInt8)} {xs : List Value}, VRs (is.map V.bytes) xs → xs.map bof = is := by
      intro is
      induction is with
      | nil => intro xs h; refine VRs.nilE h ?_; rfl
      | cons i r ih => intro xs h; cases h with | cons h1 h2 => refine VR.bytesE h1 (fun _ => ?_); rw [List.map_cons, ih h2]; rfl
    exact this hv
  have hV : ∀ v ∈ items.toList, ∃ b t, v = Value.bytes b t ∧ (b = absB ∨ b = negB) := fun v hv' => by
    obtain ⟨b, t, rfl⟩ := hb v hv'
    exact ⟨b, t, rfl, hi b (by rw [← hbof]; exact List.mem_map.mpr ⟨_, hv', rfl⟩)⟩
  have hlen : items.toList.length < 64 := by have := hv.length; rw [List.length_map] at this; lia
  refine sortedK opKind_oneLt (vs := items.toList) (by simpa using hL) (op_keys hV) (fun v₁ v₂ rest e => op_kind (by rw [← e]; exact hV)) hlen fun st' hp hs => ?_
  obtain ⟨e, he⟩ := sortedAll_at s.heap items.toList ((arrOf st').map (·.2))
  have ho := op_out hV hp hs
  rw [hbof] at ho
  obtain ⟨k2, f1, f2⟩ := k.newAt (s' := { s with heap := sortedAll s.heap items.toList ((arrOf st').map (·.2)) }) (c := .list ((opsL is).map .bytes)) (Nat.le_succ _) (fun _ _ => sortedAll_old) he ⟨_, e, rfl, ho⟩
  exact ⟨_, ρ, φ, _, .ref _, k2, ⟨rfl, rfl⟩, q _ f1 f2⟩
end
end Mine
namespace Mine
section
variable {sc : Scope} {n : Nat} {ρ : Lo} {φ : Ph} {σ : Sg} {Q : V → Lo → Ph → Sg → Prop}
theorem KVs.keys {K : Type} {xs : List (K × V)} {kvs : List (K × Value)} (h : KVs xs kvs) : kvs.map (·.1) = xs.map (·.1) := by
  induction h with
  | nil => rfl
  | cons _ _ ih => simp [ih]
theorem B_sortD : ∀ {sc : Scope} {n : Nat} {ρ : Lo} {φ : Ph} {σ : Sg} {Q : V → Lo → Ph → Sg → Prop} {d : Addr} {xs : List (List UInt8 × V)} (hd : σ d = some (.bdict xs)) (hz : xs.length ≤ 60) (hi : ∀ b ∈ xs.map (fun p => p.1.toArray), b = absB ∨ b = negB) (q : ∀ a, σ a = none → φ a = none → Q (.ref a) ρ φ (upd σ a (.list ((opsL (xs.map fun p => p.1.toArray)).map .bytes)))), CallW w H0 sc n (.builtin "sorted") [.ref d] ρ φ σ Q := by
  apply @Mine.hk6; generalize ca1 (cx _) = sc, ca2 (cx _) = n, ca3 (cx _) = ρ, ca4 (cx _) = φ, ca5 (cx _) = σ, cz6 (cx _) = Q
  apply @Mine.hk2; generalize ca1 (cx _) = d, cz2 (cx _) = xs
  intro hd hz hi q
  intro ys hy
  cases hy with | cons h1 hy =>
  refine VRs.nilE hy ?_; refine VR.refE h1 ?_
  intro τ env A s k
  obtain ⟨kvs, a1, a2, a3⟩ := k.bdict hd
  obtain ⟨ep, hat⟩ := a1.dictAt
  have hlen : kvs.length = xs.length := a2.length
  refine call_function_entry kind_sorted plain_sorted entry_sorted (args_sorted1 _) ?_
  unfold Builtin.«sorted»
  refine wpAny_bind (m := checkCount "sorted" 1 1 _) (wpAny_pure ?_)
  refine wpAny_bind (kdu_collect (A := A.in1) (kdl_dict (knd := bytesKind pw w) (kvs := kvs) (ep := ep) a3) k.room.2.2 hat (by rw [hlen, sizeLine_eq]; lia) fun h' tk acc hk hacc => ?_)
  have hl : acc.toList.length = kvs.length := by rw [Array.length_toList]; exact hacc.1
  refine wpAny_bind (wpAny_newList ?_ (by rw [hl, hlen, sizeLine_eq]; lia))
  have hmap : acc.toList.map bof = xs.map fun p => p.1.toArray := by
    rw [show (xs.map fun p : List UInt8 × V => p.1.toArray) = (xs.map (·.1)).map List.toArray by rw [List.map_map]; rfl, ← a2.keys]
    refine List.ext_getElem (by simpa using hl) fun i h1 h2 => ?_
    simp only [List.getElem_map]
    have hi1 : i < acc.size := by simpa using h1
    obtain ⟨kk, x, e1, e2⟩ := hacc.2 i acc[i] (by simp [hi1])
    obtain ⟨t, ht⟩ := isBytes_shape e2
    have hi2 : i < kvs.length := by simpa using h2
    rw [List.getElem?_eq_getElem hi2] at e1
    have e1 := Option.some.inj e1
    rw [Array.getElem_toList, ht, e1]; rfl
  have hV : ∀ v ∈ acc.toList, ∃ b t, v = Value.bytes b t ∧ (b = absB ∨ b = negB) := fun v hv => by
    obtain ⟨i, hi1, rfl⟩ := List.mem_iff_getElem.mp hv
    have hi1' : i < acc.size := by simpa using hi1
    obtain ⟨kk, x, e1, e2⟩ := hacc.2 i acc[i] (by simp [hi1'])
    obtain ⟨t, ht⟩ := isBytes_shape e2
    refine ⟨kk.toArray, t, by rw [Array.getElem_toList]; exact ht, hi _ ?_⟩
    rw [← hmap]
    exact List.mem_map.mpr ⟨_, hv, by rw [Array.getElem_toList, ht]; rfl⟩
  have hoL : (h'.push (seqObj "list" acc.toList.toArray 0)).get? h'.objs.size = some (seqObj "list" acc.toList.toArray 0) := Heap.get?_push_size _ rfl
  refine wpAny_bind (wpAny_holding (wpAny_call_entry slot_list_sort ⟨_, hoL, rfl⟩ entry_list_sort (list_sort_treeK opKind_oneLt hoL (op_keys hV) (fun v₁ v₂ rest e => op_kind (by rw [← e]; exact hV)) (by lia) fun st' hp hs => ⟨_, rfl, ?_⟩) (args_list_sort _)))
  refine wpAny_pure ⟨_, rfl, ?_⟩
  have ho := op_out hV hp hs
  rw [hmap] at ho
  obtain ⟨e, he⟩ := sortedHeap_at (out := (arrOf st').map (·.2)) hoL
  have keep : ∀ b o, h'.get? b = some o → (sortedHeap (h'.push (seqObj "list" acc.toList.toArray 0)) h'.objs.size acc.toList ((arrOf st').map (·.2))).get? b = some o := fun b o this => by
    have lt := Heap.lt_size this
    rw [sortedHeap_old (Nat.ne_of_lt lt) (by rw [size_push']; exact Nat.lt_succ_of_lt lt), Heap.get?_push_ne _ _ _ (Nat.ne_of_lt lt)]
    exact this
  have k1 := k.grow (s' := { s with heap := h', toks := tk }) hk
  obtain ⟨k2, f1, f2⟩ := k1.newAt (s' := { s with heap := sortedHeap (h'.push (seqObj "list" acc.toList.toArray 0)) h'.objs.size acc.toList ((arrOf st').map (·.2)), toks := tk }) (c := .list ((opsL (xs.map fun p => p.1.toArray)).map .bytes)) (Nat.le_refl _) keep he ⟨_, e, rfl, ho⟩
  exact ⟨_, ρ, φ, _, .ref _, k2, ⟨rfl, rfl⟩, q _ f1 f2⟩
theorem B_maxL : ∀ {sc : Scope} {n : Nat} {ρ : Lo} {φ : Ph} {σ : Sg} {Q : V → Lo → Ph → Sg → Prop} {l : Addr} {is : List Int} (hl : Lst φ σ l (is.map .int)) (hne : 0 < is.length) (q : ∀ M, M ∈ is → (∀ a ∈ is, a ≤ M) → Q (.int M) ρ φ σ), CallW w H0 sc n (.builtin "max") [.ref l] ρ φ σ Q := by
  apply @Mine.hk6; generalize ca1 (cx _) = sc, ca2 (cx _) = n, ca3 (cx _) = ρ, ca4 (cx _) = φ, ca5 (cx _) = σ, cz6 (cx _) = Q
  apply @Mine.hk2; generalize ca1 (cx _) = l, cz2 (cx _) = is
  intro hl hne q
  intro ys hy
  cases hy with | cons h1 hy =>
  refine VRs.nilE hy ?_; refine VR.refE h1 ?_
  intro τ env A s k
  obtain ⟨items, hL, hv⟩ := k.isList hl
  have hi : IntsAre items.toList is := by
    have : ∀ {is : List Int} {xs : List Value}, VRs (is.map V.int) xs → IntsAre xs is := by
      intro is
      induction is with
      | nil => intro xs h; refine VRs.nilE h ?_; exact .nil
      | cons i r ih => intro xs h; cases h with | cons h1 h2 => refine VR.intE h1 (fun _ => ?_); exact .cons _ _ (ih h2)
    exact this hv
  obtain ⟨xs, e⟩ := hi.allInts.items
  have hns : is = xs.toList.map (·.1) := by
    rw [← hi.numsOf, ← nums_intItems, ← e]
  have hsz : 0 < xs.size := by
    have h3 := hne; rw [hns, List.length_map, Array.length_toList] at h3; exact h3
  rw [show items = items.toList.toArray by simp, e] at hL
  refine max_intList k.room.2.2 hL hsz fun v h' tk hv hk => ?_
  obtain ⟨t, rfl⟩ := intItems_at hv
  obtain ⟨h1, h2⟩ := argBest_gt (numAt xs) (xs.size - 1)
  refine ⟨_, ρ, φ, σ, .int _ _, k.grow (s' := { s with heap := h', toks := tk }) hk, ⟨rfl, rfl⟩, q _ ?_ fun a ha => ?_⟩
  · rw [hns, numAt_eq]; exact getD_mem (by rw [List.length_map, Array.length_toList]; lia)
  · rw [hns] at ha
    obtain ⟨j, hj, rfl⟩ := mem_getD ha
    rw [List.length_map, Array.length_toList] at hj
    rw [← numAt_eq]; exact h2 j (by lia)
theorem B_item {e i : PySem.Expr} {d : Addr} {key : Array UInt8} (hs : ∀ y, subscripted i false (.ref d) y = operate [.ref d, y] (getItem (.ref d) y))
    (q : ∃ xs v, σ d = some (.bdict xs) ∧ valV xs key.toList = some v ∧ Q v ρ φ σ) : ∀ x y, VR (.ref d) x → VR (.bytes key) y → W w H0 sc n VR (fun _ => subscriptTail e i x y) ρ φ σ Q := fun x y hx hy => by
  refine VR.refE hx ?_; refine VR.bytesE hy (fun _ => ?_)
  obtain ⟨xs, v, hd, hv, q⟩ := q
  refine W.leaf (b := v) (fun τ env A s kk => ?_) q
  obtain ⟨kvs, h1, h2, h3⟩ := kk.bdict hd
  have hr := h2.value key.toList
  rw [hv] at hr
  cases e : valueAt kvs key.toList with
  | none => rw [e] at hr; cases hr
  | some u =>
    rw [e] at hr
    cases hr with
    | some hvu => exact tail_any h1.typeIs slot_dict_getitem.lookup (wpAny_getItem_of (k := key.toList) (by simp [bytesKind, isBytes]) h1.mapOf e ⟨hvu, rfl, rfl, rfl⟩) (hs _)
abbrev DsW (w : World) (H0 : Heap) (sc : Scope) (n : Nat) (a : Addr) (k v : V) (ρ : Lo) (φ : Ph) (σ : Sg) (Q : Lo → Ph → Sg → Prop) : Prop := ∀ y u, VR k y → VR v u → W w H0 sc n UR (fun _ => dictSet a y u) ρ φ σ fun _ => Q
noncomputable def StW (w : World) (H0 : Heap) (sc : Scope) (n : Nat) (a : Addr) : List (V × V) → Lo → Ph → Sg → (Lo → Ph → Sg → Prop) → Prop
  | [], ρ, φ, σ, Q => Q ρ φ σ
  | (k, v) :: r, ρ, φ, σ, Q => DsW w H0 sc n a k v ρ φ σ fun ρ φ σ => StW w H0 sc n a r ρ φ σ Q
noncomputable def PrW (w : World) (H0 : Heap) (sc : Scope) (n : Nat) : List (Option PySem.Expr) → List PySem.Expr → Lo → Ph → Sg → (List (V × V) → Lo → Ph → Sg → Prop) → Prop
  | [], [], ρ, φ, σ, Q => Q [] ρ φ σ
  | some k :: ks, v :: vs, ρ, φ, σ, Q => EW w H0 sc n k ρ φ σ fun kv ρ φ σ => EW w H0 sc n v ρ φ σ fun vv ρ φ σ => PrW w H0 sc n ks vs ρ φ σ fun r => Q ((kv, vv) :: r)
  | _, _, _, _, _, _ => False
inductive PRs : List (V × V) → List (Value × Value) → Prop where
  | nil : PRs [] []
  | cons {k v : V} {x y : Value} {r s} : VR k x → VR v y → PRs r s → PRs ((k, v) :: r) ((x, y) :: s)
theorem PrW.run : ∀ {sc : Scope} {n : Nat} {pos : Pos}, ∀ {ks : List (Option PySem.Expr)} {vs : List PySem.Expr} {ρ : Lo} {φ : Ph} {σ : Sg} {Q : List (V × V) → Lo → Ph → Sg → Prop} (h : PrW w H0 sc n ks vs ρ φ σ Q) {τ : Sg} {env : Env} {A : Around} {s : Shared} (k : Ok w H0 sc n τ env A ρ φ σ s),
    wpAny (model pw w) A (evalPairs (pairTrees ks vs env pos)) (Post w H0 sc n τ env A s PRs Q) (fun _ _ => False) s := by
  apply @Mine.hk3; generalize ca1 (cx _) = sc, ca2 (cx _) = n, cz3 (cx _) = pos
  intro ks
  induction ks with
  | nil =>
    intro vs ρ φ σ Q h τ env A s k
    cases vs with
    | nil => exact pairTrees_nil_walk ⟨[], ρ, φ, σ, .nil, k, .refl s, h⟩
    | cons v vs => exact h.elim
  | cons ko ks ih =>
    intro vs ρ φ σ Q h τ env A s k
    cases ko with
    | none => exact (by cases vs <;> exact h.elim)
    | some ke =>
    cases vs with
    | nil => exact h.elim
    | cons v vs =>
      refine pairTrees_cons_walk (Post.run (h τ env A s k) (fun x s1 b1 ρ1 φ1 σ1 r1 k1 m1 h1 => Post.run (h1 τ env A s1 k1) (fun y s2 b2 ρ2 φ2 σ2 r2 k2 m2 h2 => Post.run (ih h2 k2) (fun z s3 b3 ρ3 φ3 σ3 r3 k3 m3 h3 => ?_))))
      exact ⟨_, ρ3, φ3, σ3, .cons r1 r2 r3, k3, m1.trans (m2.trans m3), h3⟩
theorem StW.run : ∀ {sc : Scope} {n : Nat} {a : Addr}, ∀ {r : List (V × V)} {xs : List (Value × Value)} (hr : PRs r xs) {ρ : Lo} {φ : Ph} {σ : Sg} {Q : Lo → Ph → Sg → Prop} (h : StW w H0 sc n a r ρ φ σ Q) {τ : Sg} {env : Env} {A : Around} {s : Shared} (k : Ok w H0 sc n τ env A ρ φ σ s),
    wpAny (model pw w) A (storeAll a xs) (fun _ s' => ∃ ρ' φ' σ', Ok w H0 sc n τ env A ρ' φ' σ' s' ∧ Same s s' ∧ Q ρ' φ' σ') (fun _ _ => False) s := by
  apply @Mine.hk3; generalize ca1 (cx _) = sc, ca2 (cx _) = n, cz3 (cx _) = a
  intro r xs hr
  induction hr with
  | nil =>
    intro ρ φ σ Q h τ env A s k
    unfold storeAll
    rw [List.forIn_nil]
    exact wpAny_pure ⟨ρ, φ, σ, k, .refl s, h⟩
  | cons hk hv hr ih =>
    intro ρ φ σ Q h τ env A s k
    unfold storeAll
    rw [List.forIn_cons]
    refine wpAny_bind (wpAny_bind (Post.run (h _ _ hk hv τ env A s k) (fun _ s1 _ ρ1 φ1 σ1 _ k1 m1 h1 => wpAny_pure ?_)))
    exact wpAny_mono (ih h1 k1) (fun _ s2 hPt => by obtain ⟨ρ2, φ2, σ2, k2, m2, h2⟩ := hPt; exact ⟨ρ2, φ2, σ2, k2, m1.trans m2, h2⟩) fun _ _ x => x
theorem dict_new (h0 : Heap) (φ : Ph) {c : C} (hc : c = .sdict [] ∨ c = .bdict [] ∨ c = .tdict []) : CR w φ c { cls := .type "dict", data := .dict #[] } := by
  have e : ∀ h : Heap, (h.push { cls := .type "dict", data := .dict #[] }).get? h.objs.size = some { cls := .type "dict", data := .dict #[] } := fun h => Heap.get?_push_size _ rfl
  rcases hc with rfl | rfl | rfl
  · obtain ⟨o, ho, hd⟩ := Heap.dictOf_iff.mp (Heap.DictOf.new (knd := scalKind pw w) h0)
    rw [e] at ho; cases ho
    exact ⟨[], hd, .nil⟩
  · obtain ⟨o, ho, hd⟩ := Heap.dictOf_iff.mp (Heap.DictOf.new (knd := bytesKind pw w) h0)
    rw [e] at ho; cases ho
    exact ⟨[], hd, .nil⟩
  · exact ⟨[], #[], 0, .nil, ⟨rfl, rfl, rfl⟩, rfl, rfl, fun _ hx => by simp at hx, List.nodup_nil⟩
theorem E_dictD {c : C} {keys : List (Option PySem.Expr)} {values : List PySem.Expr} {pos : Pos} (hc : c = .sdict [] ∨ c = .bdict [] ∨ c = .tdict []) (hall : keys.all (·.isSome) = true) (hl : keys.length = values.length) (h0 : keys ≠ []) (hlen : keys.length ≤ 15)
    (h : ∀ a, σ a = none → φ a = none → PrW w H0 sc n keys values ρ φ (upd σ a c) fun r ρ φ σ => StW w H0 sc n a r ρ φ σ (Q (.ref a))) : EW w H0 sc n (.Dict keys values pos) ρ φ σ Q := fun τ env A s k => by
  refine wpAny_Dict_any hall hl h0 hlen ?_
  obtain ⟨k2, e1, e2⟩ := k.allocC (s' := { s with heap := s.heap.push { cls := .type "dict", data := .dict #[] } }) (dict_new s.heap φ hc) rfl rfl
  refine Post.run (PrW.run (h _ e1 e2) k2) (fun x s1 b1 ρ1 φ1 σ1 r1 k1 m1 h1 => wpAny_mono (StW.run r1 h1 k1) (fun _ s2 hPt => by obtain ⟨ρ2, φ2, σ2, k3, m2, h2⟩ := hPt; exact ⟨_, ρ2, φ2, σ2, .ref _, k3, (show Same s s1 from ⟨m1.1, m1.2⟩).trans m2, h2⟩) fun _ _ x => x)
theorem DS_sc : ∀ {sc : Scope} {n : Nat} {ρ : Lo} {φ : Ph} {σ : Sg} {d : Addr} {xs : List (Scal × V)} {kv : V} {v : V} {Q : Lo → Ph → Sg → Prop} (q : ∃ k, kv = scV k ∧ σ d = some (.sdict xs) ∧ xs.length ≤ 900 ∧ Q ρ φ (upd σ d (.sdict (storedV xs k v)))), DsW w H0 sc n d kv v ρ φ σ Q := by
  apply @Mine.hk6; generalize ca1 (cx _) = sc, ca2 (cx _) = n, ca3 (cx _) = ρ, ca4 (cx _) = φ, ca5 (cx _) = σ, cz6 (cx _) = d
  apply @Mine.hk4; generalize ca1 (cx _) = xs, ca2 (cx _) = kv, ca3 (cx _) = v, cz4 (cx _) = Q
  intro q
  intro j u hj hu τ env A s ok
  obtain ⟨k, rfl, hd, hz, q⟩ := q
  obtain ⟨kvs, h1, h2, h3⟩ := ok.sdict hd
  refine wpAny_dictSet_pairs (sc_is hj) h1 (fun h' hd' hs' => ?_) (by rw [h2.length, sizeLine_eq]; lia)
  obtain ⟨o, ho, hd2⟩ := Heap.dictOf_iff.mp hd'
  exact ⟨(), ρ, φ, _, trivial, ok.set hd (s' := { s with heap := h', toks := s.toks + 1 }) (fun b hb => hs'.2 b hb) ho (c' := .sdict (storedV xs k v)) ⟨_, hd2, h2.stored hu k⟩, ⟨rfl, rfl⟩, q⟩
theorem DS_t {d t : Addr} {xs : List (List Scal × V)} {ks : List Scal} {v : V} {Q : Lo → Ph → Sg → Prop} (ht : Tup φ t (ks.map scV)) (hd : σ d = some (.tdict xs)) (hz : xs.length ≤ 900) (q : Q ρ φ (upd σ d (.tdict (storedV xs ks v)))) : DsW w H0 sc n d (.ref t) v ρ φ σ Q := fun j u hj hu τ env A s ok => by
  refine VR.refE hj ?_
  obtain ⟨kvs, h1, h2, h3, h4⟩ := ok.tdict hd
  refine wpAny_dictSet_heap (knd := tupleKind (scalKind pw w)) (show A.units < cLine by have := ok.room.lev; lia) ((tup_key ht).heap ok) h1 (fun h' hd' hs' => ?_) (by rw [h2.length, sizeLine_eq]; lia)
  obtain ⟨o, es, ep, g1, g2, g3, g4, g5, g6⟩ := hd'
  refine ⟨(), ρ, φ, _, trivial, ok.set hd (s' := { s with heap := h', toks := s.toks + (tupleKind (scalKind pw w)).draws ks }) (fun b hb => hs'.2 b hb) g1 (c' := .tdict (storedV xs ks v)) ⟨_, es, ep, h2.stored hu ks t, g2, g3, g4, fun x hx => ?_, g6⟩, ⟨rfl, rfl⟩, q⟩
  unfold storedH at hx
  split at hx
  · obtain ⟨y, hy, e⟩ := List.mem_map.mp hx
    have := h4 y hy
    unfold putAt at e
    split at e <;> (subst e; exact this)
  · rcases List.mem_append.mp hx with hx | hx
    · exact h4 x hx
    · simp at hx; subst hx; exact tup_key ht
end
end Mine
namespace Mine
noncomputable def zip3O (z : Nat) (f : Value) : Obj := { cls := .type "zip", dict := none, data := .fields #[f, .bool false, .bool false, .ref (z + 3), .ref (z + 4)], slots := #[] }
noncomputable def trio (a b c : Value) : Obj := { cls := .type "tuple", data := .seq #[a, b, c] }
structure Z3 (h : Heap) (z l1 l2 l3 : Nat) (xs ys us : Array Value) (f a b c : Value) (n1 n2 n3 : Nat) : Prop where
  zip : h.get? (z + 5) = some (zip3O z f)
  ti : h.get? (z + 3) = some (trio (.ref z) (.ref (z + 1)) (.ref (z + 2)))
  out : h.get? (z + 4) = some (trio a b c)
  i1 : h.IsListIter z l1 n1
  i2 : h.IsListIter (z + 1) l2 n2
  i3 : h.IsListIter (z + 2) l3 n3
  l1 : h.IsList l1 xs
  l2 : h.IsList l2 ys
  l3 : h.IsList l3 us
theorem nd {a b : Nat} (h : a ≠ b) : @Ne Addr a b := h
noncomputable def Far (z l : Nat) : Prop := l < z ∨ z + 5 < l
noncomputable def Outs (z : Nat) (h h' : Heap) : Prop := ∀ (c : Nat) o, c ≠ z + 5 → c ≠ z + 4 → c ≠ z → c ≠ z + 1 → c ≠ z + 2 → h.get? c = some o → h'.get? c = some o
theorem Outs.refl (z : Nat) (h : Heap) : Outs z h h := fun _ _ _ _ _ _ _ e => e
theorem Outs.trans {z : Nat} {a b c : Heap} (x : Outs z a b) (y : Outs z b c) : Outs z a c := fun d o h1 h2 h3 h4 h5 e => y d o h1 h2 h3 h4 h5 (x d o h1 h2 h3 h4 h5 e)
section
variable {h h' : Heap} {z l1 l2 l3 : Nat} {xs ys us : Array Value} {f a b c : Value} {n1 n2 n3 : Nat}
theorem Outs.of {p : Nat} (hp : p = z + 5 ∨ p = z + 4 ∨ p = z ∨ p = z + 1 ∨ p = z + 2) (e : Heap.ExtBut p h h') : Outs z h h' := fun d o h1 h2 h3 h4 h5 g => e d o (nd (by lia)) g
theorem Z3.setZip (D1 : Far z l1) (D2 : Far z l2) (D3 : Far z l3) (x : Z3 h z l1 l2 l3 xs ys us f a b c n1 n2 n3) {g : Value} (e : Heap.ExtBut (z + 5) h h') (hz : h'.get? (z + 5) = some (zip3O z g)) : Z3 h' z l1 l2 l3 xs ys us g a b c n1 n2 n3 := by
  unfold Far at D1 D2 D3
  exact ⟨hz, e _ _ (nd (by lia)) x.ti, e _ _ (nd (by lia)) x.out, x.i1.extBut e (nd (by lia)), x.i2.extBut e (nd (by lia)), x.i3.extBut e (nd (by lia)), x.l1.extBut e (nd (by lia)), x.l2.extBut e (nd (by lia)), x.l3.extBut e (nd (by lia))⟩
theorem Z3.setOut (D1 : Far z l1) (D2 : Far z l2) (D3 : Far z l3) (x : Z3 h z l1 l2 l3 xs ys us f a b c n1 n2 n3) {a' b' c' : Value} (e : Heap.ExtBut (z + 4) h h') (hz : h'.get? (z + 4) = some (trio a' b' c')) : Z3 h' z l1 l2 l3 xs ys us f a' b' c' n1 n2 n3 := by
  unfold Far at D1 D2 D3
  exact ⟨e _ _ (nd (by lia)) x.zip, e _ _ (nd (by lia)) x.ti, hz, x.i1.extBut e (nd (by lia)), x.i2.extBut e (nd (by lia)), x.i3.extBut e (nd (by lia)), x.l1.extBut e (nd (by lia)), x.l2.extBut e (nd (by lia)), x.l3.extBut e (nd (by lia))⟩
theorem Z3.set1 (D1 : Far z l1) (D2 : Far z l2) (D3 : Far z l3) (x : Z3 h z l1 l2 l3 xs ys us f a b c n1 n2 n3) {m : Nat} (e : Heap.ExtBut z h h') (hz : h'.IsListIter z l1 m) : Z3 h' z l1 l2 l3 xs ys us f a b c m n2 n3 := by
  unfold Far at D1 D2 D3
  exact ⟨e _ _ (nd (by lia)) x.zip, e _ _ (nd (by lia)) x.ti, e _ _ (nd (by lia)) x.out, hz, x.i2.extBut e (nd (by lia)), x.i3.extBut e (nd (by lia)), x.l1.extBut e (nd (by lia)), x.l2.extBut e (nd (by lia)), x.l3.extBut e (nd (by lia))⟩
theorem Z3.set2 (D1 : Far z l1) (D2 : Far z l2) (D3 : Far z l3) (x : Z3 h z l1 l2 l3 xs ys us f a b c n1 n2 n3) {m : Nat} (e : Heap.ExtBut (z + 1) h h') (hz : h'.IsListIter (z + 1) l2 m) : Z3 h' z l1 l2 l3 xs ys us f a b c n1 m n3 := by
  unfold Far at D1 D2 D3
  exact ⟨e _ _ (nd (by lia)) x.zip, e _ _ (nd (by lia)) x.ti, e _ _ (nd (by lia)) x.out, x.i1.extBut e (nd (by lia)), hz, x.i3.extBut e (nd (by lia)), x.l1.extBut e (nd (by lia)), x.l2.extBut e (nd (by lia)), x.l3.extBut e (nd (by lia))⟩
theorem Z3.set3 (D1 : Far z l1) (D2 : Far z l2) (D3 : Far z l3) (x : Z3 h z l1 l2 l3 xs ys us f a b c n1 n2 n3) {m : Nat} (e : Heap.ExtBut (z + 2) h h') (hz : h'.IsListIter (z + 2) l3 m) : Z3 h' z l1 l2 l3 xs ys us f a b c n1 n2 m := by
  unfold Far at D1 D2 D3
  exact ⟨e _ _ (nd (by lia)) x.zip, e _ _ (nd (by lia)) x.ti, e _ _ (nd (by lia)) x.out, x.i1.extBut e (nd (by lia)), x.i2.extBut e (nd (by lia)), hz, x.l1.extBut e (nd (by lia)), x.l2.extBut e (nd (by lia)), x.l3.extBut e (nd (by lia))⟩
theorem Z3.at (x : Z3 h z l1 l2 l3 xs ys us f a b c n1 n2 n3) (e : ∀ p, p ∈ [z + 5, z + 3, z + 4, z, z + 1, z + 2, l1, l2, l3] → ∀ o, h.get? p = some o → h'.get? p = some o) : Z3 h' z l1 l2 l3 xs ys us f a b c n1 n2 n3 :=
  ⟨e _ (by simp) _ x.zip, e _ (by simp) _ x.ti, e _ (by simp) _ x.out, x.i1.at fun o => e _ (by simp) o, x.i2.at fun o => e _ (by simp) o, x.i3.at fun o => e _ (by simp) o, x.l1.at fun o => e _ (by simp) o, x.l2.at fun o => e _ (by simp) o, x.l3.at fun o => e _ (by simp) o⟩
theorem Z3.has : ∀ {h : Heap} {z : Nat} {l1 : Nat} {l2 : Nat} {l3 : Nat} {xs : Array Value} {ys : Array Value} {us : Array Value} {f : Value} {a : Value} {b : Value} {c : Value} {n1 : Nat} {n2 : Nat} {n3 : Nat} (x : Z3 h z l1 l2 l3 xs ys us f a b c n1 n2 n3), ∀ p, p ∈ [z + 5, z + 3, z + 4, z, z + 1, z + 2, l1, l2, l3] → ∃ o, h.get? p = some o := by
  refine @Mine.hk6 _ _ _ _ _ _ neHeap _ _ _ _ _ _ ?_; generalize ca1 (cx _) = h, ca2 (cx _) = z, ca3 (cx _) = l1, ca4 (cx _) = l2, ca5 (cx _) = l3, cz6 (cx _) = xs
  apply @Mine.hk6; generalize ca1 (cx _) = ys, ca2 (cx _) = us, ca3 (cx _) = f, ca4 (cx _) = a, ca5 (cx _) = b, cz6 (cx _) = c
  apply @Mine.hk3; generalize ca1 (cx _) = n1, ca2 (cx _) = n2, cz3 (cx _) = n3
  intro x
  intro p hp
  obtain ⟨t1, t2, t3, ⟨_, t4, _⟩, ⟨_, t5, _⟩, ⟨_, t6, _⟩, ⟨_, t7, _⟩, ⟨_, t8, _⟩, ⟨_, t9, _⟩⟩ := x
  simp at hp
  rcases hp with rfl | rfl | rfl | rfl | rfl | rfl | rfl | rfl | rfl
  · exact ⟨_, t1⟩
  · exact ⟨_, t2⟩
  · exact ⟨_, t3⟩
  · exact ⟨_, t4⟩
  · exact ⟨_, t5⟩
  · exact ⟨_, t6⟩
  · exact ⟨_, t7⟩
  · exact ⟨_, t8⟩
  · exact ⟨_, t9⟩
end
section
variable {A : Around} {E : Value → Shared → Prop} {s : Shared} {z l1 l2 l3 : Nat} {xs ys us : Array Value} {a b c : Value} {n : Nat}
theorem out_set {k : Nat} {v : Value} {Q : Unit → Shared → Prop} (hT : s.heap.get? (z + 4) = some (trio a b c))
    (hQ : ∀ h', h'.get? (z + 4) = some { cls := .type "tuple", data := .seq ((#[a, b, c] : Array Value).setIfInBounds k v) } → Heap.ExtBut (z + 4) s.heap h' → h'.objs.size = s.heap.objs.size → Q () { s with heap := h' }) :
    wpAny (model pw w) A (updateSeq (z + 4) (·.setIfInBounds k v)) Q E s := by
  have sb := Heap.SameBut.update s.heap (z + 4) (Obj.mapSeq fun x : Array Value => x.setIfInBounds k v)
  refine wpAny_updateSeq hT rfl (hQ _ ?_ sb.extBut sb.1)
  rw [Heap.get?_update_self _ hT rfl]
  simp [Obj.mapSeq, trio]
set_option tactic.hygienic true in
theorem zip3_item : ∀ {A : Around} {E : Value → Shared → Prop} {s : Shared} {z : Nat} {l1 : Nat} {l2 : Nat} {l3 : Nat} {xs : Array Value} {ys : Array Value} {us : Array Value} {a : Value} {b : Value} {c : Value} {n : Nat} {x y u : Value} {Q : Value → Shared → Prop} (D1 : Far z l1) (D2 : Far z l2) (D3 : Far z l3) (X : Z3 s.heap z l1 l2 l3 xs ys us .none a b c n n n) (h1 : xs[n]? = some x) (h2 : ys[n]? = some y) (h3 : us[n]? = some u) (hQ : ∀ h', Z3 h' z l1 l2 l3 xs ys us (rawInt s.heap.objs.size) x y u (n + 1) (n + 1) (n + 1) → h'.get? s.heap.objs.size = some (trio x y u) → Outs z s.heap h' → Q (.ref s.heap.objs.size) { s with heap := h' }),
    wpAny (model pw w) A (Builtin.«zip.__next__» ⟨[.ref (z + 5)], []⟩) (fun fin s' => ∃ v, fin = .done (.ret v) ∧ Q v s') E s := by
  refine @Mine.hk6 _ _ _ _ _ _ neAround _ neShared _ _ _ _ ?_; generalize ca1 (cx _) = A, ca2 (cx _) = E, ca3 (cx _) = s, ca4 (cx _) = z, ca5 (cx _) = l1, cz6 (cx _) = l2
  apply @Mine.hk6; generalize ca1 (cx _) = l3, ca2 (cx _) = xs, ca3 (cx _) = ys, ca4 (cx _) = us, ca5 (cx _) = a, cz6 (cx _) = b
  apply @Mine.hk6; generalize ca1 (cx _) = c, ca2 (cx _) = n, ca3 (cx _) = x, ca4 (cx _) = y, ca5 (cx _) = u, cz6 (cx _) = Q
  intro D1 D2 D3 X h1 h2 h3 hQ
  show wpAny _ _ (field (.ref (z + 5)) 2 >>= _) _ _ _
  refine wpAny_bind (wpAny_field X.zip rfl (x := .bool false) rfl ?_)
  show wpAny _ _ (field (.ref (z + 5)) 3 >>= _) _ _ _
  refine wpAny_bind (wpAny_field X.zip rfl (x := .ref (z + 3)) rfl ?_)
  refine wpAny_bind (wpAny_seqItems X.ti rfl ?_)
  show wpAny _ _ (Builtin.SmallTypes.ownedTupleIsFree (.ref (z + 5)) >>= _) _ _ _
  refine wpAny_bind ?_
  unfold Builtin.SmallTypes.ownedTupleIsFree
  refine wpAny_bind (wpAny_field X.zip rfl (x := .none) rfl (wpAny_pure ?_))
  simp only [if_true]
  refine wpAny_bind (wpAny_rule ?_)
  refine wpAny_bind (wpAny_field X.zip rfl (x := .ref (z + 4)) rfl ?_)
  refine wpAny_bind (wpAny_setField_rec X.zip (by simp) fun h₁ hz₁ hs₁ => ?_)
  have X := X.setZip D1 D2 D3 (g := .ellipsis) hs₁.extBut hz₁
  have O : Outs z s.heap h₁ := Outs.of (by lia) hs₁.extBut
  have S : h₁.objs.size = s.heap.objs.size := hs₁.1
  refine wpAny_bind ?_
  simp only [List.zipIdx_cons, List.zipIdx_nil, List.forIn_cons, List.forIn_nil]
  refine wpAny_bind (wpAny_bind (wpAny_onRaise ?_))
  show wpAny _ _ (Builtin.SmallTypes.nextOf (.ref (z)) >>= _) _ _ _
  refine wpAny_bind (wpAny_nextOf_list_item X.i1 X.l1 h1 fun h'' gi sb => wpAny_pure ?_)
  have X := X.set1 D1 D2 D3 sb.extBut gi
  have O := O.trans (Outs.of (by lia) sb.extBut)
  have S := sb.1.trans S
  refine wpAny_bind (wpAny_seqItems X.out rfl ?_)
  refine wpAny_bind (out_set X.out fun h'' go sb hs => ?_)
  have X := X.setOut D1 D2 D3 sb go
  have O := O.trans (Outs.of (by lia) sb)
  have S := hs.trans S
  refine wpAny_bind (wpAny_letGo (wpAny_pure ?_))
  refine wpAny_bind (wpAny_bind (wpAny_onRaise ?_))
  show wpAny _ _ (Builtin.SmallTypes.nextOf (.ref (z + 1)) >>= _) _ _ _
  refine wpAny_bind (wpAny_nextOf_list_item X.i2 X.l2 h2 fun h'' gi sb => wpAny_pure ?_)
  have X := X.set2 D1 D2 D3 sb.extBut gi
  have O := O.trans (Outs.of (by lia) sb.extBut)
  have S := sb.1.trans S
  refine wpAny_bind (wpAny_seqItems X.out rfl ?_)
  refine wpAny_bind (out_set X.out fun h'' go sb hs => ?_)
  have X := X.setOut D1 D2 D3 sb go
  have O := O.trans (Outs.of (by lia) sb)
  have S := hs.trans S
  refine wpAny_bind (wpAny_letGo (wpAny_pure ?_))
  refine wpAny_bind (wpAny_bind (wpAny_onRaise ?_))
  show wpAny _ _ (Builtin.SmallTypes.nextOf (.ref (z + 2)) >>= _) _ _ _
  refine wpAny_bind (wpAny_nextOf_list_item X.i3 X.l3 h3 fun h'' gi sb => wpAny_pure ?_)
  have X := X.set3 D1 D2 D3 sb.extBut gi
  have O := O.trans (Outs.of (by lia) sb.extBut)
  have S := sb.1.trans S
  refine wpAny_bind (wpAny_seqItems X.out rfl ?_)
  refine wpAny_bind (out_set X.out fun h'' go sb hs => ?_)
  have X := X.setOut D1 D2 D3 sb go
  have O := O.trans (Outs.of (by lia) sb)
  have S := hs.trans S
  refine wpAny_bind (wpAny_letGo (wpAny_pure ?_))
  refine wpAny_pure ?_
  refine wpAny_bind (wpAny_seqItems X.out rfl ?_)
  refine wpAny_bind (wpAny_newTuple ?_)
  rename_i h5
  show wpAny _ _ (Builtin.SmallTypes.ownedTupleHandOut (.ref (z + 5)) (.ref h''.objs.size) >>= _) _ _ _
  refine wpAny_bind ?_
  unfold Builtin.SmallTypes.ownedTupleHandOut
  have lt : ∀ {p o}, h''.get? p = some o → p < h''.objs.size := fun e => Heap.lt_size e
  have far : h''.objs.size ≠ z + 5 := Nat.ne_of_gt (lt X.zip)
  have X := X.at (h' := h''.push (trio x y u)) fun p _ o e => Heap.get?_push_of_some _ e
  have O := O.trans (c := h''.push (trio x y u)) fun p o _ _ _ _ _ e => Heap.get?_push_of_some _ e
  have N : (h''.push (trio x y u)).get? h''.objs.size = some (trio x y u) := Heap.get?_push_size _ rfl
  refine wpAny_bind (wpAny_setField_rec X.zip (by simp) fun h₇ hz₇ hs₇ => ?_)
  have X := X.setZip D1 D2 D3 (g := rawInt h''.objs.size) hs₇.extBut hz₇
  have O := O.trans (Outs.of (by lia) hs₇.extBut)
  have N := hs₇.extBut _ _ far N
  refine wpAny_setField_rec X.zip (by simp) fun h₈ hz₈ hs₈ => ?_
  have X := X.setZip D1 D2 D3 (g := rawInt h''.objs.size) hs₈.extBut hz₈
  have O := O.trans (Outs.of (by lia) hs₈.extBut)
  have N := hs₈.extBut _ _ far N
  refine wpAny_pure ⟨_, rfl, ?_⟩
  show Q (.ref h''.objs.size) _
  rw [S] at X N ⊢
  exact hQ h₈ X N O
theorem zip3_end : ∀ {A : Around} {E : Value → Shared → Prop} {s : Shared} {z : Nat} {l1 : Nat} {l2 : Nat} {l3 : Nat} {xs : Array Value} {ys : Array Value} {us : Array Value} {a : Value} {b : Value} {c : Value} {n : Nat} {Q : PySem.Fin → Shared → Prop} (hh : A.handled = none) (D1 : Far z l1) (D2 : Far z l2) (D3 : Far z l3) (X : Z3 s.heap z l1 l2 l3 xs ys us .none a b c n n n) (h1 : xs[n]? = none) (hE : ∀ h' e, Outs z s.heap h' → (∃ o, h'.get? e = some o ∧ o.cls = .type "StopIteration") → E (.ref e) { s with heap := h' }),
    wpAny (model pw w) A (Builtin.«zip.__next__» ⟨[.ref (z + 5)], []⟩) Q E s := by
  refine @Mine.hk6 _ _ _ _ _ _ neAround _ neShared _ _ _ _ ?_; generalize ca1 (cx _) = A, ca2 (cx _) = E, ca3 (cx _) = s, ca4 (cx _) = z, ca5 (cx _) = l1, cz6 (cx _) = l2
  apply @Mine.hk6; generalize ca1 (cx _) = l3, ca2 (cx _) = xs, ca3 (cx _) = ys, ca4 (cx _) = us, ca5 (cx _) = a, cz6 (cx _) = b
  apply @Mine.hk3; generalize ca1 (cx _) = c, ca2 (cx _) = n, cz3 (cx _) = Q
  intro hh D1 D2 D3 X h1 hE
  show wpAny _ _ (field (.ref (z + 5)) 2 >>= _) _ _ _
  refine wpAny_bind (wpAny_field X.zip rfl (x := .bool false) rfl ?_)
  show wpAny _ _ (field (.ref (z + 5)) 3 >>= _) _ _ _
  refine wpAny_bind (wpAny_field X.zip rfl (x := .ref (z + 3)) rfl ?_)
  refine wpAny_bind (wpAny_seqItems X.ti rfl ?_)
  show wpAny _ _ (Builtin.SmallTypes.ownedTupleIsFree (.ref (z + 5)) >>= _) _ _ _
  refine wpAny_bind ?_
  unfold Builtin.SmallTypes.ownedTupleIsFree
  refine wpAny_bind (wpAny_field X.zip rfl (x := .none) rfl (wpAny_pure ?_))
  simp only [if_true]
  refine wpAny_bind (wpAny_rule ?_)
  refine wpAny_bind (wpAny_field X.zip rfl (x := .ref (z + 4)) rfl ?_)
  refine wpAny_bind (wpAny_setField_rec X.zip (by simp) fun h₁ hz₁ hs₁ => ?_)
  have X := X.setZip D1 D2 D3 (g := .ellipsis) hs₁.extBut hz₁
  have O : Outs z s.heap h₁ := Outs.of (by lia) hs₁.extBut
  have S : h₁.objs.size = s.heap.objs.size := hs₁.1
  refine wpAny_bind ?_
  simp only [List.zipIdx_cons, List.zipIdx_nil, List.forIn_cons, List.forIn_nil]
  refine wpAny_bind (wpAny_bind (wpAny_onRaise ?_))
  show wpAny _ _ (Builtin.SmallTypes.nextOf (.ref z) >>= _) _ _ _
  refine wpAny_bind (wpAny_nextOf_list_end hh X.i1 X.l1 h1 fun h₂ e hs₂ he => ?_)
  obtain ⟨oe, hoe, hce⟩ := he
  have hz₂ := hs₂ _ _ (nd (show z + 5 ≠ z by lia)) X.zip
  have hez : e ≠ z + 5 := fun x => by subst x; rw [hz₂] at hoe; cases hoe; simp [zip3O] at hce
  have O := O.trans (Outs.of (by lia) hs₂)
  refine wpAny_setField_rec hz₂ (by simp) fun h₃ _ hs₃ => hE h₃ e (O.trans (Outs.of (by lia) hs₃.extBut)) ⟨oe, hs₃.extBut _ _ hez hoe, hce⟩
end
end Mine
namespace Mine
theorem typeCall_zip_3 (a b c : Value) : checkTypeCall "zip" ⟨[a, b, c], []⟩ = pure () := by kernel_rfl
theorem newCall_zip_3 (a b c : Value) : checkBuiltinCall "zip.__new__" ⟨[.type "zip", a, b, c], []⟩ = pure () := by kernel_rfl
theorem args_object_init_4 (a b c d : Value) : argsOk "object.__init__" ⟨[a, b, c, d], []⟩ := by
  unfold argsOk; kernel_rfl
section
variable {prog : Program} {w : World} {A : Around} {E : Value → Shared → Prop} {s : Shared}
theorem iterAll_3 {l1 l2 l3 : Addr} {xs ys us : Array Value} {Q : List Value → Shared → Prop} (hl1 : s.heap.IsList l1 xs) (hl2 : s.heap.IsList l2 ys) (hl3 : s.heap.IsList l3 us)
    (h : Q [.ref s.heap.objs.size, .ref (s.heap.objs.size + 1), .ref (s.heap.objs.size + 2)] { s with heap := ((s.heap.push { cls := .type "list_iterator", data := .fields #[.ref l1, .int 0 0] }).push { cls := .type "list_iterator", data := .fields #[.ref l2, .int 0 0] }).push { cls := .type "list_iterator", data := .fields #[.ref l3, .int 0 0] } }) :
    wpAny (model prog w) A (Builtin.SmallTypes.iterAll [.ref l1, .ref l2, .ref l3]) Q E s := by
  unfold Builtin.SmallTypes.iterAll
  simp only [List.forIn_cons, List.forIn_nil]
  refine wpAny_bind (wpAny_bind (wpAny_bind (wpAny_holding (wpAny_pyIter_list hl1 ?_))))
  refine wpAny_pure ?_
  refine wpAny_bind (wpAny_bind (wpAny_holding (wpAny_pyIter_list (hl2.push _) ?_)))
  refine wpAny_pure ?_
  refine wpAny_bind (wpAny_bind (wpAny_holding (wpAny_pyIter_list ((hl3.push _).push _) ?_)))
  refine wpAny_pure (wpAny_pure (wpAny_pure ?_))
  have z1 := Heap.size_push s.heap { cls := .type "list_iterator", data := .fields #[.ref l1, .int 0 0] }
  have z2 := Heap.size_push (s.heap.push { cls := .type "list_iterator", data := .fields #[.ref l1, .int 0 0] }) { cls := .type "list_iterator", data := .fields #[.ref l2, .int 0 0] }
  show Q [.ref s.heap.objs.size, .ref (s.heap.push _).objs.size, .ref ((s.heap.push _).push _).objs.size] _
  rw [z2, z1]
  exact h
theorem newClass_zip {rest : List Value} {Q : Value × List Value → Shared → Prop} (h : Q (.type "zip", rest) s) : wpAny (model prog w) A (Builtin.SmallTypes.newClass "zip" ⟨.type "zip" :: rest, []⟩) Q E s := by
  unfold Builtin.SmallTypes.newClass
  have e : isSubtype (.type "zip") (.type "zip") = pure true := sub_zip
  show wpAny _ _ (isType (.type "zip") >>= _) _ _ _
  refine wpAny_bind (wpAny_pure ?_)
  show wpAny _ _ (isSubtype (.type "zip") (.type "zip") >>= _) _ _ _
  rw [e]
  refine wpAny_bind (wpAny_pure ?_)
  exact wpAny_pure h
theorem zip_new3 {l1 l2 l3 : Addr} {xs ys us : Array Value} {Q : Value → Shared → Prop} (hl1 : s.heap.IsList l1 xs) (hl2 : s.heap.IsList l2 ys) (hl3 : s.heap.IsList l3 us)
    (h : ∀ h4 h5, h4 = (((s.heap.push { cls := .type "list_iterator", data := .fields #[.ref l1, .int 0 0] }).push { cls := .type "list_iterator", data := .fields #[.ref l2, .int 0 0] }).push { cls := .type "list_iterator", data := .fields #[.ref l3, .int 0 0] }).push (trio (.ref s.heap.objs.size) (.ref (s.heap.objs.size + 1)) (.ref (s.heap.objs.size + 2))) →
      h5 = (h4.push (trio .none .none .none)).push { cls := .type "zip", dict := none, data := .fields #[.none, .bool false, .bool false, .ref (s.heap.objs.size + 3), .ref (s.heap.objs.size + 4)], slots := #[] } → Q (.ref (s.heap.objs.size + 5)) { s with heap := h5 }) :
    wpAny (model prog w) A (Builtin.«zip.__new__» ⟨[.type "zip", .ref l1, .ref l2, .ref l3], []⟩) (fun fin s' => ∃ v, fin = .done (.ret v) ∧ Q v s') E s := by
  unfold Builtin.«zip.__new__»
  refine wpAny_bind (newClass_zip ?_)
  dsimp only
  rw [if_neg (by decide)]
  show wpAny _ _ (Builtin.SmallTypes.iterAll [.ref l1, .ref l2, .ref l3] >>= _) _ _ _
  refine wpAny_bind (iterAll_3 hl1 hl2 hl3 ?_)
  refine wpAny_bind (wpAny_newTuple ?_)
  refine wpAny_bind (wpAny_newTuple ?_)
  unfold Builtin.SmallTypes.newRecord
  refine wpAny_bind (wpAny_newObj_type (hd := (show (5 : Nat) ≤ sizeLine + 2 by decide)) ?_)
  have z3 : ((((s.heap.push { cls := .type "list_iterator", data := .fields #[.ref l1, .int 0 0] }).push { cls := .type "list_iterator", data := .fields #[.ref l2, .int 0 0] }).push { cls := .type "list_iterator", data := .fields #[.ref l3, .int 0 0] })).objs.size = s.heap.objs.size + 3 := by
    rw [Heap.size_push, Heap.size_push, Heap.size_push]
  refine wpAny_pure ⟨_, rfl, ?_⟩
  dsimp only
  rw [Heap.size_push, Heap.size_push, z3]
  exact h _ _ rfl rfl
end
noncomputable def zips4 (h : Heap) (l1 l2 l3 : Addr) : Heap := (((h.push { cls := .type "list_iterator", data := .fields #[.ref l1, .int 0 0] }).push { cls := .type "list_iterator", data := .fields #[.ref l2, .int 0 0] }).push { cls := .type "list_iterator", data := .fields #[.ref l3, .int 0 0] }).push (trio (.ref h.objs.size) (.ref (h.objs.size + 1)) (.ref (h.objs.size + 2)))
theorem meets_zip_new3 (l1 l2 l3 : Addr) (xs ys us : Array Value) :
    Meets (Builtin.«zip.__new__» ⟨[.type "zip", .ref l1, .ref l2, .ref l3], []⟩) (fun _ R s => s.heap.IsList l1 xs ∧ s.heap.IsList l2 ys ∧ s.heap.IsList l3 us ∧
      ∀ h4 h5, h4 = zips4 s.heap l1 l2 l3 → h5 = (h4.push (trio .none .none .none)).push { cls := .type "zip", dict := none, data := .fields #[.none, .bool false, .bool false, .ref (s.heap.objs.size + 3), .ref (s.heap.objs.size + 4)], slots := #[] } → R (.ok (.ret (.ref (s.heap.objs.size + 5)))) { s with heap := h5 }) :=
  .of_wp fun prog w A R s hPt => by obtain ⟨hl1, hl2, hl3, h⟩ := hPt; exact zip_new3 hl1 hl2 hl3 fun h4 h5 e4 e5 => h h4 h5 e4 e5
section
variable {A : Around} {E : Value → Shared → Prop} {s : Shared}
theorem call_zip_3 : ∀ {A : Around} {E : Value → Shared → Prop} {s : Shared} {l1 l2 l3 : Addr} {xs ys us : Array Value} {Q : Value → Shared → Prop} (hl1 : s.heap.IsList l1 xs) (hl2 : s.heap.IsList l2 ys) (hl3 : s.heap.IsList l3 us) (h : ∀ h', Z3 h' s.heap.objs.size l1 l2 l3 xs ys us .none .none .none .none 0 0 0 → (∀ c o, s.heap.get? c = some o → h'.get? c = some o) → Q (.ref (s.heap.objs.size + 5)) { s with heap := h' }),
    wpAny (model pw w) A (call (.type "zip") [.ref l1, .ref l2, .ref l3]) Q E s := by
  refine @Mine.hk6 _ _ _ _ _ _ neAround _ neShared _ _ _ _ ?_; generalize ca1 (cx _) = A, ca2 (cx _) = E, ca3 (cx _) = s, ca4 (cx _) = l1, ca5 (cx _) = l2, cz6 (cx _) = l3
  apply @Mine.hk4; generalize ca1 (cx _) = xs, ca2 (cx _) = ys, ca3 (cx _) = us, cz4 (cx _) = Q
  intro hl1 hl2 hl3 h
  refine callType_new F.called_zip (by decide) (typeCall_zip_3 _ _ _) (newCall_zip_3 _ _ _) (fun obj => args_object_init_4 obj _ _ _) F.entry_zip_new
    (meets_zip_new3 l1 l2 l3 xs ys us) ⟨hl1, hl2, hl3, fun h4 h5 e4 e5 => ?_⟩
  have p : ∀ {h : Heap} {o o' : Obj} {c : Addr}, h.get? c = some o → (h.push o').get? c = some o := fun e => Heap.get?_push_of_some _ e
  have n : ∀ {h : Heap} {o : Obj} {k : Nat}, h.objs.size = k → o.isFreed = false → (h.push o).get? k = some o := fun e f => by subst e; exact Heap.get?_push_size _ f
  have z1 := Heap.size_push s.heap { cls := .type "list_iterator", data := .fields #[.ref l1, .int 0 0] }
  have z2 := (Heap.size_push (s.heap.push { cls := .type "list_iterator", data := .fields #[.ref l1, .int 0 0] }) { cls := .type "list_iterator", data := .fields #[.ref l2, .int 0 0] }).trans (congrArg (· + 1) z1)
  have z3 := (Heap.size_push ((s.heap.push { cls := .type "list_iterator", data := .fields #[.ref l1, .int 0 0] }).push { cls := .type "list_iterator", data := .fields #[.ref l2, .int 0 0] }) { cls := .type "list_iterator", data := .fields #[.ref l3, .int 0 0] }).trans (congrArg (· + 1) z2)
  have z4 : h4.objs.size = s.heap.objs.size + 3 + 1 := by subst e4; unfold zips4; rw [Heap.size_push, z3]
  have z5 : (h4.push (trio .none .none .none)).objs.size = s.heap.objs.size + 4 + 1 := by rw [Heap.size_push, z4]
  have g1 : h4.get? s.heap.objs.size = some { cls := .type "list_iterator", data := .fields #[.ref l1, .int 0 0] } := by subst e4; exact p (p (p (n rfl rfl)))
  have g2 : h4.get? (s.heap.objs.size + 1) = some { cls := .type "list_iterator", data := .fields #[.ref l2, .int 0 0] } := by subst e4; exact p (p (n z1 rfl))
  have g3 : h4.get? (s.heap.objs.size + 2) = some { cls := .type "list_iterator", data := .fields #[.ref l3, .int 0 0] } := by subst e4; exact p (n z2 rfl)
  have g4 : h4.get? (s.heap.objs.size + 3) = some (trio (.ref s.heap.objs.size) (.ref (s.heap.objs.size + 1)) (.ref (s.heap.objs.size + 2))) := by subst e4; exact n z3 rfl
  have k4 : ∀ c o, s.heap.get? c = some o → h4.get? c = some o := fun c o e => by subst e4; exact p (p (p (p e)))
  subst e5
  have keep : ∀ c o, s.heap.get? c = some o → ((h4.push (trio .none .none .none)).push { cls := .type "zip", dict := none, data := .fields #[.none, .bool false, .bool false, .ref (s.heap.objs.size + 3), .ref (s.heap.objs.size + 4)], slots := #[] }).get? c = some o := fun c o e => p (p (k4 c o e))
  have g6 : ((h4.push (trio .none .none .none)).push { cls := .type "zip", dict := none, data := .fields #[.none, .bool false, .bool false, .ref (s.heap.objs.size + 3), .ref (s.heap.objs.size + 4)], slots := #[] }).get? (s.heap.objs.size + 5) = some (zip3O s.heap.objs.size .none) := n z5 rfl
  exact ⟨⟨_, g6, rfl⟩, h _ ⟨g6, p (p g4), p (n z4 rfl), ⟨_, p (p g1), rfl, rfl⟩, ⟨_, p (p g2), rfl, rfl⟩, ⟨_, p (p g3), rfl, rfl⟩, hl1.at fun o e => keep _ _ e, hl2.at fun o e => keep _ _ e, hl3.at fun o e => keep _ _ e⟩ keep⟩
theorem Itr.zip3 (hh : A.handled = none) {es : List PySem.Expr} {kk : Nat} {pos : Pos} {z l1 l2 l3 : Nat} (D1 : Far z l1) (D2 : Far z l2) (D3 : Far z l3) {xs ys us : Array Value} {items : List (List V)} {N : Nat} (hx : xs.size = N) (hy : ys.size = N) (hu : us.size = N) (hN : items.length = N)
    (hP : ∀ (i : Nat) ls x y u, items[i]? = some ls → xs[i]? = some x → ys[i]? = some y → us[i]? = some u → VRs ls [x, y, u]) :
    Itr w A (.Tuple es kk pos) (z + 5) [z + 5, z + 3, z + 4, z, z + 1, z + 2, l1, l2, l3] [z + 5, z + 4, z, z + 1, z + 2] (items.map .t)
      (fun i h => ∃ a b c, Z3 h z l1 l2 l3 xs ys us .none a b c i i i)
      (fun i v h => ∃ T x y u, v = .ref T ∧ xs[i]? = some x ∧ ys[i]? = some y ∧ us[i]? = some u ∧ h.get? T = some (trio x y u) ∧ T ∉ [z + 5, z + 4, z, z + 1, z + 2] ∧ Z3 h z l1 l2 l3 xs ys us (rawInt T) x y u (i + 1) (i + 1) (i + 1)) where
  sub := fun c hc => by simp at hc ⊢; rcases hc with h | h | h | h | h <;> simp [h]
  frame := fun i h h' hPt hk => by obtain ⟨a, b, c, st⟩ := hPt; exact ⟨a, b, c, st.at fun p hp o e => hk p hp o e⟩
  has := fun i h hPt p hp => by obtain ⟨a, b, c, st⟩ := hPt; exact st.has p hp
  item := fun i it s Q E hi hPt hQ => by
    obtain ⟨a, b, c, st⟩ := hPt
    have hlt : i < N := by have := (List.getElem?_eq_some_iff.mp hi).1; simpa [hN] using this
    have hT : s.TypeIs (.ref (z + 5)) "zip" := ⟨_, st.zip, rfl⟩
    unfold pyNext
    refine wpAny_bind (wpAny_attempt (wpAny_callSpecial?_slot (name := Str.ofString "__next__") hT F.slot_zip_next
      (wpAny_call_entry F.slot_zip_next hT F.entry_zip_next
        (zip3_item D1 D2 D3 st (Array.getElem?_eq_getElem (show i < xs.size by lia)) (Array.getElem?_eq_getElem (show i < ys.size by lia)) (Array.getElem?_eq_getElem (show i < us.size by lia)) fun h' X N' O => wpAny_pure ?_) (F.args_zip_next_1 _))))
    refine hQ _ h' s.toks ⟨s.heap.objs.size, _, _, _, rfl, Array.getElem?_eq_getElem (show i < xs.size by lia), Array.getElem?_eq_getElem (show i < ys.size by lia), Array.getElem?_eq_getElem (show i < us.size by lia), N', ?_, X⟩ fun c o hc e => O c o (fun q => hc (by simp [q])) (fun q => hc (by simp [q])) (fun q => hc (by simp [q])) (fun q => hc (by simp [q])) (fun q => hc (by simp [q])) e
    intro hm
    have lt : ∀ {p o}, s.heap.get? p = some o → s.heap.objs.size ≠ p := fun e => Nat.ne_of_gt (Heap.lt_size e)
    obtain ⟨_, t4, _⟩ := st.i1
    obtain ⟨_, t5, _⟩ := st.i2
    obtain ⟨_, t6, _⟩ := st.i3
    have a1 := lt st.zip
    have a2 := lt st.out
    have a4 := lt t4
    have a5 := lt t5
    have a6 := lt t6
    simp at hm
    rcases hm with h | h | h | h | h
    · exact a1 h
    · exact a2 h
    · exact a4 h
    · exact a5 h
    · exact a6 h
  go := fun i it v s Q E hi hPt hQ => by
    obtain ⟨T, x, y, u, e, h1, h2, h3, hT, hn, X⟩ := hPt
    subst e
    rw [List.getElem?_map] at hi
    obtain ⟨ls, g1, g2⟩ := Option.map_eq_some_iff.mp hi
    subst g2
    unfold letOwnedTupleGo
    refine wpAny_bind (wpAny_load X.zip ?_)
    show wpAny _ _ (if (["enumerate", "zip", "dict_itemiterator", "dict_reverseitemiterator", "odict_iterator", "itertools.zip_longest", "itertools.pairwise"].contains "zip" &&
      (#[rawInt T, .bool false, .bool false, .ref (z + 3), .ref (z + 4)] : Array Value)[0]? == some (rawInt T)) = true then _ else _) Q E s
    rw [if_pos (by simp)]
    refine wpAny_bind (wpAny_rule ?_)
    show wpAny _ _ (setField (.ref (z + 5)) 0 .none) Q E s
    refine wpAny_setField_rec X.zip (by simp) fun h' hz' hs' => ?_
    have hT' : T ≠ z + 5 := fun q => hn (by simp [q])
    exact hQ h' ⟨x, y, u, X.setZip D1 D2 D3 (g := .none) hs'.extBut hz'⟩ ⟨T, #[x, y, u], rfl, ⟨_, hs'.extBut _ _ hT' hT, rfl, 0, rfl⟩, hP _ _ _ _ _ g1 h1 h2 h3⟩ fun c o hc e => hs'.extBut _ _ (fun q => hc (by simp [q])) e
  self := fun i s Q E hPt hQ => by obtain ⟨a, b, c, st⟩ := hPt; exact wpAny_pyIter_zip st.zip hQ
  done := fun s Q E hPt hQ => by
    obtain ⟨a, b, c, st⟩ := hPt
    have hT : s.TypeIs (.ref (z + 5)) "zip" := ⟨_, st.zip, rfl⟩
    unfold pyNext
    refine wpAny_bind (wpAny_attempt (wpAny_callSpecial?_slot (name := Str.ofString "__next__") hT F.slot_zip_next
      (wpAny_call_entry F.slot_zip_next hT F.entry_zip_next (zip3_end hh D1 D2 D3 st (Array.getElem?_eq_none (by simp [hN, hx])) fun h' e O he => ?_) (F.args_zip_next_1 _))))
    obtain ⟨o, ho, hc⟩ := he
    refine wpAny_bind (wpAny_isInstance (T := "StopIteration") (b := true) ⟨o, ho, hc⟩ isSubtype_stop ?_)
    exact wpAny_pure (hQ h' s.toks fun c o hc e => O c o (fun q => hc (by simp [q])) (fun q => hc (by simp [q])) (fun q => hc (by simp [q])) (fun q => hc (by simp [q])) (fun q => hc (by simp [q])) e)
end
end Mine
namespace Mine
section
variable {sc : Scope} {n : Nat} {ρ : Lo} {φ : Ph} {σ : Sg}
inductive Zip3S (φ : Ph) (σ σ' : Sg) (z : Nat) (l1 l2 l3 : Addr) : Prop
  | mk (o1 o2 o3 : Obj) (h1 : ∀ j, j < 6 → σ (z + j) = none) (h2 : ∀ a c, σ a = some c → σ' a = some c) (h3 : σ' z = some (.raw o1)) (h4 : σ' (z + 1) = some (.raw o2)) (h5 : σ' (z + 2) = some (.raw o3))
    (h6 : σ' (z + 3) = some (.raw (trio (.ref z) (.ref (z + 1)) (.ref (z + 2))))) (h7 : σ' (z + 4) = some (.raw (trio .none .none .none))) (h8 : σ' (z + 5) = some (.raw (zip3O z .none)))
    (h9 : o1.cls = .type "list_iterator") (h10 : o1.data = .fields #[.ref l1, .int (0 : Nat) 0]) (h11 : o2.cls = .type "list_iterator") (h12 : o2.data = .fields #[.ref l2, .int (0 : Nat) 0]) (h13 : o3.cls = .type "list_iterator") (h14 : o3.data = .fields #[.ref l3, .int (0 : Nat) 0]) : Zip3S φ σ σ' z l1 l2 l3
theorem B_zip3 : ∀ {sc : Scope} {n : Nat} {ρ : Lo} {φ : Ph} {σ : Sg} {l1 l2 l3 : Addr} {vs ws us : List V} {Q : V → Lo → Ph → Sg → Prop} (hl1 : LstP φ l1 vs) (hl2 : LstP φ l2 ws) (hl3 : LstP φ l3 us) (q : ∀ z σ', Zip3S φ σ σ' z l1 l2 l3 → Q (.ref (z + 5)) ρ φ σ'), CallW w H0 sc n (.type "zip") [.ref l1, .ref l2, .ref l3] ρ φ σ Q := by
  apply @Mine.hk6; generalize ca1 (cx _) = sc, ca2 (cx _) = n, ca3 (cx _) = ρ, ca4 (cx _) = φ, ca5 (cx _) = σ, cz6 (cx _) = l1
  apply @Mine.hk6; generalize ca1 (cx _) = l2, ca2 (cx _) = l3, ca3 (cx _) = vs, ca4 (cx _) = ws, ca5 (cx _) = us, cz6 (cx _) = Q
  intro hl1 hl2 hl3 q
  intro xs hx
  cases hx with | cons h1 hx => cases hx with | cons h2 hx => cases hx with | cons h3 hx =>
  refine VRs.nilE hx ?_; refine VR.refE h1 ?_; refine VR.refE h2 ?_; refine VR.refE h3 ?_
  intro τ env A s kk
  obtain ⟨items, m, ho, hv⟩ := hl1
  obtain ⟨items2, m2, ho2, hv2⟩ := hl2
  obtain ⟨items3, m3, ho3, hv3⟩ := hl3
  refine call_zip_3 (IsL.isList (show IsL s.heap l1 items m from kk.hr.keep _ _ ho)) (IsL.isList (show IsL s.heap l2 items2 m2 from kk.hr.keep _ _ ho2)) (IsL.isList (show IsL s.heap l3 items3 m3 from kk.hr.keep _ _ ho3)) fun h' X hk => ?_
  obtain ⟨o1, a1, a2, a3⟩ := X.i1
  obtain ⟨o2, b1, b2, b3⟩ := X.i2
  obtain ⟨o3, c1, c2, c3⟩ := X.i3
  have hTI := X.ti
  have hTO := X.out
  have hz := X.zip
  generalize hzz : s.heap.objs.size = z at *
  have fr0 : ∀ j o, h'.get? (z + j) = some o → Free τ env ρ φ σ h' (z + j) := fun j o e => kk.freeAt (by lia) e
  have ne : ∀ {i j : Nat}, i ≠ j → z + i ≠ z + j := fun h q => h (Nat.add_left_cancel q)
  have k1 := kk.grow (s' := { s with heap := h' }) hk
  have k2 := k1.addAt (fr0 0 _ a1) a1 (c := .raw o1) rfl
  have k3 := k2.addAt ((fr0 1 _ b1).upd (ne (by decide))) b1 (c := .raw o2) rfl
  have k4 := k3.addAt (((fr0 2 _ c1).upd (ne (by decide))).upd (ne (by decide))) c1 (c := .raw o3) rfl
  have k5 := k4.addAt ((((fr0 3 _ hTI).upd (ne (by decide))).upd (ne (by decide))).upd (ne (by decide))) hTI (c := .raw (trio (.ref z) (.ref (z + 1)) (.ref (z + 2)))) rfl
  have k6 := k5.addAt (((((fr0 4 _ hTO).upd (ne (by decide))).upd (ne (by decide))).upd (ne (by decide))).upd (ne (by decide))) hTO (c := .raw (trio .none .none .none)) rfl
  have k7 := k6.addAt ((((((fr0 5 _ hz).upd (ne (by decide))).upd (ne (by decide))).upd (ne (by decide))).upd (ne (by decide))).upd (ne (by decide))) hz (c := .raw (zip3O z .none)) rfl
  have hn : ∀ j, σ (z + j) = none := fun j => (kk.freshAt (a := z + j) (by lia)).2.2.1
  refine ⟨_, ρ, φ, _, .ref _, k7, ⟨rfl, rfl⟩, q z _ ⟨o1, o2, o3, fun j _ => hn j, fun a c e => ?_, ?_, ?_, ?_, ?_, ?_, ?_, a2, a3, b2, b3, c2, c3⟩⟩
  · have : ∀ j, a ≠ z + j := fun j q => by subst q; rw [hn j] at e; cases e
    rw [upd_other (this 5), upd_other (this 4), upd_other (this 3), upd_other (this 2), upd_other (this 1), upd_other (this 0)]; exact e
  · rw [upd_other (show z ≠ z + 5 by lia), upd_other (show z ≠ z + 4 by lia), upd_other (show z ≠ z + 3 by lia), upd_other (show z ≠ z + 2 by lia), upd_other (show z ≠ z + 1 by lia)]; exact upd_same _ _ _
  · rw [upd_other (ne (by decide)), upd_other (ne (by decide)), upd_other (ne (by decide)), upd_other (ne (by decide)), upd_same]
  · rw [upd_other (ne (by decide)), upd_other (ne (by decide)), upd_other (ne (by decide)), upd_same]
  · rw [upd_other (ne (by decide)), upd_other (ne (by decide)), upd_same]
  · rw [upd_other (ne (by decide)), upd_same]
  · rw [upd_same]
noncomputable def zip3V : List V → List V → List V → List (List V)
  | v :: vs, u :: us, t :: ts => [v, u, t] :: zip3V vs us ts
  | _, _, _ => []
theorem zip3V_len : ∀ (vs us ts : List V), vs.length = us.length → us.length = ts.length → (zip3V vs us ts).length = vs.length
  | [], us, ts, h1, h2 => by simp [zip3V]
  | v :: vs, [], ts, h1, h2 => by simp at h1
  | v :: vs, u :: us, [], h1, h2 => by simp at h2
  | v :: vs, u :: us, t :: ts, h1, h2 => by simp [zip3V, zip3V_len vs us ts (by simpa using h1) (by simpa using h2)]
theorem zip3V_get : ∀ (vs us ts : List V) (i : Nat) (ls : List V), (zip3V vs us ts)[i]? = some ls → ∃ v u t, vs[i]? = some v ∧ us[i]? = some u ∧ ts[i]? = some t ∧ ls = [v, u, t]
  | [], us, ts, i, ls, h => by simp [zip3V] at h
  | v :: vs, [], ts, i, ls, h => by simp [zip3V] at h
  | v :: vs, u :: us, [], i, ls, h => by simp [zip3V] at h
  | v :: vs, u :: us, t :: ts, i, ls, h => by
    cases i with
    | zero => simp [zip3V] at h; exact ⟨v, u, t, rfl, rfl, rfl, h.symm⟩
    | succ i => simp [zip3V] at h; simpa using zip3V_get vs us ts i ls h
variable {K : List Itm → Lo → Ph → Sg → Prop}
inductive Zip3K (K : List Itm → Lo → Ph → Sg → Prop) (v : V) (ρ : Lo) (φ : Ph) (σ1 : Sg) : Prop
  | mk (z : Nat) (l1 l2 l3 : Addr) (vs us ts : List V) (σ : Sg) (e : v = .ref (z + 5)) (h : Zip3S φ σ σ1 z l1 l2 l3) (h1 : LstP φ l1 vs) (h2 : LstP φ l2 us) (h3 : LstP φ l3 ts) (g1 : vs.length = us.length) (g2 : us.length = ts.length) (q : K ((zip3V vs us ts).map .t) ρ φ σ) : Zip3K K v ρ φ σ1
theorem It_zip3 {e : PySem.Expr} {es : List PySem.Expr} {kk : Nat} {p : Pos} (h : EW w H0 sc n e ρ φ σ (Zip3K K)) :
    ItW w H0 sc n e (.Tuple es kk p) ρ φ σ K := fun τ env A s k =>
  Post.run (h τ env A s k) (fun x s1 b1 ρ1 φ1 σ1 r1 k1 m1 hPt => by
    obtain ⟨z, l1, l2, l3, vs, us, ts, σ2, e1, ⟨o1, o2, o3, hn, hsub, s0, s1', s2, s3, s4, s5, c1, c2, c3, c4, c5, c6⟩, ⟨items, m, ho, hv⟩, ⟨items2, m2, ho2, hv2⟩, ⟨items3, m3, ho3, hv3⟩, g1, g2, hK⟩ := hPt
    subst e1; refine VR.refE r1 ?_
    have f0 := k1.freeRaw (σ := σ2) s0 (hn 0 (by decide))
    have f1 := k1.freeRaw (σ := σ2) s1' (hn 1 (by decide))
    have f2 := k1.freeRaw (σ := σ2) s2 (hn 2 (by decide))
    have f3 := k1.freeRaw (σ := σ2) s3 (hn 3 (by decide))
    have f4 := k1.freeRaw (σ := σ2) s4 (hn 4 (by decide))
    have f5 := k1.freeRaw (σ := σ2) s5 (hn 5 (by decide))
    have out : ∀ {l b : Addr} {o : Obj}, φ1 l = some o → φ1 b = none → l ≠ b := fun h h' q => by subst q; rw [h'] at h; cases h
    have far : ∀ {l : Nat} {o : Obj}, φ1 l = some o → Far z l := fun {l o} h => by
      have a0 : l ≠ z := out h f0.1.2.2.2.1
      have a1 : l ≠ z + 1 := out h f1.1.2.2.2.1
      have a2 : l ≠ z + 2 := out h f2.1.2.2.2.1
      have a3 : l ≠ z + 3 := out h f3.1.2.2.2.1
      have a4 : l ≠ z + 4 := out h f4.1.2.2.2.1
      have a5 : l ≠ z + 5 := out h f5.1.2.2.2.1
      unfold Far; lia
    have X : Z3 s1.heap z l1 l2 l3 items items2 items3 .none .none .none .none 0 0 0 := ⟨f5.2, f3.2, f4.2, ⟨_, f0.2, c1, c2⟩, ⟨_, f1.2, c3, c4⟩, ⟨_, f2.2, c5, c6⟩,
      IsL.isList (show IsL s1.heap l1 items m from k1.hr.keep _ _ ho), IsL.isList (show IsL s1.heap l2 items2 m2 from k1.hr.keep _ _ ho2), IsL.isList (show IsL s1.heap l3 items3 m3 from k1.hr.keep _ _ ho3)⟩
    refine wpAny_pyIter_zip f5.2 ?_
    refine ⟨z + 5, _, [z + 5, z + 4, z, z + 1, z + 2], (zip3V vs us ts).map .t, _, _, ρ1, φ1, σ2, rfl, fun A hA => Itr.zip3 hA (far ho) (far ho2) (far ho3) (N := vs.length) (size_of hv) ((size_of hv2).trans g1.symm) ((size_of hv3).trans (g1.trans g2).symm) (zip3V_len vs us ts g1 g2) fun i ls x y u hi hx hy hu => ?_, k1.subσ hsub, m1,
      ⟨_, _, _, X⟩, fun b hb hnn => ?_, fun b hb => ?_, hK⟩
    · obtain ⟨v, u', t, h1, h2, h3, h4⟩ := zip3V_get _ _ _ _ _ hi
      subst h4
      obtain ⟨y1, h5, h6⟩ := hv.get h1
      obtain ⟨y2, h7, h8⟩ := hv2.get h2
      obtain ⟨y3, h9, h10⟩ := hv3.get h3
      have h5 : items[i]? = some y1 := by simpa using h5
      have h7 : items2[i]? = some y2 := by simpa using h7
      have h9 : items3[i]? = some y3 := by simpa using h9
      rw [hx] at h5; cases h5
      rw [hy] at h7; cases h7
      rw [hu] at h9; cases h9
      exact .cons h6 (.cons h8 (.cons h10 .nil))
    · simp at hb
      rcases hb with rfl | rfl | rfl | rfl | rfl | rfl | rfl | rfl | rfl
      · exact f5.1
      · exact f3.1
      · exact f4.1
      · exact f0.1
      · exact f1.1
      · exact f2.1
      · rw [ho] at hnn; cases hnn
      · rw [ho2] at hnn; cases hnn
      · rw [ho3] at hnn; cases hnn
    · simp at hb
      rcases hb with rfl | rfl | rfl | rfl | rfl
      · exact f5.1.2.2.2.1
      · exact f4.1.2.2.2.1
      · exact f0.1.2.2.2.1
      · exact f1.1.2.2.2.1
      · exact f2.1.2.2.2.1)
noncomputable def dropP (φ : Ph) (a : Addr) : Ph := fun b => if b = a then none else φ b
theorem dropP_le {φ φ' : Ph} {a : Addr} {o : Obj} (h : φ a = none) (l : Le (updP φ a o) φ') : Le φ (dropP φ' a) := fun b ob e => by
  have hb : b ≠ a := fun q => by subst q; rw [h] at e; cases e
  unfold dropP; rw [if_neg hb]
  exact l b ob (by unfold updP; rw [if_neg hb]; exact e)
theorem CR.drop : ∀ {φ : Ph} {a : Addr} {o : Obj} {c : C} {x : Obj} (h : φ a = some o) (hc : o.cls ≠ .type "tuple") (r : CR w φ c x), CR w (dropP φ a) c x := by
  refine @Mine.hk5 _ _ _ _ _ _ _ _ neC _ _ ?_; generalize ca1 (cx _) = φ, ca2 (cx _) = a, ca3 (cx _) = o, ca4 (cx _) = c, cz5 (cx _) = x
  intro h hc r
  cases c with
  | tdict xs =>
    obtain ⟨k, es, ep, h1, h2, h3, h4, h5, h6⟩ := r
    refine ⟨k, es, ep, h1, h2, h3, h4, fun y hy => ?_, h6⟩
    obtain ⟨o', items, m, g1, g2, g3⟩ := h5 y hy
    have : y.2.1 ≠ a := fun q => by rw [q] at g1; rw [h] at g1; cases g1; exact hc g2
    exact ⟨o', items, m, by unfold dropP; rw [if_neg this]; exact g1, g2, g3⟩
  | _ => exact r
theorem HR.thaw {φ : Ph} {σ : Sg} {h : Heap} {a : Addr} {o : Obj} {c : C} (x : HR w H0 φ σ h) (ha : φ a = some o) (hc : o.cls ≠ .type "tuple") (h0 : H0.get? a = none) (hh : sysModules < a) (hr : CR w φ c o) : HR w H0 (dropP φ a) (upd σ a c) h := by
  refine ⟨fun b ob e => ?_, fun b ob e => ?_, fun b cb e => ?_, fun b cb e => ?_, x.big⟩
  · unfold dropP at e
    split at e
    · cases e
    · exact x.keep b ob e
  · have : b ≠ a := fun q => by subst q; rw [h0] at e; cases e
    unfold dropP; rw [if_neg this]; exact x.root b ob e
  · unfold upd at e
    by_cases hb : b = a
    · subst hb; rw [if_pos rfl] at e; cases e
      exact ⟨by unfold dropP; rw [if_pos rfl], o, x.keep _ _ ha, hr.drop ha hc⟩
    · rw [if_neg hb] at e
      obtain ⟨g1, o', g2, g3⟩ := x.cells b cb e
      exact ⟨by unfold dropP; rw [if_neg hb]; exact g1, o', g2, g3.drop ha hc⟩
  · unfold upd at e
    by_cases hb : b = a
    · subst hb; exact hh
    · rw [if_neg hb] at e; exact x.high b cb e
theorem W.lend {α β : Type} {R : β → α → Prop} {t : Env → Sem α} {Q : β → Lo → Ph → Sg → Prop} {a : Addr} {vs : List V} (e : σ a = some (.list vs))
    (h : ∀ o, φ a = none → LstP (updP φ a o) a vs → W w H0 sc n R t ρ (updP φ a o) (del σ a) (fun b ρ' φ' σ' => Le (updP φ a o) φ' ∧ Q b ρ' (dropP φ' a) (upd σ' a (.list vs)))) : W w H0 sc n R t ρ φ σ Q := fun τ env A s k => by
  obtain ⟨o, hc, hn, k', l⟩ := k.freeze e
  obtain ⟨items, m, rfl, hv⟩ := hc
  have h0 : H0.get? a = none := by
    cases q : H0.get? a with
    | none => rfl
    | some ob => rw [k.hr.root _ _ q] at hn; cases hn
  have hh := k.hr.high _ _ (k.full_sg e)
  refine Post.run (h _ hn ⟨items, m, updP_same _ _ _, hv⟩ τ env A s k') (fun x s' b ρ' φ' σ' h1 h2 h3 hPt => ?_)
  obtain ⟨h4, h5⟩ := hPt
  have ha := h4 a _ (updP_same _ _ _)
  have hτ : τ a = none := k.dj2 a (by rw [e]; rfl)
  have hfr : fr env ρ' a = none := by
    refine fr_none (ρ := ρ) ?_
    cases q : fr env ρ a with
    | none => rfl
    | some c => have := (k.dj1 a (by rw [q]; rfl)).2; rw [e] at this; cases this
  refine ⟨b, ρ', _, _, h1, ⟨h2.ok, h2.room, fun c ec => ?_, fun c ec => ?_, ?_⟩, h3, h5⟩
  · have d := h2.dj1 c ec
    have : c ≠ a := fun q => by subst q; rw [hfr] at ec; cases ec
    rw [upd_other this]; exact d
  · by_cases hb : c = a
    · subst hb; exact hτ
    · rw [upd_other hb] at ec; exact h2.dj2 c ec
  · rw [jn_upd (jn_none.mpr ⟨hτ, hfr⟩)]
    exact h2.hr.thaw ha (show Value.type "list" ≠ Value.type "tuple" by decide) h0 hh ⟨items, m, rfl, hv⟩
end
end Mine
namespace Mine
section
variable {prog : Program} {K : Type} [DecidableEq K] {knd : HeapKind prog w K} {A : Around} {E : Value → Shared → Prop} {s : Shared}
theorem map_erase {α β : Type} (f : α → β) : ∀ (l : List α) (i : Nat), (l.map f).eraseIdx i = (l.eraseIdx i).map f
  | [], i => by simp
  | x :: r, 0 => rfl
  | x :: r, i + 1 => by simp [map_erase f r i]
theorem takeOut_heap {d a : Addr} {xs : List (K × Addr × Value)} {k : K} {p : Addr × Value} {j : Nat} {Q : Option DictEntry → Shared → Prop} (hu : knd.room A) (hkey : knd.is s.heap k a) (hm : s.heap.DictOfH knd d xs) (hj : xs[j]? = some (k, p)) (hz : xs.length ≤ 1000)
    (hQ : ∀ h', h'.DictOfH knd d (xs.eraseIdx j) → Heap.SameBut d s.heap h' → Q (some ⟨knd.hash k, .ref p.1, p.2⟩) { s with heap := h', toks := s.toks + knd.draws k }) :
    wpAny (model prog w) A (Builtin.Dict.takeOut d (.ref a)) Q E s := by
  obtain ⟨o, es, ep, ho, hc, hd, he, his, hn⟩ := hm
  have hjl : j < xs.length := (List.getElem?_eq_some_iff.mp hj).1
  have hsz : es.size = xs.length := size_of_entries he
  unfold Builtin.Dict.takeOut
  try with_reducible refine wpAny_holding ?_
  refine wpAny_bind (knd.pyHash hu hkey (wpAny_bind (wpAny_dictFind_heap (s := { s with toks := s.toks + knd.draws k }) hu hkey ho hd he his hn (fun hno => absurd hj (hno j p)) fun i q hi => ?_)))
  have e0 := idxH_unique hn hi hj
  subst e0
  rw [hi] at hj
  have hj := Option.some.inj hj
  obtain ⟨_, rfl⟩ := Prod.mk.inj hj
  refine wpAny_bind (wpAny_dictEntries (s := { s with toks := s.toks + knd.draws k }) ho hd ?_)
  rw [entry_at he i, hi]
  refine wpAny_bind (wpAny_updateDictKeys (hz := by rw [hsz, sizeLine_eq]; lia) (s := { s with toks := s.toks + knd.draws k }) ho hd (wpAny_pure (hQ _ ⟨_, _, ep + 1, Heap.get?_update_self _ ho (Obj.isFreed_of_dict (Obj.data_mapDictKeys hd _)),
    hc.mapDictKeys _, Obj.data_mapDictKeys hd _, ?_, fun x hx => knd.keeps (his x ((List.eraseIdx_sublist _ _).subset hx)) ho hd (Heap.SameBut.update ..), ?_⟩ (Heap.SameBut.update ..))))
  · have : (es.eraseIdxIfInBounds i).toList = es.toList.eraseIdx i := by
      rw [Array.eraseIdxIfInBounds, dif_pos (by rw [hsz]; exact hjl)]; simp
    rw [this, he, map_erase]
  · exact hn.sublist (List.Sublist.map _ (List.eraseIdx_sublist _ _))
theorem meetsH_dict_pop (d a : Addr) :
    MeetsIn prog w (Builtin.«dict.pop» ⟨[.ref d, .ref a], []⟩) (fun A R s => knd.room A.in1 ∧ ∃ (k : K) (xs : List (K × Addr × Value)) (p : Addr × Value) (j : Nat), knd.is s.heap k a ∧ s.heap.DictOfH knd d xs ∧ xs[j]? = some (k, p) ∧ xs.length ≤ 1000 ∧
      ∀ h', h'.DictOfH knd d (xs.eraseIdx j) → Heap.SameBut d s.heap h' → R (.ok (.ret p.2)) { s with heap := h', toks := s.toks + knd.draws k }) :=
  .of_wp fun A R s hPt => by
    obtain ⟨hu, k, xs, p, j, hkey, hm, hj, hz, h⟩ := hPt
    unfold Builtin.«dict.pop»
    refine wpAny_bind ?_
    unfold Builtin.Dict.keyAndDefault
    refine wpAny_bind (wpAny_notOrdered_dict hm.typeIs ?_)
    show wpAny _ _ (pure (d, Value.ref a, none)) _ _ s
    refine wpAny_pure ?_
    dsimp only
    rw [if_neg (show ¬ (keyPart (.ref a)).isSome = true from fun h => Bool.noConfusion h)]
    obtain ⟨o, es, ep, ho, hc, hd, he, his, hn⟩ := id hm
    have hsz : es.size = xs.length := size_of_entries he
    have hjl : j < xs.length := (List.getElem?_eq_some_iff.mp hj).1
    refine wpAny_bind (wpAny_dictEntries ho hd ?_)
    refine wpAny_bind (wpAny_pure ?_)
    rw [if_neg (by simp only [Array.isEmpty, decide_eq_true_eq]; lia)]
    refine wpAny_bind (takeOut_heap hu hkey hm hj hz fun h' hm' hs' => ?_)
    simp only [Option.isNone_some, Bool.false_eq_true, if_false]
    exact wpAny_bind (wpAny_letGo (wpAny_pure ⟨_, rfl, h h' hm' hs'⟩))
end
section
variable {sc : Scope} {n : Nat} {ρ : Lo} {φ : Ph} {σ : Sg} {Q : V → Lo → Ph → Sg → Prop}
theorem KAVs.get {xs : List (List Scal × V)} {kvs : List (List Scal × Addr × Value)} (h : KAVs xs kvs) : ∀ {j : Nat} {k : List Scal} {v : V}, xs[j]? = some (k, v) → ∃ a x, kvs[j]? = some (k, a, x) ∧ VR v x := by
  induction h with
  | nil => intro j k v h; simp at h
  | cons hv _ ih =>
    intro j k v h
    cases j with
    | zero => simp at h; obtain ⟨rfl, rfl⟩ := h; exact ⟨_, _, rfl, hv⟩
    | succ j => simp at h; simpa using ih h
theorem KAVs.erase {xs : List (List Scal × V)} {kvs : List (List Scal × Addr × Value)} (h : KAVs xs kvs) : ∀ j, KAVs (xs.eraseIdx j) (kvs.eraseIdx j) := by
  induction h with
  | nil => intro j; exact .nil
  | cons hv hr ih =>
    intro j
    cases j with
    | zero => exact hr
    | succ j => exact .cons hv (ih j)
theorem GM_tdict {name : Str} {id : String} {d : Addr} {xs : List (List Scal × V)} {pl : Env → Sem Bool} {Q : Value × List V → Lo → Ph → Sg → Prop} (slot : Slot "dict" name id) (hty : typeOf (.builtin id) = pure (.type "method_descriptor")) (hd : σ d = some (.tdict xs)) (q : Q (.builtin id, [.ref d]) ρ φ σ) :
    ∀ y, VR (.ref d) y → W w H0 sc n (fun (p : Value × List V) (y : Value × List Value) => y.1 = p.1 ∧ VRs p.2 y.2) (fun env => getMethod y name (pl env)) ρ φ σ Q :=
  GM "dict" PySem.F.plainAttrs_dict slot hty (fun τ env A s k => by obtain ⟨kvs, ⟨o, es, ep, ho, hc, _⟩, _, _, _⟩ := k.tdict hd; exact ⟨⟨o, ho, hc.1⟩, fun a q => by cases q; exact ⟨o, ho, hc.2.1⟩⟩) q
theorem E_popT : ∀ {sc : Scope} {n : Nat} {ρ : Lo} {φ : Ph} {σ : Sg} {Q : V → Lo → Ph → Sg → Prop} {o e : PySem.Expr} {apos pos : Pos} (hs : noStar e = true) (he : ∀ env, eval (.Call (.Attribute o (Str.ofString "pop") apos) [e] [] pos) env = (do
      let ov ← eval o env
      standAt apos.atName
      let (f, first) ← holding [ov] (getMethod ov (Str.ofString "pop") (do return (← importBound o env).getD true))
      callWith pos f first (backTo pos (starEach [e] env)) [])) (h : EW w H0 sc n o ρ φ σ fun ov ρ φ σ => ∃ d, ov = .ref d ∧ (∃ xs, σ d = some (.tdict xs)) ∧ EW w H0 sc n e ρ φ σ fun v ρ φ σ => ∃ t xs ks j u, v = .ref t ∧ Tup φ t (ks.map scV) ∧ σ d = some (.tdict xs) ∧ xs.length ≤ 900 ∧ xs[j]? = some (ks, u) ∧ Q u ρ φ (upd σ d (.tdict (xs.eraseIdx j)))),
    EW w H0 sc n (.Call (.Attribute o (Str.ofString "pop") apos) [e] [] pos) ρ φ σ Q := by
  apply @Mine.hk6; generalize ca1 (cx _) = sc, ca2 (cx _) = n, ca3 (cx _) = ρ, ca4 (cx _) = φ, ca5 (cx _) = σ, cz6 (cx _) = Q
  apply @Mine.hk4; generalize ca1 (cx _) = o, ca2 (cx _) = e, ca3 (cx _) = apos, cz4 (cx _) = pos
  intro hs he h
  refine E_meth (pl := fun env => do return (← importBound o env).getD true) (by simpa using hs) (h.mono fun ov ρ φ σ hPt => ?_) he
  obtain ⟨d, e1, ⟨xs, hd⟩, h2⟩ := hPt
  subst e1
  refine GM_tdict PySem.F.slot_dict_pop PySem.F.type_dict_pop hd ⟨mach rfl, A_cons (h2.mono fun v ρ φ σ ⟨t, xs, ks, j, u, e2, ht, hd, hz, hj, q⟩ => A_nil fun ys hy => ?_) (one_star hs)⟩
  subst e2
  cases hy with | cons h1 hy => cases hy with | cons h2 hy =>
  refine VRs.nilE hy ?_; refine VR.refE h1 ?_; refine VR.refE h2 ?_
  intro τ env A s ok
  obtain ⟨kvs, g1, g2, g3, g4⟩ := ok.tdict hd
  obtain ⟨a, x, gj, gv⟩ := g2.get hj
  refine call_meetsIn PySem.F.slot_dict_pop g1.typeIs PySem.F.entry_dict_pop (PySem.F.args_dict_pop_2 _ _) (meetsH_dict_pop (knd := tupleKind (scalKind pw w)) d t) ⟨?_, ks, kvs, (a, x), j, (tup_key ht).heap ok, g1, gj, by rw [g2.length]; lia, fun h' hd' hs' => ?_⟩
  · exact ok.room.cl
  obtain ⟨o', es, ep, a1, a2, a3, a4, a5, a6⟩ := hd'
  exact ⟨_, ρ, φ, _, gv, ok.set hd (s' := { s with heap := h', toks := s.toks + (tupleKind (scalKind pw w)).draws ks }) (fun b hb => hs'.2 b hb) a1 (c' := .tdict (xs.eraseIdx j)) ⟨_, es, ep, g2.erase j, a2, a3, a4, fun y hy => g4 y ((List.eraseIdx_sublist _ _).subset hy), a6⟩, ⟨rfl, rfl⟩, q⟩
end
end Mine
namespace Mine
section
variable {sc : Scope} {n : Nat} {ρ : Lo} {φ : Ph} {σ : Sg} {Q : V → Lo → Ph → Sg → Prop}
theorem Ne_l {x : Str} {pos : Pos} {v : V} (hk : sc.names.lookup x = some .local) (hd : (x == ("__debug__" : Str)) = false) (hv : ρ x = some v) (q : Q v ρ φ σ) : EW w H0 sc n (.Name x pos) ρ φ σ Q := E_local hk hv q hd
theorem Ne_c {x : Str} {pos : Pos} {v : V} (hk : sc.names.lookup x = some .cell) (hd : (x == ("__debug__" : Str)) = false) (hv : ρ x = some v) (q : Q v ρ φ σ) : EW w H0 sc n (.Name x pos) ρ φ σ Q := E_cell hk hv q hd
theorem Ne_f {x : Str} {pos : Pos} {v : V} (hk : sc.names.lookup x = some .free) (hd : (x == ("__debug__" : Str)) = false) (hn : (x == ("__classdict__" : Str)) = false) (hv : ρ x = some v) (q : Q v ρ φ σ) : EW w H0 sc n (.Name x pos) ρ φ σ Q := E_free hk hv q hd hn
theorem Ge_Thg (R : Rt w H0) {x : Addr} {k : Str} {v : V} {e : Bool} {a : Int} {name : Str} {eb : Bool} {u : V} (h : Thg φ x k v e a) (h1 : fldIs 72 name = true) (h2 : ThgLo k v e a name = some u) (h3 : handV u = true) (q : Q u ρ φ σ) : ∀ y, VR (.ref x) y → W w H0 sc n VR (fun _ => getAttr y name eb) ρ φ σ Q := G_Thg R h ⟨h1, u, h2, h3, q⟩
theorem Ge_Spn (R : Rt w H0) {x : Addr} {b : Addr} {s m : Int} {name : Str} {eb : Bool} {u : V} (h : Spn φ x b s m) (h1 : fldIs 135 name = true) (h2 : SpnLo b s m name = some u) (h3 : handV u = true) (q : Q u ρ φ σ) : ∀ y, VR (.ref x) y → W w H0 sc n VR (fun _ => getAttr y name eb) ρ φ σ Q := G_Spn R h ⟨h1, u, h2, h3, q⟩
theorem Ge_Rwi (R : Rt w H0) {x : Addr} {num : Int} {l : Addr} {name : Str} {eb : Bool} {u : V} (h : Rwi φ x num l) (h1 : fldIs 114 name = true) (h2 : RwiLo num l name = some u) (h3 : handV u = true) (q : Q u ρ φ σ) : ∀ y, VR (.ref x) y → W w H0 sc n VR (fun _ => getAttr y name eb) ρ φ σ Q := G_Rwi R h ⟨h1, u, h2, h3, q⟩
theorem Ee_own (R : Rt w H0) {fx : Str} {fp pos : Pos} {es : List PySem.Expr} {f : Addr} (hd : (fx == ("__debug__" : Str)) = false) (hk : sc.names.lookup fx = some .globalImplicit) (hs : es.all noStar = true) (h1 : ownL.lookup fx = some f)
    (h : ArgsW w H0 sc n pos es ρ φ σ (ClK w H0 sc n (.ref f) Q)) : EW w H0 sc n (.Call (.Name fx fp) es [] pos) ρ φ σ Q := E_own R hd hk hs ⟨f, h1, h⟩
theorem Ee_blt (R : Rt w H0) {fx : Str} {fp pos : Pos} {es : List PySem.Expr} {f : Value} (hd : (fx == ("__debug__" : Str)) = false) (hk : sc.names.lookup fx = some .globalImplicit) (hs : es.all noStar = true) (h1 : bltL.lookup fx = some f) (h2 : keeperOf f = pure .machine)
    (h : ArgsW w H0 sc n pos es ρ φ σ (ClK w H0 sc n f Q)) : EW w H0 sc n (.Call (.Name fx fp) es [] pos) ρ φ σ Q := E_blt2 R hd hk hs ⟨f, h1, h2, h⟩
theorem Tb_mk {Q : Bool → Lo → Ph → Sg → Prop} {c : Bool} (q : Q c ρ φ σ) : TbK Q (.bool c) ρ φ σ := ⟨c, rfl, q⟩
theorem If_t {a b : List Stmt} {Q : Fl → Lo → Ph → Sg → Prop} (h : XW w H0 sc n a ρ φ σ Q) : IfK w H0 sc n a b Q true ρ φ σ := ⟨fun _ => h, fun h => Bool.noConfusion h⟩
theorem If_f {a b : List Stmt} {Q : Fl → Lo → Ph → Sg → Prop} (h : XW w H0 sc n b ρ φ σ Q) : IfK w H0 sc n a b Q false ρ φ σ := ⟨fun h => Bool.noConfusion h, fun _ => h⟩
theorem Or_t {b : PySem.Expr} {Q : Bool → Lo → Ph → Sg → Prop} (h : Q true ρ φ σ) : OrK w H0 sc n b Q true ρ φ σ := ⟨fun _ => h, fun h => Bool.noConfusion h⟩
theorem Or_f {b : PySem.Expr} {Q : Bool → Lo → Ph → Sg → Prop} (h : TW w H0 sc n b ρ φ σ Q) : OrK w H0 sc n b Q false ρ φ σ := ⟨fun h => Bool.noConfusion h, fun _ => h⟩
theorem An_t {b : PySem.Expr} {Q : Bool → Lo → Ph → Sg → Prop} (h : TW w H0 sc n b ρ φ σ Q) : AndK w H0 sc n b Q true ρ φ σ := ⟨fun _ => h, fun h => Bool.noConfusion h⟩
theorem An_f {b : PySem.Expr} {Q : Bool → Lo → Ph → Sg → Prop} (h : Q false ρ φ σ) : AndK w H0 sc n b Q false ρ φ σ := ⟨fun h => Bool.noConfusion h, fun _ => h⟩
end
end Mine
namespace Mine
local macro_rules | `(tactic| walk_at "zd") => `(tactic| first | decide | lia)
local macro_rules | `(tactic| walk_at "zr") => `(tactic| (rotate_left; intro _; rfl))
local macro_rules | `(tactic| walk_at "za") => `(tactic| first | rfl | assumption)
local macro_rules | `(tactic| walk_at "zw") => `(tactic| first | ((with_reducible refine Ne_l (v := ?_) ?_ ?_ ?_ ?_); rotate_left; rfl; rfl; walk_at "za") | ((with_reducible refine Ne_c (v := ?_) ?_ ?_ ?_ ?_); rotate_left; rfl; rfl; walk_at "za") | ((with_reducible refine Ne_f (v := ?_) ?_ ?_ ?_ ?_ ?_); rotate_left; rfl; rfl; rfl; walk_at "za") | (with_reducible refine C_eqS_t ?_) | ((with_reducible refine C_eqS_f ?_ ?_); rfl) | ((with_reducible refine C_eqI_t ?_ ?_); walk_at "zd") | ((with_reducible refine C_eqI_f ?_ ?_); walk_at "zd") | ((with_reducible refine C_neI_t ?_ ?_); walk_at "zd") | ((with_reducible refine C_neI_f ?_ ?_); walk_at "zd") | ((with_reducible refine C_ltI_t ?_ ?_); walk_at "zd") | ((with_reducible refine C_ltI_f ?_ ?_); walk_at "zd") | ((with_reducible refine C_gtI_t ?_ ?_); walk_at "zd") | ((with_reducible refine C_gtI_f ?_ ?_); walk_at "zd") | (with_reducible first | refine X_cons ?_ | refine X_nil ?_ | refine S_return ?_ | refine S_ifc ?_) | ((with_reducible refine S_assign ?_ ?_); walk_at "zr") | (with_reducible first | refine S_pass ?_ | refine E_str ?_ | refine E_int ?_ | refine E_bytes ?_ | refine E_none ?_ | refine E_bool ?_) | ((with_reducible refine E_attr ?_ ?_); walk_at "zr") | (with_reducible refine E_binop ?_) | ((with_reducible refine E_cmp ?_ ?_); rotate_left; (with_unfolding_all rfl)) | ((with_reducible refine T_cmp ?_ ?_); rotate_left; (with_unfolding_all rfl)) | (with_reducible first | refine T_not ?_ | refine T_orc ?_ | refine T_andc ?_ | refine E_orc ?_ | refine E_andc ?_ | refine E_not ?_ | refine E_ifc ?_) | ((with_reducible refine T_plain ?_ ?_); walk_at "zr") | (with_reducible first | refine C_eqS ?_ | refine C_eqI ?_ | refine C_neI ?_ | refine C_ltI ?_ | refine C_gtI ?_ | refine O_addI ?_) | (with_reducible refine A_cons ?_ ?_); walk_at "zr" | (with_reducible refine A_nil ?_) | ((with_reducible refine A_local ?_ ?_); rfl) | ((with_reducible refine A_cell ?_ ?_); rfl) | (with_reducible first | refine Tb_mk ?_ | refine If_t ?_ | refine If_f ?_ | refine Or_t ?_ | refine Or_f ?_ | refine An_t ?_ | refine An_f ?_ | refine Exists.intro _ (And.intro (Eq.refl (V.bool _)) ?_) | refine And.intro (fun _ => ?_) (fun h => Bool.noConfusion h) | refine And.intro (fun h => Bool.noConfusion h) (fun _ => ?_)) | ((with_reducible refine Ge_Thg (by assumption) (u := ?_) (by assumption) ?_ ?_ ?_ ?_); rotate_left; rfl; rfl; walk_at "za") | ((with_reducible refine Ge_Spn (by assumption) (u := ?_) (by assumption) ?_ ?_ ?_ ?_); rotate_left; rfl; rfl; walk_at "za") | ((with_reducible refine Ge_Rwi (by assumption) (u := ?_) (by assumption) ?_ ?_ ?_ ?_); rotate_left; rfl; rfl; walk_at "za") | (with_reducible first | refine E_slice ?_ | refine E_sliceTo ?_ | refine E_subc ?_) | ((with_reducible refine S_exprN ?_ ?_ ?_); rfl; (intro _ _; rfl)) | (with_reducible first | refine I_row (by assumption) (by assumption) ?_ | refine B_max ?_ | refine B_min ?_ | refine CallW.of (f := Value.ref _) ?_ | refine T_or3 ?_ | refine E_or3 ?_) | ((with_reducible refine S_setA ?_ ?_); (intro _; rfl)) | (with_reducible refine C_isNotNone_f ?_) | ((with_reducible refine C_isNotNone_t ?_ ?_ ?_); rfl; rfl) | ((with_reducible refine E_lenL (by assumption) ?_ ?_); assumption) | ((with_reducible refine Ee_own (by assumption) (f := ?_) ?_ ?_ ?_ ?_ ?_); rotate_left; rfl; rfl; rfl; rfl) | ((with_reducible refine Ee_blt (by assumption) (f := ?_) ?_ ?_ ?_ ?_ ?_ ?_); rotate_left; rfl; rfl; rfl; rfl; rfl) | ((with_reducible refine E_val (by assumption) ?_ ?_ ?_); rfl; rfl; refine Exists.intro _ (And.intro rfl (And.intro (by constructor) ?_))))
local macro_rules | `(tactic| walk_at "zs") => `(tactic| first | (with_reducible refine X_nilF (by assumption) ?_) | ((with_reducible refine G_setF (by assumption) (by assumption) ?_ ?_ ?_ ?_); rfl; rfl; decide))
section
theorem b69_3 (R : Rt w H0) {v0 v1 v2 : V} : Bind H0 d69 [v0, v1, v2] [("self", v0), ("kind", v1), ("value", v2), ("is_exec", .bool false), ("access", .int 3)] := by
  intro s xs hx root
  refine VRs.consE hx fun _ _ h0 hx => ?_; refine VRs.consE hx fun _ _ h1 hx => ?_; refine VRs.consE hx fun _ _ h2 hx => ?_; refine VRs.nilE hx ?_; exact ⟨_, .cons h0 (.cons h1 (.cons h2 (.cons (.bool _) (.cons (.int _ _) (.nil))))), BindsTo.of_defaults rfl (root _ _ (R.K _ _ rfl)) rfl rfl rfl⟩
theorem b69_4 (R : Rt w H0) {v0 v1 v2 v3 : V} : Bind H0 d69 [v0, v1, v2, v3] [("self", v0), ("kind", v1), ("value", v2), ("is_exec", v3), ("access", .int 3)] := by
  intro s xs hx root
  refine VRs.consE hx fun _ _ h0 hx => ?_; refine VRs.consE hx fun _ _ h1 hx => ?_; refine VRs.consE hx fun _ _ h2 hx => ?_; refine VRs.consE hx fun _ _ h3 hx => ?_; refine VRs.nilE hx ?_; exact ⟨_, .cons h0 (.cons h1 (.cons h2 (.cons h3 (.cons (.int _ _) (.nil))))), BindsTo.of_defaults rfl (root _ _ (R.K _ _ rfl)) rfl rfl rfl⟩
theorem b69_5 (R : Rt w H0) {v0 v1 v2 v3 v4 : V} : Bind H0 d69 [v0, v1, v2, v3, v4] [("self", v0), ("kind", v1), ("value", v2), ("is_exec", v3), ("access", v4)] := by
  intro s xs hx root
  refine VRs.consE hx fun _ _ h0 hx => ?_; refine VRs.consE hx fun _ _ h1 hx => ?_; refine VRs.consE hx fun _ _ h2 hx => ?_; refine VRs.consE hx fun _ _ h3 hx => ?_; refine VRs.consE hx fun _ _ h4 hx => ?_; refine VRs.nilE hx ?_; exact ⟨_, .cons h0 (.cons h1 (.cons h2 (.cons h3 (.cons h4 .nil)))), BindsTo.of_defaults rfl (root _ _ (R.K _ _ rfl)) rfl rfl rfl⟩
theorem b132_4 (R : Rt w H0) {v0 v1 v2 v3 : V} : Bind H0 d132 [v0, v1, v2, v3] [("self", v0), ("body", v1), ("start", v2), ("many", v3)] := by
  intro s xs hx root
  refine VRs.consE hx fun _ _ h0 hx => ?_; refine VRs.consE hx fun _ _ h1 hx => ?_; refine VRs.consE hx fun _ _ h2 hx => ?_; refine VRs.consE hx fun _ _ h3 hx => ?_; refine VRs.nilE hx ?_; exact ⟨_, .cons h0 (.cons h1 (.cons h2 (.cons h3 .nil))), BindsTo.of_eq rfl⟩
theorem b146_1 (R : Rt w H0) {v0 : V} : Bind H0 d146 [v0] [("number", v0)] := by
  intro s xs hx root
  refine VRs.consE hx fun _ _ h0 hx => ?_; refine VRs.nilE hx ?_; exact ⟨_, .cons h0 .nil, BindsTo.of_eq rfl⟩
theorem b154_1 (R : Rt w H0) {v0 : V} : Bind H0 d154 [v0] [("octets", v0), ("is_exec", .bool false)] := by
  intro s xs hx root
  refine VRs.consE hx fun _ _ h0 hx => ?_; refine VRs.nilE hx ?_; exact ⟨_, .cons h0 (.cons (.bool _) (.nil)), BindsTo.of_defaults rfl (root _ _ (R.K _ _ rfl)) rfl rfl rfl⟩
theorem b154_2 (R : Rt w H0) {v0 v1 : V} : Bind H0 d154 [v0, v1] [("octets", v0), ("is_exec", v1)] := by
  intro s xs hx root
  refine VRs.consE hx fun _ _ h0 hx => ?_; refine VRs.consE hx fun _ _ h1 hx => ?_; refine VRs.nilE hx ?_; exact ⟨_, .cons h0 (.cons h1 .nil), BindsTo.of_defaults rfl (root _ _ (R.K _ _ rfl)) rfl rfl rfl⟩
theorem b161_1 (R : Rt w H0) {v0 : V} : Bind H0 d161 [v0] [("octets", v0)] := by
  intro s xs hx root
  refine VRs.consE hx fun _ _ h0 hx => ?_; refine VRs.nilE hx ?_; exact ⟨_, .cons h0 .nil, BindsTo.of_eq rfl⟩
theorem b168_0 (R : Rt w H0) : Bind H0 d168 [] [] := by
  intro s xs hx root
  refine VRs.nilE hx ?_; exact ⟨_, .nil, BindsTo.of_eq rfl⟩
theorem b176_1 (R : Rt w H0) {v0 : V} : Bind H0 d176 [v0] [("row", v0), ("is_exec", .bool false), ("access", .int 3)] := by
  intro s xs hx root
  refine VRs.consE hx fun _ _ h0 hx => ?_; refine VRs.nilE hx ?_; exact ⟨_, .cons h0 (.cons (.bool _) (.cons (.int _ _) (.nil))), BindsTo.of_defaults rfl (root _ _ (R.K _ _ rfl)) rfl rfl rfl⟩
theorem b176_2 (R : Rt w H0) {v0 v1 : V} : Bind H0 d176 [v0, v1] [("row", v0), ("is_exec", v1), ("access", .int 3)] := by
  intro s xs hx root
  refine VRs.consE hx fun _ _ h0 hx => ?_; refine VRs.consE hx fun _ _ h1 hx => ?_; refine VRs.nilE hx ?_; exact ⟨_, .cons h0 (.cons h1 (.cons (.int _ _) (.nil))), BindsTo.of_defaults rfl (root _ _ (R.K _ _ rfl)) rfl rfl rfl⟩
theorem b176_3 (R : Rt w H0) {v0 v1 v2 : V} : Bind H0 d176 [v0, v1, v2] [("row", v0), ("is_exec", v1), ("access", v2)] := by
  intro s xs hx root
  refine VRs.consE hx fun _ _ h0 hx => ?_; refine VRs.consE hx fun _ _ h1 hx => ?_; refine VRs.consE hx fun _ _ h2 hx => ?_; refine VRs.nilE hx ?_; exact ⟨_, .cons h0 (.cons h1 (.cons h2 .nil)), BindsTo.of_defaults rfl (root _ _ (R.K _ _ rfl)) rfl rfl rfl⟩
theorem b184_2 (R : Rt w H0) {v0 v1 : V} : Bind H0 d184 [v0, v1] [("row", v0), ("is_exec", v1)] := by
  intro s xs hx root
  refine VRs.consE hx fun _ _ h0 hx => ?_; refine VRs.consE hx fun _ _ h1 hx => ?_; refine VRs.nilE hx ?_; exact ⟨_, .cons h0 (.cons h1 .nil), BindsTo.of_defaults rfl (root _ _ (R.K _ _ rfl)) rfl rfl rfl⟩
theorem b191_1 (R : Rt w H0) {v0 : V} : Bind H0 d191 [v0] [("thing", v0)] := by
  intro s xs hx root
  refine VRs.consE hx fun _ _ h0 hx => ?_; refine VRs.nilE hx ?_; exact ⟨_, .cons h0 .nil, BindsTo.of_eq rfl⟩
theorem b205_1 (R : Rt w H0) {v0 : V} : Bind H0 d205 [v0] [("thing", v0)] := by
  intro s xs hx root
  refine VRs.consE hx fun _ _ h0 hx => ?_; refine VRs.nilE hx ?_; exact ⟨_, .cons h0 .nil, BindsTo.of_eq rfl⟩
theorem b212_1 (R : Rt w H0) {v0 : V} : Bind H0 d212 [v0] [("thing", v0)] := by
  intro s xs hx root
  refine VRs.consE hx fun _ _ h0 hx => ?_; refine VRs.nilE hx ?_; exact ⟨_, .cons h0 .nil, BindsTo.of_eq rfl⟩
theorem b219_1 (R : Rt w H0) {v0 : V} : Bind H0 d219 [v0] [("thing", v0)] := by
  intro s xs hx root
  refine VRs.consE hx fun _ _ h0 hx => ?_; refine VRs.nilE hx ?_; exact ⟨_, .cons h0 .nil, BindsTo.of_eq rfl⟩
theorem b247_1 (R : Rt w H0) {v0 : V} : Bind H0 d247 [v0] [("thing", v0)] := by
  intro s xs hx root
  refine VRs.consE hx fun _ _ h0 hx => ?_; refine VRs.nilE hx ?_; exact ⟨_, .cons h0 .nil, BindsTo.of_eq rfl⟩
theorem b254_2 (R : Rt w H0) {v0 v1 : V} : Bind H0 d254 [v0, v1] [("thing", v0), ("access", v1)] := by
  intro s xs hx root
  refine VRs.consE hx fun _ _ h0 hx => ?_; refine VRs.consE hx fun _ _ h1 hx => ?_; refine VRs.nilE hx ?_; exact ⟨_, .cons h0 (.cons h1 .nil), BindsTo.of_eq rfl⟩
theorem b261_3 (R : Rt w H0) {v0 v1 v2 : V} : Bind H0 d261 [v0, v1, v2] [("span", v0), ("start", v1), ("many", v2)] := by
  intro s xs hx root
  refine VRs.consE hx fun _ _ h0 hx => ?_; refine VRs.consE hx fun _ _ h1 hx => ?_; refine VRs.consE hx fun _ _ h2 hx => ?_; refine VRs.nilE hx ?_; exact ⟨_, .cons h0 (.cons h1 (.cons h2 .nil)), BindsTo.of_eq rfl⟩
theorem b268_1 (R : Rt w H0) {v0 : V} : Bind H0 d268 [v0] [("span", v0)] := by
  intro s xs hx root
  refine VRs.consE hx fun _ _ h0 hx => ?_; refine VRs.nilE hx ?_; exact ⟨_, .cons h0 .nil, BindsTo.of_eq rfl⟩
theorem b275_2 (R : Rt w H0) {v0 v1 : V} : Bind H0 d275 [v0, v1] [("span", v0), ("at", v1)] := by
  intro s xs hx root
  refine VRs.consE hx fun _ _ h0 hx => ?_; refine VRs.consE hx fun _ _ h1 hx => ?_; refine VRs.nilE hx ?_; exact ⟨_, .cons h0 (.cons h1 .nil), BindsTo.of_eq rfl⟩
theorem b289_1 (R : Rt w H0) {v0 : V} : Bind H0 d289 [v0] [("span", v0)] := by
  intro s xs hx root
  refine VRs.consE hx fun _ _ h0 hx => ?_; refine VRs.nilE hx ?_; exact ⟨_, .cons h0 .nil, BindsTo.of_eq rfl⟩
theorem b303_1 (R : Rt w H0) {v0 : V} : Bind H0 d303 [v0] [("thing", v0)] := by
  intro s xs hx root
  refine VRs.consE hx fun _ _ h0 hx => ?_; refine VRs.nilE hx ?_; exact ⟨_, .cons h0 .nil, BindsTo.of_eq rfl⟩
theorem b344_2 (R : Rt w H0) {v0 v1 : V} : Bind H0 d344 [v0, v1] [("proc", v0), ("copy", v1)] := by
  intro s xs hx root
  refine VRs.consE hx fun _ _ h0 hx => ?_; refine VRs.consE hx fun _ _ h1 hx => ?_; refine VRs.nilE hx ?_; exact ⟨_, .cons h0 (.cons h1 .nil), BindsTo.of_eq rfl⟩
theorem b337_2 (R : Rt w H0) {v0 v1 : V} : Bind H0 d337 [v0, v1] [("memory", v0), ("proc", v1)] := by
  intro s xs hx root
  refine VRs.consE hx fun _ _ h0 hx => ?_; refine VRs.consE hx fun _ _ h1 hx => ?_; refine VRs.nilE hx ?_; exact ⟨_, .cons h0 (.cons h1 .nil), BindsTo.of_eq rfl⟩
variable {n : Nat} {φ : Ph} {σ : Sg} {Q : V → Ph → Sg → Prop}
theorem thg_init : ∀ {n : Nat} {φ : Ph} {σ : Sg} {Q : V → Ph → Sg → Prop} {x d : Addr} {k : Str} {v : V} {e : Bool} {a : Int} (R : Rt w H0) (hx : φ x = none) (sd : σ d = none) (q : ∀ φ', Le φ φ' → Thg φ' x k v e a → Q (.ref x) φ' σ),
    XW w H0 d69.scope n (bodyOf (stM 8 0)) (ofL [("self", .ref x), ("kind", .str k), ("value", v), ("is_exec", .bool e), ("access", .int a)] noLo) (updP φ x (instObj 72 d)) (upd σ d (.ns noLo 0)) fun fl _ φ' σ' => FlV fl = .none ∧ Q (.ref x) φ' σ' := by
  apply @Mine.hk6; generalize ca1 (cx _) = n, ca2 (cx _) = φ, ca3 (cx _) = σ, ca4 (cx _) = Q, ca5 (cx _) = x, cz6 (cx _) = d
  apply @Mine.hk4; generalize ca1 (cx _) = k, ca2 (cx _) = v, ca3 (cx _) = e, cz4 (cx _) = a
  intro R hx sd q
  have hxx : updP φ x (instObj 72 d) x = some (instObj 72 d) := updP_same _ _ _
  refine X_cons ?_
  repeat (first | walk_at "zs" | walk_at "zw")
  intro φ' l hn
  exact ⟨rfl, q _ ((Le.upd hx).trans l) ⟨d, l _ _ hxx, hn⟩⟩
theorem spn_init : ∀ {n : Nat} {φ : Ph} {σ : Sg} {Q : V → Ph → Sg → Prop} {x d : Addr} {b : Addr} {s m : Int} (R : Rt w H0) (hx : φ x = none) (sd : σ d = none) (q : ∀ φ', Le φ φ' → Spn φ' x b s m → Q (.ref x) φ' σ),
    XW w H0 d132.scope n (bodyOf (stM 11 0)) (ofL [("self", .ref x), ("body", .ref b), ("start", .int s), ("many", .int m)] noLo) (updP φ x (instObj 135 d)) (upd σ d (.ns noLo 0)) fun fl _ φ' σ' => FlV fl = .none ∧ Q (.ref x) φ' σ' := by
  apply @Mine.hk6; generalize ca1 (cx _) = n, ca2 (cx _) = φ, ca3 (cx _) = σ, ca4 (cx _) = Q, ca5 (cx _) = x, cz6 (cx _) = d
  apply @Mine.hk3; generalize ca1 (cx _) = b, ca2 (cx _) = s, cz3 (cx _) = m
  intro R hx sd q
  have hxx : updP φ x (instObj 135 d) x = some (instObj 135 d) := updP_same _ _ _
  refine X_cons ?_
  repeat (first | walk_at "zs" | walk_at "zw")
  intro φ' l hn
  exact ⟨rfl, q _ ((Le.upd hx).trans l) ⟨d, l _ _ hxx, hn⟩⟩
theorem mk72 (P : Params) : makesIn (KK P) 72 = true := by kernel_rfl
theorem mk135 (P : Params) : makesIn (KK P) 135 = true := by kernel_rfl
theorem fi72 (P : Params) : findIn (KK P) (.ref 72) "__init__" = some (some (.ref 69)) := by kernel_rfl
theorem fi135 (P : Params) : findIn (KK P) (.ref 135) "__init__" = some (some (.ref 132)) := by kernel_rfl
theorem ty69 (P : Params) : typeIn (KK P) (.ref 69) = some (.type "function") := by kernel_rfl
theorem ty132 (P : Params) : typeIn (KK P) (.ref 132) = some (.type "function") := by kernel_rfl
theorem cw72_2 (R : Rt w H0) {k : Str} {v : V} (q : ∀ x φ', Le φ φ' → Thg φ' x k v false 3 → Q (.ref x) φ' σ) : CW w H0 (n+2) (.ref 72) [.str k, v] φ σ Q :=
  make_w R (k69 R) (fun _ => b69_3 R) (fun _ => bk_of rfl) (mk72 _) (fi72 _) (ty69 _) fun x d h1 h2 h3 h4 h5 => thg_init R h1 h4 (q x)
theorem cw72_3 (R : Rt w H0) {k : Str} {v : V} {e : Bool} (q : ∀ x φ', Le φ φ' → Thg φ' x k v e 3 → Q (.ref x) φ' σ) : CW w H0 (n+2) (.ref 72) [.str k, v, .bool e] φ σ Q :=
  make_w R (k69 R) (fun _ => b69_4 R) (fun _ => bk_of rfl) (mk72 _) (fi72 _) (ty69 _) fun x d h1 h2 h3 h4 h5 => thg_init R h1 h4 (q x)
theorem cw72_4 (R : Rt w H0) {k : Str} {v : V} {e : Bool} {a : Int} (q : ∀ x φ', Le φ φ' → Thg φ' x k v e a → Q (.ref x) φ' σ) : CW w H0 (n+2) (.ref 72) [.str k, v, .bool e, .int a] φ σ Q :=
  make_w R (k69 R) (fun _ => b69_5 R) (fun _ => bk_of rfl) (mk72 _) (fi72 _) (ty69 _) fun x d h1 h2 h3 h4 h5 => thg_init R h1 h4 (q x)
theorem cw135 (R : Rt w H0) {b : Addr} {s m : Int} (q : ∀ x φ', Le φ φ' → Spn φ' x b s m → Q (.ref x) φ' σ) : CW w H0 (n+2) (.ref 135) [.ref b, .int s, .int m] φ σ Q :=
  make_w R (k132 R) (fun _ => b132_4 R) (fun _ => bk_of rfl) (mk135 _) (fi135 _) (ty132 _) fun x d h1 h2 h3 h4 h5 => spn_init R h1 h4 (q x)
theorem cw146 (R : Rt w H0) {v : V} (q : ∀ x φ', Le φ φ' → Thg φ' x "integer" v false 3 → Q (.ref x) φ' σ) : CW w H0 (n+3) (.ref 146) [v] φ σ Q := by
  refine CW.code R (k146 R) (b146_1 R) (bk_of rfl) (X_cons ?_)
  repeat walk_at "zw"
  exact cw72_2 R q
theorem cw154_1 (R : Rt w H0) {v : V} (q : ∀ x φ', Le φ φ' → Thg φ' x "name" v false 3 → Q (.ref x) φ' σ) : CW w H0 (n+3) (.ref 154) [v] φ σ Q := by
  refine CW.code R (k154 R) (b154_1 R) (bk_of rfl) (X_cons ?_)
  repeat walk_at "zw"
  exact cw72_3 R q
theorem cw154_2 : ∀ {n : Nat} {φ : Ph} {σ : Sg} {Q : V → Ph → Sg → Prop} {v : V} {e : Bool} (R : Rt w H0) (q : ∀ x φ', Le φ φ' → Thg φ' x "name" v e 3 → Q (.ref x) φ' σ), CW w H0 (n+3) (.ref 154) [v, .bool e] φ σ Q := by
  apply @Mine.hk6; generalize ca1 (cx _) = n, ca2 (cx _) = φ, ca3 (cx _) = σ, ca4 (cx _) = Q, ca5 (cx _) = v, cz6 (cx _) = e
  intro R q
  refine CW.code R (k154 R) (b154_2 R) (bk_of rfl) (X_cons ?_)
  repeat walk_at "zw"
  exact cw72_3 R q
theorem cw161 (R : Rt w H0) {v : V} (q : ∀ x φ', Le φ φ' → Thg φ' x "operator" v true 3 → Q (.ref x) φ' σ) : CW w H0 (n+3) (.ref 161) [v] φ σ Q := by
  refine CW.code R (k161 R) (b161_1 R) (bk_of rfl) (X_cons ?_)
  repeat walk_at "zw"
  exact cw72_3 R q
theorem cw168 (R : Rt w H0) (q : ∀ x φ', Le φ φ' → Thg φ' x "null" .none false 3 → Q (.ref x) φ' σ) : CW w H0 (n+3) (.ref 168) [] φ σ Q := by
  refine CW.code R (k168 R) (b168_0 R) (bk_of rfl) (X_cons ?_)
  repeat walk_at "zw"
  exact cw72_2 R q
inductive Prc (φ : Ph) (x : Addr) (k : Str) (b : Addr) (m : Nat) (e : Bool) (a : Int) : Prop
  | mk (s : Addr) (h1 : Thg φ x k (.ref s) e a) (h2 : Spn φ s b 0 m) : Prc φ x k b m e a
theorem Prc.le {φ φ' : Ph} (l : Le φ φ') {x : Addr} {k : Str} {b : Addr} {m : Nat} {e : Bool} {a : Int} (h : Prc φ x k b m e a) : Prc φ' x k b m e a := by obtain ⟨s, h1, h2⟩ := h; exact ⟨s, h1.le l, h2.le l⟩
theorem Lst.le {φ φ' : Ph} (l : Le φ φ') {a : Addr} {vs : List V} (h : Lst φ σ a vs) : Lst φ' σ a vs := h.imp id (LstP.le l)
theorem of_row_body : ∀ {n : Nat} {φ : Ph} {σ : Sg} {Q : V → Ph → Sg → Prop} {x l : Addr} {num : Int} {e : Bool} {a : Int} {vs : List V} (R : Rt w H0) (h : Rwi φ x num l) (hl : Lst φ σ l vs) (hz : vs.length ≤ 1000) (q : ∀ x' φ', Le φ φ' → Prc φ' x' "array" x vs.length e a → Q (.ref x') φ' σ),
    XW w H0 d176.scope (n+2) (bodyOf (stT 16)) (ofL [("row", .ref x), ("is_exec", .bool e), ("access", .int a)] noLo) φ σ fun fl _ φ σ => Q (FlV fl) φ σ := by
  apply @Mine.hk6; generalize ca1 (cx _) = n, ca2 (cx _) = φ, ca3 (cx _) = σ, ca4 (cx _) = Q, ca5 (cx _) = x, cz6 (cx _) = l
  apply @Mine.hk4; generalize ca1 (cx _) = num, ca2 (cx _) = e, ca3 (cx _) = a, cz4 (cx _) = vs
  intro R h hl hz q
  refine X_cons ?_
  repeat walk_at "zw"
  refine cw135 R fun s φ1 l1 h1 => ?_
  repeat walk_at "zw"
  exact cw72_4 R fun y φ2 l2 h2 => q _ _ (l1.trans l2) ⟨s, h2, h1.le l2⟩
theorem cw176_1 (R : Rt w H0) {x l : Addr} {num : Int} {vs : List V} (h : Rwi φ x num l) (hl : Lst φ σ l vs) (hz : vs.length ≤ 1000) (q : ∀ x' φ', Le φ φ' → Prc φ' x' "array" x vs.length false 3 → Q (.ref x') φ' σ) : CW w H0 (n+3) (.ref 176) [.ref x] φ σ Q :=
  CW.code R (k176 R) (b176_1 R) (bk_of rfl) (of_row_body R h hl hz q)
theorem cw176_2 (R : Rt w H0) {x l : Addr} {num : Int} {e : Bool} {vs : List V} (h : Rwi φ x num l) (hl : Lst φ σ l vs) (hz : vs.length ≤ 1000) (q : ∀ x' φ', Le φ φ' → Prc φ' x' "array" x vs.length e 3 → Q (.ref x') φ' σ) : CW w H0 (n+3) (.ref 176) [.ref x, .bool e] φ σ Q :=
  CW.code R (k176 R) (b176_2 R) (bk_of rfl) (of_row_body R h hl hz q)
theorem cw176_3 (R : Rt w H0) {x l : Addr} {num : Int} {e : Bool} {a : Int} {vs : List V} (h : Rwi φ x num l) (hl : Lst φ σ l vs) (hz : vs.length ≤ 1000) (q : ∀ x' φ', Le φ φ' → Prc φ' x' "array" x vs.length e a → Q (.ref x') φ' σ) : CW w H0 (n+3) (.ref 176) [.ref x, .bool e, .int a] φ σ Q :=
  CW.code R (k176 R) (b176_3 R) (bk_of rfl) (of_row_body R h hl hz q)
theorem cw184 : ∀ {n : Nat} {φ : Ph} {σ : Sg} {Q : V → Ph → Sg → Prop} {x l : Addr} {num : Int} {e : Bool} {vs : List V} (R : Rt w H0) (h : Rwi φ x num l) (hl : Lst φ σ l vs) (hz : vs.length ≤ 1000) (q : ∀ x' φ', Le φ φ' → Prc φ' x' "packed" x vs.length e 2 → Q (.ref x') φ' σ), CW w H0 (n+3) (.ref 184) [.ref x, .bool e] φ σ Q := by
  apply @Mine.hk6; generalize ca1 (cx _) = n, ca2 (cx _) = φ, ca3 (cx _) = σ, ca4 (cx _) = Q, ca5 (cx _) = x, cz6 (cx _) = l
  apply @Mine.hk3; generalize ca1 (cx _) = num, ca2 (cx _) = e, cz3 (cx _) = vs
  intro R h hl hz q
  refine CW.code R (k184 R) (b184_2 R) (bk_of rfl) (X_cons ?_)
  repeat walk_at "zw"
  refine cw135 R fun s φ1 l1 h1 => ?_
  repeat walk_at "zw"
  exact cw72_4 R fun y φ2 l2 h2 => q _ _ (l1.trans l2) ⟨s, h2, h1.le l2⟩
end
section
variable {n : Nat} {φ : Ph} {σ : Sg} {Q : V → Ph → Sg → Prop}
noncomputable def isArr (k : Str) : Prop := k = "array" ∨ k = "packed"
noncomputable def isNum (k : Str) : Prop := k = "integer" ∨ k = "real"
theorem cw205 : ∀ {n : Nat} {φ : Ph} {σ : Sg} {Q : V → Ph → Sg → Prop} {x : Addr} {k v e a} (R : Rt w H0) (h : Thg φ x k v e a) (q : Q (.bool (k == "array" || k == "packed")) φ σ), CW w H0 (n+1) (.ref 205) [.ref x] φ σ Q := by
  apply @Mine.hk6; generalize ca1 (cx _) = n, ca2 (cx _) = φ, ca3 (cx _) = σ, ca4 (cx _) = Q, ca5 (cx _) = x, cz6 (cx _) = k
  apply @Mine.hk3; generalize ca1 (cx _) = v, ca2 (cx _) = e, cz3 (cx _) = a
  intro R h q
  refine CW.code R (k205 R) (b205_1 R) (bk_of rfl) (X_cons ?_)
  repeat walk_at "zw"
  constructor <;> intro hc
  · exact (by simpa [hc] using q : Q (.bool true) φ σ)
  · repeat walk_at "zw"
    exact (by simpa [hc] using q : Q (.bool (k == "packed")) φ σ)
theorem cw205_t (R : Rt w H0) {x : Addr} {k v e a} (hk : isArr k) (h : Thg φ x k v e a) (q : Q (.bool true) φ σ) : CW w H0 (n+1) (.ref 205) [.ref x] φ σ Q :=
  cw205 R h (by rcases hk with rfl | rfl <;> exact q)
theorem cw191_f : ∀ {n : Nat} {φ : Ph} {σ : Sg} {Q : V → Ph → Sg → Prop} {x : Addr} {k v e a} (R : Rt w H0) (hk : isArr k) (h : Thg φ x k v e a) (q : Q (.bool false) φ σ), CW w H0 (n+1) (.ref 191) [.ref x] φ σ Q := by
  apply @Mine.hk6; generalize ca1 (cx _) = n, ca2 (cx _) = φ, ca3 (cx _) = σ, ca4 (cx _) = Q, ca5 (cx _) = x, cz6 (cx _) = k
  apply @Mine.hk3; generalize ca1 (cx _) = v, ca2 (cx _) = e, cz3 (cx _) = a
  intro R hk h q
  refine CW.code R (k191 R) (b191_1 R) (bk_of rfl) (X_cons ?_)
  rcases hk with rfl | rfl
  all_goals
    repeat walk_at "zw"
    exact q
theorem cw212 (R : Rt w H0) {x : Addr} {k v e a} (h : Thg φ x k v e a) (q : Q (.bool (e && (k == "array" || k == "packed"))) φ σ) : CW w H0 (n+2) (.ref 212) [.ref x] φ σ Q := by
  refine CW.code R (k212 R) (b212_1 R) (bk_of rfl) (X_cons ?_)
  repeat walk_at "zw"
  constructor <;> intro hc
  · repeat walk_at "zw"
    exact cw205 R h (show Q (.bool (k == "array" || k == "packed")) φ σ by simpa [hc] using q)
  · exact (by simpa [hc] using q : Q (.bool false) φ σ)
theorem cw219 : ∀ {n : Nat} {φ : Ph} {σ : Sg} {Q : V → Ph → Sg → Prop} {x b : Addr} {k m e a} (R : Rt w H0) (hk : isArr k) (h : Prc φ x k b m e a) (q : Q (.ref b) φ σ), CW w H0 (n+2) (.ref 219) [.ref x] φ σ Q := by
  apply @Mine.hk6; generalize ca1 (cx _) = n, ca2 (cx _) = φ, ca3 (cx _) = σ, ca4 (cx _) = Q, ca5 (cx _) = x, cz6 (cx _) = b
  apply @Mine.hk4; generalize ca1 (cx _) = k, ca2 (cx _) = m, ca3 (cx _) = e, cz4 (cx _) = a
  intro R hk h q
  obtain ⟨s, h1, h2⟩ := h
  refine CW.code R (k219 R) (b219_1 R) (bk_of rfl) (X_cons ?_)
  have hk' := hk
  rcases hk with rfl | rfl
  all_goals
    repeat walk_at "zw"
    refine cw205_t R hk' h1 ?_
    repeat walk_at "zw"
    exact q
theorem cw247 (R : Rt w H0) {x b : Addr} {k m e a} (hk : isArr k) (h : Prc φ x k b m e a) (q : Q (.bool true) φ σ) : CW w H0 (n+3) (.ref 247) [.ref x] φ σ Q := by
  refine CW.code R (k247 R) (b247_1 R) (bk_of rfl) (X_cons ?_)
  repeat walk_at "zw"
  refine cw219 R hk h ?_
  repeat walk_at "zw"
  exact q
theorem cw254 : ∀ {n : Nat} {φ : Ph} {σ : Sg} {Q : V → Ph → Sg → Prop} {x b : Addr} {k m e a} {c : Int} (R : Rt w H0) (hk : isArr k) (h : Prc φ x k b m e a) (hc : c ≤ a) (q : ∀ x' φ', Le φ φ' → Prc φ' x' k b m e c → Q (.ref x') φ' σ), CW w H0 (n+4) (.ref 254) [.ref x, .int c] φ σ Q := by
  apply @Mine.hk6; generalize ca1 (cx _) = n, ca2 (cx _) = φ, ca3 (cx _) = σ, ca4 (cx _) = Q, ca5 (cx _) = x, cz6 (cx _) = b
  apply @Mine.hk5; generalize ca1 (cx _) = k, ca2 (cx _) = m, ca3 (cx _) = e, ca4 (cx _) = a, cz5 (cx _) = c
  intro R hk h hc q
  have h' := h
  obtain ⟨s, h1, h2⟩ := h
  refine CW.code R (k254 R) (b254_2 R) (bk_of rfl) (X_cons ?_)
  repeat walk_at "zw"
  refine cw247 R hk h' ?_
  rcases hk with rfl | rfl
  all_goals
    repeat walk_at "zw"
    refine cw72_4 R fun y φ1 l1 hy => ?_
    exact q _ _ l1 ⟨s, hy, h2.le l1⟩
theorem cw261 : ∀ {n : Nat} {φ : Ph} {σ : Sg} {Q : V → Ph → Sg → Prop} {s b : Addr} {m : Nat} {i j : Int} (R : Rt w H0) (h : Spn φ s b 0 m) (hi : 0 ≤ i) (hj : 0 ≤ j) (hm : i + j ≤ m) (q : Q .none φ σ), CW w H0 (n+1) (.ref 261) [.ref s, .int i, .int j] φ σ Q := by
  apply @Mine.hk6; generalize ca1 (cx _) = n, ca2 (cx _) = φ, ca3 (cx _) = σ, ca4 (cx _) = Q, ca5 (cx _) = s, cz6 (cx _) = b
  apply @Mine.hk3; generalize ca1 (cx _) = m, ca2 (cx _) = i, cz3 (cx _) = j
  intro R h hi hj hm q
  refine CW.code R (k261 R) (b261_3 R) (bk_of rfl) (X_cons ?_)
  repeat walk_at "zw"
  exact q
theorem cw268 (R : Rt w H0) {s b l : Addr} {m num : Int} (h : Spn φ s b 0 m) (hb : Rwi φ b num l) (q : Q (.bool false) φ σ) : CW w H0 (n+1) (.ref 268) [.ref s] φ σ Q := by
  refine CW.code R (k268 R) (b268_1 R) (bk_of rfl) (X_cons ?_)
  repeat walk_at "zw"
  refine I_row R hb ?_
  repeat walk_at "zw"
  exact q
theorem cw275 : ∀ {n : Nat} {φ : Ph} {σ : Sg} {Q : V → Ph → Sg → Prop} {s b l : Addr} {m : Nat} {num : Int} {vs : List V} {i : Nat} {v : V} (R : Rt w H0) (h : Spn φ s b 0 m) (hb : Rwi φ b num l) (hl : Lst φ σ l vs) (hm : vs.length = m) (hz : m ≤ 900) (hv : vs[i]? = some v) (q : Q v φ σ), CW w H0 (n+2) (.ref 275) [.ref s, .int i] φ σ Q := by
  apply @Mine.hk6; generalize ca1 (cx _) = n, ca2 (cx _) = φ, ca3 (cx _) = σ, ca4 (cx _) = Q, ca5 (cx _) = s, cz6 (cx _) = b
  apply @Mine.hk6; generalize ca1 (cx _) = l, ca2 (cx _) = m, ca3 (cx _) = num, ca4 (cx _) = vs, ca5 (cx _) = i, cz6 (cx _) = v
  intro R h hb hl hm hz hv q
  have hi : i < m := hm ▸ (List.getElem?_eq_some_iff.mp hv).1
  refine CW.code R (k275 R) (b275_2 R) (bk_of rfl) (X_cons ?_)
  repeat walk_at "zw"
  refine cw261 R h (by lia) (by lia) (by lia) ?_
  refine And.intro rfl ?_
  repeat walk_at "zw"
  refine cw268 R h hb ?_
  repeat walk_at "zw"
  (with_reducible refine I_listc ?_ ?_); (intro _; with_unfolding_all rfl)
  refine ⟨vs, v, hl, by lia, by lia, by simpa using hv, ?_⟩
  exact q
theorem cw289 : ∀ {n : Nat} {φ : Ph} {σ : Sg} {Q : V → Ph → Sg → Prop} {s b l : Addr} {m : Nat} {num : Int} {vs : List V} (R : Rt w H0) (h : Spn φ s b 0 m) (hb : Rwi φ b num l) (hl : Lst φ σ l vs) (hm : vs.length = m) (hz : m ≤ 900) (q : ∀ a, σ a = none → φ a = none → Q (.ref a) φ (upd σ a (.list vs))), CW w H0 (n+1) (.ref 289) [.ref s] φ σ Q := by
  apply @Mine.hk6; generalize ca1 (cx _) = n, ca2 (cx _) = φ, ca3 (cx _) = σ, ca4 (cx _) = Q, ca5 (cx _) = s, cz6 (cx _) = b
  apply @Mine.hk4; generalize ca1 (cx _) = l, ca2 (cx _) = m, ca3 (cx _) = num, cz4 (cx _) = vs
  intro R h hb hl hm hz q
  refine CW.code R (k289 R) (b289_1 R) (bk_of rfl) (X_cons ?_)
  repeat walk_at "zw"
  refine ⟨l, vs, 0, m, rfl, rfl, by simp, hl, by lia, by lia, by lia, fun a e1 e2 => ?_⟩
  have := q a e1 e2
  rw [show (List.drop 0 vs).take (m - 0) = vs by simp [← hm]]
  exact this
theorem cw303 : ∀ {n : Nat} {φ : Ph} {σ : Sg} {Q : V → Ph → Sg → Prop} {x b l : Addr} {k m e a} {num : Int} (R : Rt w H0) (hk : isArr k) (h : Prc φ x k b m e a) (hb : Rwi φ b num l) (q : ∀ t φ', Le φ φ' → Tup φ' t [.str "array", .int num, .int 0, .int m] → Q (.ref t) φ' σ), CW w H0 (n+2) (.ref 303) [.ref x] φ σ Q := by
  apply @Mine.hk6; generalize ca1 (cx _) = n, ca2 (cx _) = φ, ca3 (cx _) = σ, ca4 (cx _) = Q, ca5 (cx _) = x, cz6 (cx _) = b
  apply @Mine.hk6; generalize ca1 (cx _) = l, ca2 (cx _) = k, ca3 (cx _) = m, ca4 (cx _) = e, ca5 (cx _) = a, cz6 (cx _) = num
  intro R hk h hb q
  obtain ⟨s, h1, h2⟩ := h
  refine CW.code R (k303 R) (b303_1 R) (bk_of rfl) (X_cons ?_)
  have hk' := hk
  rcases hk with rfl | rfl
  all_goals
    repeat walk_at "zw"
    refine cw191_f R hk' h1 ?_
    repeat walk_at "zw"
    refine cw205_t R hk' h1 ?_
    repeat walk_at "zw"
    refine E_tuple ?_
    repeat walk_at "zw"
    refine And.intro (by simp) fun t φ' e1 e2 l' ht => ?_
    exact q t φ' l' ht
theorem cw344 (R : Rt w H0) {x b c l : Addr} {k k2 m m2 e e2 a a2} {num : Int} {vs : List V} (hk : isArr k) (h : Prc φ x k b m e a) (hc : Prc φ c k2 b2 m2 e2 a2) (hb : Rwi φ b2 num l) (hl : Lst φ σ l vs) (hz : vs.length ≤ 900)
    (ha : k = "packed" → a ≤ 2) (ha3 : a ≤ 3) (q : ∀ x' φ', Le φ φ' → Prc φ' x' k b2 vs.length true a → Q (.ref x') φ' σ) : CW w H0 (n+5) (.ref 344) [.ref x, .ref c] φ σ Q := by
  obtain ⟨s, h1, h2⟩ := h
  obtain ⟨s2, g1, g2⟩ := hc
  refine CW.code R (k344 R) (b344_2 R) (bk_of rfl) (X_cons ?_)
  rcases hk with rfl | rfl
  · repeat walk_at "zw"
    refine cw176_2 R hb hl (by lia) fun y φ1 l1 hy => ?_
    have h1 := h1.le l1
    repeat walk_at "zw"
    exact cw254 R (.inl rfl) hy ha3 fun z φ2 l2 hz => q _ _ (l1.trans l2) hz
  · repeat walk_at "zw"
    refine cw184 R hb hl (by lia) fun y φ1 l1 hy => ?_
    have h1 := h1.le l1
    repeat walk_at "zw"
    have e : (if (2 : Int) < a then (2 : Int) else a) = a := if_neg (by have := ha rfl; lia)
    rw [e]
    exact cw254 R (.inr rfl) hy (ha rfl) fun z φ2 l2 hz => q _ _ (l1.trans l2) hz
end
section
variable {n : Nat} {φ : Ph} {σ : Sg} {Q : V → Ph → Sg → Prop}
theorem W.freezeL {α β : Type} {sc : Scope} {ρ : Lo} {R : β → α → Prop} {t : Env → Sem α} {Q : β → Lo → Ph → Sg → Prop} {a : Addr} {vs : List V} (hσ : σ a = none) (h : ∀ φ', Le φ φ' → LstP φ' a vs → W w H0 sc n R t ρ φ' σ Q) : W w H0 sc n R t ρ φ (upd σ a (.list vs)) Q :=
  W.freeze (upd_same _ _ _) fun o hPt hn l => by
    obtain ⟨items, m, ho, hv⟩ := hPt
    have := h _ l ⟨items, m, by rw [← ho]; exact updP_same _ _ _, hv⟩
    rw [del_upd hσ]; exact this
theorem upd_comm {σ : Sg} {a b : Addr} {c d : C} (h : a ≠ b) : upd (upd σ a c) b d = upd (upd σ b d) a c := by
  funext x; unfold upd
  by_cases h1 : x = a
  · subst h1; rw [if_neg h, if_pos rfl, if_pos rfl]
  · rw [if_neg h1]
    by_cases h2 : x = b
    · simp [h2, Ne.symm h]
    · simp [h2, h1]
theorem ne_of_none {σ : Sg} {a b : Addr} {c : C} (h1 : σ a = none) (h2 : σ b = some c) : a ≠ b := fun q => by subst q; rw [h1] at h2; cases h2
theorem b359_1 (R : Rt w H0) {v0 : V} : Bind H0 d359 [v0] [("self", v0), ("operands", .int 500), ("dicts", .int 20), ("frames", .int 250), ("saves", .int 15), ("gstates", .int 31), ("text", .int 65535), ("row", .int 65535), ("entries", .int 65535), ("word", .int 127), ("path", .int 1500), ("dash", .int 11), ("files", .int 15), ("system", .int 600), ("vm", .int 16777216)] := by
  intro s xs hx root
  refine VRs.consE hx fun _ _ h0 hx => ?_; refine VRs.nilE hx ?_; exact ⟨_, .cons h0 (.cons (.int 500 645) (.cons (.int 20 646) (.cons (.int 250 647) (.cons (.int 15 648) (.cons (.int 31 649) (.cons (.int 65535 650) (.cons (.int 65535 651) (.cons (.int 65535 652) (.cons (.int 127 653) (.cons (.int 1500 654) (.cons (.int 11 655) (.cons (.int 15 656) (.cons (.int 600 657) (.cons (.int 16777216 631) (.nil))))))))))))))), BindsTo.of_defaults rfl (root _ _ (R.K _ _ rfl)) rfl rfl (by kernel_rfl)⟩
theorem b401_2 (R : Rt w H0) {v0 v1 : V} : Bind H0 d401 [v0, v1] [("self", v0), ("limits", v1)] := by
  intro s xs hx root
  refine VRs.consE hx fun _ _ h0 hx => ?_; refine VRs.consE hx fun _ _ h1 hx => ?_; refine VRs.nilE hx ?_; exact ⟨_, .cons h0 (.cons h1 .nil), BindsTo.of_eq rfl⟩
theorem b408_1 (R : Rt w H0) {v0 : V} : Bind H0 d408 [v0] [("self", v0)] := by
  intro s xs hx root
  refine VRs.consE hx fun _ _ h0 hx => ?_; refine VRs.nilE hx ?_; exact ⟨_, .cons h0 .nil, BindsTo.of_eq rfl⟩
theorem b416_1 (R : Rt w H0) {v0 : V} : Bind H0 d416 [v0] [("self", v0)] := by
  intro s xs hx root
  refine VRs.consE hx fun _ _ h0 hx => ?_; refine VRs.nilE hx ?_; exact ⟨_, .cons h0 .nil, BindsTo.of_eq rfl⟩
theorem b423_2 (R : Rt w H0) {v0 v1 : V} : Bind H0 d423 [v0, v1] [("self", v0), ("cost", v1)] := by
  intro s xs hx root
  refine VRs.consE hx fun _ _ h0 hx => ?_; refine VRs.consE hx fun _ _ h1 hx => ?_; refine VRs.nilE hx ?_; exact ⟨_, .cons h0 (.cons h1 .nil), BindsTo.of_eq rfl⟩
theorem b430_2 (R : Rt w H0) {v0 v1 : V} : Bind H0 d430 [v0, v1] [("self", v0), ("cost", v1)] := by
  intro s xs hx root
  refine VRs.consE hx fun _ _ h0 hx => ?_; refine VRs.consE hx fun _ _ h1 hx => ?_; refine VRs.nilE hx ?_; exact ⟨_, .cons h0 (.cons h1 .nil), BindsTo.of_eq rfl⟩
theorem b451_2 (R : Rt w H0) {v0 v1 : V} : Bind H0 d451 [v0, v1] [("self", v0), ("things", v1)] := by
  intro s xs hx root
  refine VRs.consE hx fun _ _ h0 hx => ?_; refine VRs.consE hx fun _ _ h1 hx => ?_; refine VRs.nilE hx ?_; exact ⟨_, .cons h0 (.cons h1 .nil), BindsTo.of_eq rfl⟩
theorem b479_2 (R : Rt w H0) {v0 v1 : V} : Bind H0 d479 [v0, v1] [("self", v0), ("body", v1)] := by
  intro s xs hx root
  refine VRs.consE hx fun _ _ h0 hx => ?_; refine VRs.consE hx fun _ _ h1 hx => ?_; refine VRs.nilE hx ?_; exact ⟨_, .cons h0 (.cons h1 .nil), BindsTo.of_eq rfl⟩
theorem b486_3 (R : Rt w H0) {v0 v1 v2 : V} : Bind H0 d486 [v0, v1, v2] [("self", v0), ("body", v1), ("thing", v2)] := by
  intro s xs hx root
  refine VRs.consE hx fun _ _ h0 hx => ?_; refine VRs.consE hx fun _ _ h1 hx => ?_; refine VRs.consE hx fun _ _ h2 hx => ?_; refine VRs.nilE hx ?_; exact ⟨_, .cons h0 (.cons h1 (.cons h2 .nil)), BindsTo.of_eq rfl⟩
theorem b493_4 (R : Rt w H0) {v0 v1 v2 v3 : V} : Bind H0 d493 [v0, v1, v2, v3] [("self", v0), ("row", v1), ("at", v2), ("thing", v3)] := by
  intro s xs hx root
  refine VRs.consE hx fun _ _ h0 hx => ?_; refine VRs.consE hx fun _ _ h1 hx => ?_; refine VRs.consE hx fun _ _ h2 hx => ?_; refine VRs.consE hx fun _ _ h3 hx => ?_; refine VRs.nilE hx ?_; exact ⟨_, .cons h0 (.cons h1 (.cons h2 (.cons h3 .nil))), BindsTo.of_eq rfl⟩
theorem b500_4 (R : Rt w H0) {v0 v1 v2 v3 : V} : Bind H0 d500 [v0, v1, v2, v3] [("self", v0), ("row", v1), ("at", v2), ("things", v3)] := by
  intro s xs hx root
  refine VRs.consE hx fun _ _ h0 hx => ?_; refine VRs.consE hx fun _ _ h1 hx => ?_; refine VRs.consE hx fun _ _ h2 hx => ?_; refine VRs.consE hx fun _ _ h3 hx => ?_; refine VRs.nilE hx ?_; exact ⟨_, .cons h0 (.cons h1 (.cons h2 (.cons h3 .nil))), BindsTo.of_eq rfl⟩
theorem b652_2 (R : Rt w H0) {v0 v1 : V} : Bind H0 d652 [v0, v1] [("many", v0), ("most", v1)] := by
  intro s xs hx root
  refine VRs.consE hx fun _ _ h0 hx => ?_; refine VRs.consE hx fun _ _ h1 hx => ?_; refine VRs.nilE hx ?_; exact ⟨_, .cons h0 (.cons h1 .nil), BindsTo.of_eq rfl⟩
theorem b111_5 (R : Rt w H0) {v0 v1 v2 v3 v4 : V} : Bind H0 d111 [v0, v1, v2, v3, v4] [("self", v0), ("number", v1), ("things", v2), ("is_global", v3), ("level", v4)] := by
  intro s xs hx root
  refine VRs.consE hx fun _ _ h0 hx => ?_; refine VRs.consE hx fun _ _ h1 hx => ?_; refine VRs.consE hx fun _ _ h2 hx => ?_; refine VRs.consE hx fun _ _ h3 hx => ?_; refine VRs.consE hx fun _ _ h4 hx => ?_; refine VRs.nilE hx ?_; exact ⟨_, .cons h0 (.cons h1 (.cons h2 (.cons h3 (.cons h4 .nil)))), BindsTo.of_eq rfl⟩
noncomputable def limLo : Lo := ofL [("operands", .int 500), ("dicts", .int 20), ("frames", .int 250), ("saves", .int 15), ("gstates", .int 31), ("text", .int 65535), ("row", .int 65535), ("entries", .int 65535), ("word", .int 127), ("path", .int 1500), ("dash", .int 11), ("files", .int 15), ("system", .int 600), ("vm", .int 16777216)] noLo
theorem mk362 (P : Params) : makesIn (KK P) 362 = true := by kernel_rfl
theorem fi362 (P : Params) : findIn (KK P) (.ref 362) "__init__" = some (some (.ref 359)) := by kernel_rfl
theorem ty359 (P : Params) : typeIn (KK P) (.ref 359) = some (.type "function") := by kernel_rfl
theorem mk643 (P : Params) : makesIn (KK P) 643 = true := by kernel_rfl
theorem fi643 (P : Params) : findIn (KK P) (.ref 643) "__init__" = some (some (.ref 401)) := by kernel_rfl
theorem ty401 (P : Params) : typeIn (KK P) (.ref 401) = some (.type "function") := by kernel_rfl
theorem mk114 (P : Params) : makesIn (KK P) 114 = true := by kernel_rfl
theorem fi114 (P : Params) : findIn (KK P) (.ref 114) "__init__" = some (some (.ref 111)) := by kernel_rfl
theorem ty111 (P : Params) : typeIn (KK P) (.ref 111) = some (.type "function") := by kernel_rfl
theorem cw362 : ∀ {n : Nat} {φ : Ph} {σ : Sg} {Q : V → Ph → Sg → Prop} (R : Rt w H0) (q : ∀ x φ', Le φ φ' → Inst φ' x 362 limLo → Q (.ref x) φ' σ), CW w H0 (n+2) (.ref 362) [] φ σ Q := by
  apply @Mine.hk4; generalize ca1 (cx _) = n, ca2 (cx _) = φ, ca3 (cx _) = σ, cz4 (cx _) = Q
  intro R q
  exact make_w R (k359 R) (fun _ => b359_1 R) (fun _ => bk_of rfl) (mk362 _) (fi362 _) (ty359 _) fun x d hx h2 h3 sd h5 => by
    have hxx : updP φ x (instObj 362 d) x = some (instObj 362 d) := updP_same _ _ _
    refine X_cons ?_
    repeat (first | walk_at "zs" | walk_at "zw")
    intro φ' l hn
    exact ⟨rfl, q _ _ ((Le.upd hx).trans l) ⟨d, l _ _ hxx, hn⟩⟩
theorem cw114 : ∀ {n : Nat} {φ : Ph} {σ : Sg} {Q : V → Ph → Sg → Prop} {num : Int} {tl : Addr} {vs : List V} (R : Rt w H0) (hl : Lst φ σ tl vs) (hz : vs.length ≤ 900) (q : ∀ x l φ', Le φ φ' → σ l = none → φ l = none → φ x = none → Rwi φ' x num l → Q (.ref x) φ' (upd σ l (.list vs))),
    CW w H0 (n+2) (.ref 114) [.int num, .ref tl, .bool false, .int 0] φ σ Q := by
  apply @Mine.hk6; generalize ca1 (cx _) = n, ca2 (cx _) = φ, ca3 (cx _) = σ, ca4 (cx _) = Q, ca5 (cx _) = num, cz6 (cx _) = tl
  apply @Mine.hk; generalize cx _ = vs
  intro R hl hz q
  exact make_w R (k111 R) (fun _ => b111_5 R) (fun _ => bk_of rfl) (mk114 _) (fi114 _) (ty111 _) fun x d hx hd h3 sd h5 => by
    have hxx : updP φ x (instObj 114 d) x = some (instObj 114 d) := updP_same _ _ _
    have hl' : Lst (updP φ x (instObj 114 d)) (upd σ d (.ns (setL noLo "number" (.int num)) (0+1))) tl vs := by
      rcases hl with h | h
      · left; rw [upd_other (ne_of_none sd h).symm]; exact h
      · exact .inr (h.le (Le.upd hx))
    refine X_cons ?_
    repeat (first | walk_at "zs" | walk_at "zw")
    refine B_list hl' (by lia) fun l e1 e2 => ?_
    have hdl : d ≠ l := fun q => by subst q; rw [upd_same] at e1; cases e1
    have e1' : σ l = none := by rw [upd_other hdl.symm] at e1; exact e1
    have hxl : l ≠ x := fun q => by subst q; rw [updP_same] at e2; cases e2
    have e2' : φ l = none := by unfold updP at e2; rw [if_neg hxl] at e2; exact e2
    rw [upd_comm hdl]
    have sd' : upd σ l (.list vs) d = none := by rw [upd_other hdl]; exact sd
    repeat (first | walk_at "zs" | walk_at "zw")
    intro φ' l' hn
    exact ⟨rfl, q _ _ _ ((Le.upd hx).trans l') e1' e2' hx ⟨d, l' _ _ hxx, hn⟩⟩
noncomputable def memLo (lim sv md jr fz : Addr) (u la : Int) : Lo := ofL [("limits", .ref lim), ("is_global", .bool false), ("saves", .ref sv), ("journal", .ref jr), ("made", .ref md), ("freed", .ref fz), ("used", .int u), ("used_global", .int 0), ("last_body", .int la), ("last_save", .int 0)] noLo
theorem mem_used {lim sv md jr fz : Addr} {u la v : Int} : setL (memLo lim sv md jr fz u la) "used" (.int v) = memLo lim sv md jr fz v la := by
  funext x
  by_cases h : x = "used"
  · subst h; rfl
  · simp [memLo, ofL, setL, h]
theorem mem_last {lim sv md jr fz : Addr} {u la v : Int} : setL (memLo lim sv md jr fz u la) "last_body" (.int v) = memLo lim sv md jr fz u v := by
  funext x
  by_cases h : x = "last_body"
  · subst h; rfl
  · simp [memLo, ofL, setL, h]
structure Mem (φ : Ph) (x d lim sv md : Addr) : Prop where
  inst : φ x = some (instObj 643 d)
  lim : Inst φ lim 362 limLo
  saves : LstP φ sv []
  ne : d ≠ md
theorem Mem.le {φ φ' : Ph} (l : Le φ φ') {x d lim sv md : Addr} (h : Mem φ x d lim sv md) : Mem φ' x d lim sv md := ⟨l _ _ h.inst, h.lim.le l, h.saves.le l, h.ne⟩
theorem W.freezeL2 {α β : Type} {sc : Scope} {ρ : Lo} {R : β → α → Prop} {t : Env → Sem α} {Q : β → Lo → Ph → Sg → Prop} {a : Addr} {vs : List V} (hσ : σ a = none) (h : ∀ φ', Le φ φ' → LstP φ' a vs → W w H0 sc n R t ρ φ' σ Q) : W w H0 sc n R t ρ φ (upd σ a (.list vs)) Q := W.freezeL hσ h
theorem cw643 : ∀ {n : Nat} {φ : Ph} {σ : Sg} {Q : V → Ph → Sg → Prop} {lim : Addr} (R : Rt w H0) (hlim : Inst φ lim 362 limLo) (q : ∀ x d sv md jr fz φ', Le φ φ' → Mem φ' x d lim sv md → σ d = none → σ md = none → Q (.ref x) φ' (upd (upd σ md (.sdict [])) d (.ns (memLo lim sv md jr fz 0 0) 10))), CW w H0 (n+2) (.ref 643) [.ref lim] φ σ Q := by
  apply @Mine.hk5; generalize ca1 (cx _) = n, ca2 (cx _) = φ, ca3 (cx _) = σ, ca4 (cx _) = Q, cz5 (cx _) = lim
  intro R hlim q
  exact make_w R (k401 R) (fun _ => b401_2 R) (fun _ => bk_of rfl) (mk643 _) (fi643 _) (ty401 _) fun x d hx hd h3 sd h5 => by
    have hxx : updP φ x (instObj 643 d) x = some (instObj 643 d) := updP_same _ _ _
    refine X_cons ?_
    repeat (first | walk_at "zs" | walk_at "zw")
    refine E_list (A_nil ⟨by simp, fun sv e1 e2 => W.freezeL e1 fun φ1 l1 h1 => ?_⟩)
    have hxx1 := l1 _ _ hxx
    repeat (first | walk_at "zs" | walk_at "zw")
    refine E_list (A_nil ⟨by simp, fun jr e1 e2 => W.freezeL e1 fun φ2 l2 h2 => ?_⟩)
    have hxx2 := l2 _ _ hxx1
    repeat (first | walk_at "zs" | walk_at "zw")
    refine E_dict0 (c := .sdict []) (.inl rfl) fun md f1 f2 => ?_
    have hdm : d ≠ md := fun q => by subst q; rw [upd_same] at f1; cases f1
    have smd : σ md = none := by rw [upd_other hdm.symm] at f1; exact f1
    rw [upd_comm hdm]
    repeat (first | walk_at "zs" | walk_at "zw")
    refine E_list (A_nil ⟨by simp, fun fz e1 e2 => W.freezeL e1 fun φ3 l3 h3 => ?_⟩)
    have hxx3 := l3 _ _ hxx2
    repeat (first | walk_at "zs" | walk_at "zw")
    exact ⟨rfl, q x d sv md jr fz φ3 ((Le.upd hx).trans (l1.trans (l2.trans l3))) ⟨hxx3, ((hlim.le (Le.upd hx)).le l1).le (l2.trans l3), h1.le (l2.trans l3), hdm⟩ sd smd⟩
noncomputable def methL : List (Str × Addr) := [(Str.ofString "make_row", 451), (Str.ofString "take_room", 423), (Str.ofString "check_room", 430), (Str.ofString "body_level", 416), (Str.ofString "put_item", 493), (Str.ofString "put_items", 500), (Str.ofString "check_holds", 486), (Str.ofString "is_elder", 479)]
noncomputable def methB (K : Frag) : Bool := methL.all fun p => methOk K 643 p.1 p.2 && keepIn K (.ref p.2)
theorem methB_ok (P : Params) : methB (KK P) = true := by kernel_rfl
theorem meth_ok (P : Params) {x : Str} {f : Addr} (h : methL.lookup x = some f) : methOk (KK P) 643 x f = true ∧ keepIn (KK P) (.ref f) = true := by
  have := List.all_eq_true.mp (methB_ok P) _ (look_mem h)
  simp only [Bool.and_eq_true] at this
  exact this
section
variable {sc : Scope} {ρ : Lo} {Q : V → Lo → Ph → Sg → Prop} {x d lim sv md jr fz : Addr} {u la : Int} {k : Nat}
theorem G_mem (R : Rt w H0) {name : Str} {eb : Bool} (M : Mem φ x d lim sv md) (hd : σ d = some (.ns (memLo lim sv md jr fz u la) k)) (q : fldIs 643 name = true ∧ ∃ v, memLo lim sv md jr fz u la name = some v ∧ handV v = true ∧ Q v ρ φ σ) :
    ∀ y, VR (.ref x) y → W w H0 sc n VR (fun _ => getAttr y name eb) ρ φ σ Q :=
  by obtain ⟨h1, v, h2, h3, h4⟩ := q; exact G_attr R M.inst (.inl ⟨k, hd⟩) (fld_ok w.params h1).2 h2 h3 h4
theorem G_lim (R : Rt w H0) {name : Str} {eb : Bool} (h : Inst φ lim 362 limLo) (q : fldIs 362 name = true ∧ ∃ v, limLo name = some v ∧ handV v = true ∧ Q v ρ φ σ) :
    ∀ y, VR (.ref lim) y → W w H0 sc n VR (fun _ => getAttr y name eb) ρ φ σ Q :=
  by obtain ⟨h1, v, h2, h3, h4⟩ := q; exact G_inst R h (fld_ok w.params h1).2 h2 h3 h4
theorem G_memM (R : Rt w H0) {name : Str} {pl : Env → Sem Bool} {P : Value × List V → Lo → Ph → Sg → Prop} (M : Mem φ x d lim sv md) (hd : σ d = some (.ns (memLo lim sv md jr fz u la) k)) (q : ∃ f, methL.lookup name = some f ∧ memLo lim sv md jr fz u la name = none ∧ P (.ref f, [.ref x]) ρ φ σ) :
    ∀ y, VR (.ref x) y → W w H0 sc n (fun (p : Value × List V) (y : Value × List Value) => y.1 = p.1 ∧ VRs p.2 y.2) (fun env => getMethod y name (pl env)) ρ φ σ fun p ρ φ σ =>
      (∀ (M : Model) (h : Heap), (∀ b o, H0.get? b = some o → h.get? b = some o) → ∃ k, (k = Keeper.frame ∨ k = Keeper.machine ∨ k = Keeper.boundFrame) ∧ Looks M h (keeperOf p.1) k) ∧ P p ρ φ σ :=
  by obtain ⟨f, h1, h2, h3⟩ := q; exact G_meth R M.inst (.inl ⟨k, hd⟩) (meth_ok w.params h1).1 h2 ⟨keeps_frag (meth_ok w.params h1).2 R, h3⟩
theorem E_methc {o : PySem.Expr} {name : Str} {apos pos : Pos} {es : List PySem.Expr} {pl : Env → Sem Bool} (hs : es.all noStar = true)
    (he : ∀ env, eval (.Call (.Attribute o name apos) es [] pos) env = (do
      let ov ← eval o env
      standAt apos.atName
      let (f, first) ← holding [ov] (getMethod ov name (pl env))
      callWith pos f first (backTo pos (starEach es env)) []))
    (h : EW w H0 sc n o ρ φ σ fun ov ρ φ σ => ∀ x, VR ov x → W w H0 sc n (fun (p : Value × List V) (y : Value × List Value) => y.1 = p.1 ∧ VRs p.2 y.2) (fun env => getMethod x name (pl env)) ρ φ σ fun p ρ φ σ =>
      (∀ (M : Model) (h : Heap), (∀ b o, H0.get? b = some o → h.get? b = some o) → ∃ k, (k = Keeper.frame ∨ k = Keeper.machine ∨ k = Keeper.boundFrame) ∧ Looks M h (keeperOf p.1) k) ∧
      ArgsW w H0 sc n pos es ρ φ σ fun vs ρ φ σ => CallW w H0 sc n p.1 (p.2 ++ vs) ρ φ σ Q) : EW w H0 sc n (.Call (.Attribute o name apos) es [] pos) ρ φ σ Q := E_meth hs h he
theorem E_methd {o : PySem.Expr} {name : Str} {apos pos : Pos} {es : List PySem.Expr} (hs : es.all noStar = true)
    (he : ∀ env, eval (.Call (.Attribute o name apos) es [] pos) env = (do
      let ov ← eval o env
      standAt apos.atName
      let (f, first) ← holding [ov] (getMethod ov name (do return (← importBound o env).getD true))
      callWith pos f first (backTo pos (starEach es env)) []))
    (h : EW w H0 sc n o ρ φ σ fun ov ρ φ σ => ∀ x, VR ov x → W w H0 sc n (fun (p : Value × List V) (y : Value × List Value) => y.1 = p.1 ∧ VRs p.2 y.2) (fun env => getMethod x name (do return (← importBound o env).getD true)) ρ φ σ fun p ρ φ σ =>
      (∀ (M : Model) (h : Heap), (∀ b o, H0.get? b = some o → h.get? b = some o) → ∃ k, (k = Keeper.frame ∨ k = Keeper.machine ∨ k = Keeper.boundFrame) ∧ Looks M h (keeperOf p.1) k) ∧
      ArgsW w H0 sc n pos es ρ φ σ fun vs ρ φ σ => CallW w H0 sc n p.1 (p.2 ++ vs) ρ φ σ Q) : EW w H0 sc n (.Call (.Attribute o name apos) es [] pos) ρ φ σ Q := E_meth (pl := fun env => do return (← importBound o env).getD true) hs h he
theorem G_memM' (R : Rt w H0) {name : Str} {o : PySem.Expr} {P : Value × List V → Lo → Ph → Sg → Prop} (M : Mem φ x d lim sv md) (hd : σ d = some (.ns (memLo lim sv md jr fz u la) k)) (q : ∃ f, methL.lookup name = some f ∧ memLo lim sv md jr fz u la name = none ∧ P (.ref f, [.ref x]) ρ φ σ) :
    ∀ y, VR (.ref x) y → W w H0 sc n (fun (p : Value × List V) (y : Value × List Value) => y.1 = p.1 ∧ VRs p.2 y.2) (fun env => getMethod y name (do return (← importBound o env).getD true)) ρ φ σ fun p ρ φ σ =>
      (∀ (M : Model) (h : Heap), (∀ b o, H0.get? b = some o → h.get? b = some o) → ∃ k, (k = Keeper.frame ∨ k = Keeper.machine ∨ k = Keeper.boundFrame) ∧ Looks M h (keeperOf p.1) k) ∧ P p ρ φ σ := G_memM R M hd q
theorem G_memS (R : Rt w H0) {name : Str} {v : V} {Q : Lo → Ph → Sg → Prop} (M : Mem φ x d lim sv md) (hd : σ d = some (.ns (memLo lim sv md jr fz u la) k)) (hk : k ≤ 900) (hc : fldIs 643 name = true) (hm : (memLo lim sv md jr fz u la name).isSome = true)
    (q : Q ρ φ (upd σ d (.ns (setL (memLo lim sv md jr fz u la) name v) k))) : ∀ y u, VR (.ref x) y → VR v u → W w H0 sc n UR (fun _ => setAttr y name u) ρ φ σ fun _ => Q :=
  G_setO R M.inst hd (fld_ok w.params hc).1 hm hk q
end
theorem pg409 (P : Params) : plainGet (KK P) 643 "level" = true := by kernel_rfl
theorem hd643 (P : Params) : hasDictIn (KK P) 643 = true := by kernel_rfl
theorem fi409 (P : Params) : findIn (KK P) (.ref 643) "level" = some (some (.ref 409)) := by kernel_rfl
theorem sp409 (P : Params) : specialIn (KK P) (.ref 409) "__get__" = some (some (.builtin "property.__get__")) := by kernel_rfl
theorem tk409 (P : Params) : takesIn (KK P) (.ref 409) = some true := by kernel_rfl
theorem rc409 (P : Params) : recIn (KK P) 409 "property" = some (.ref 408 :: [.none, .none, .none, .str "level" 763, .bool false]) := by kernel_rfl
end
local macro_rules | `(tactic| walk_at "zm") => `(tactic| first | ((with_reducible refine E_intT (by assumption) ?_ (gi_int _) ?_); rfl) | ((with_reducible refine I_listInt (by assumption) ?_)) | (with_reducible refine I_intInt ?_) | ((with_reducible refine G_mem (by assumption) (by assumption) (by assumption) ?_); refine And.intro rfl (Exists.intro _ (And.intro rfl (And.intro rfl ?_)))) | ((with_reducible refine G_lim (by assumption) (by assumption) ?_); refine And.intro rfl (Exists.intro _ (And.intro rfl (And.intro rfl ?_)))) | ((with_reducible refine G_memM' (by assumption) (by assumption) (by assumption) ?_); refine Exists.intro _ (And.intro rfl (And.intro rfl ?_))) | ((with_reducible refine E_methd ?_ ?_ ?_); rfl; (intro _; rfl)))
section
variable {n : Nat} {φ : Ph} {σ : Sg} {Q : V → Ph → Sg → Prop}
theorem gi_int (P : Params) : nsIn (KK P) mainGlobals (Str.ofString "int") = some none := by kernel_rfl
theorem cw652 (R : Rt w H0) {i j : Int} (h0 : 0 ≤ i) (h1 : i ≤ j) (q : Q .none φ σ) : CW w H0 (n+1) (.ref 652) [.int i, .int j] φ σ Q := by
  refine CW.code R (k652 R) (b652_2 R) (bk_of rfl) (X_cons ?_)
  repeat walk_at "zw"
  exact q
section
variable {x d lim sv md jr fz : Addr} {u la : Int} {k : Nat}
theorem G_level (R : Rt w H0) {sc : Scope} {ρ : Lo} {Q : V → Lo → Ph → Sg → Prop} {eb : Bool} (M : Mem φ x d lim sv md) (hd : σ d = some (.ns (memLo lim sv md jr fz u la) k)) (q : Q (.int 0) ρ φ σ) : ∀ y, VR (.ref x) y → W w H0 sc (n+2) VR (fun _ => getAttr y (Str.ofString "level") eb) ρ φ σ Q := by
  refine G_prop R M.inst (.inl ⟨k, hd⟩) (pg409 _) (hd643 _) (fi409 _) (sp409 _) (tk409 _) (rc409 _) (k408 R) (b408_1 R) (bk_of rfl) (X_cons ?_)
  have hs : Lst φ σ sv [] := .inr M.saves
  repeat (first | walk_at "zm" | walk_at "zw")
  refine E_lenL hs (by simp) ?_
  exact ⟨rfl, q⟩
theorem cw416 (R : Rt w H0) (M : Mem φ x d lim sv md) (hd : σ d = some (.ns (memLo lim sv md jr fz u la) k)) (q : Q (.int 0) φ σ) : CW w H0 (n+3) (.ref 416) [.ref x] φ σ Q := by
  refine CW.code R (k416 R) (b416_1 R) (bk_of rfl) (X_cons ?_)
  repeat (first | walk_at "zm" | walk_at "zw")
  refine G_level R M hd ?_
  exact q
theorem cw430 : ∀ {n : Nat} {φ : Ph} {σ : Sg} {Q : V → Ph → Sg → Prop} {x : Addr} {d : Addr} {lim : Addr} {sv : Addr} {md : Addr} {jr : Addr} {fz : Addr} {u : Int} {la : Int} {k : Nat} {c : Int} (R : Rt w H0) (M : Mem φ x d lim sv md) (hd : σ d = some (.ns (memLo lim sv md jr fz u la) k)) (hc : u + c ≤ 16777216) (q : Q .none φ σ), CW w H0 (n+1) (.ref 430) [.ref x, .int c] φ σ Q := by
  apply @Mine.hk6; generalize ca1 (cx _) = n, ca2 (cx _) = φ, ca3 (cx _) = σ, ca4 (cx _) = Q, ca5 (cx _) = x, cz6 (cx _) = d
  apply @Mine.hk6; generalize ca1 (cx _) = lim, ca2 (cx _) = sv, ca3 (cx _) = md, ca4 (cx _) = jr, ca5 (cx _) = fz, cz6 (cx _) = u
  apply @Mine.hk3; generalize ca1 (cx _) = la, ca2 (cx _) = k, cz3 (cx _) = c
  intro R M hd hc q
  have hlim := M.lim
  refine CW.code R (k430 R) (b430_2 R) (bk_of rfl) (X_cons ?_)
  repeat (first | walk_at "zm" | walk_at "zw")
  exact q
theorem cw479 (R : Rt w H0) {b l : Addr} {num : Int} (M : Mem φ x d lim sv md) (hd : σ d = some (.ns (memLo lim sv md jr fz u la) k)) (hb : Rwi φ b num l) (q : Q (.bool false) φ σ) : CW w H0 (n+3) (.ref 479) [.ref x, .ref b] φ σ Q := by
  refine CW.code R (k479 R) (b479_2 R) (bk_of rfl) (X_cons ?_)
  repeat (first | walk_at "zm" | walk_at "zw")
  refine G_level R M hd ?_
  repeat (first | walk_at "zm" | walk_at "zw")
  exact q
theorem cw486 (R : Rt w H0) {b l : Addr} {num : Int} {v : V} (M : Mem φ x d lim sv md) (hb : Rwi φ b num l) (q : Q .none φ σ) : CW w H0 (n+1) (.ref 486) [.ref x, .ref b, v] φ σ Q := by
  refine CW.code R (k486 R) (b486_3 R) (bk_of rfl) (X_cons ?_)
  repeat (first | walk_at "zm" | walk_at "zw")
  exact q
end
end
local macro_rules | `(tactic| walk_at "zm") => `(tactic| first | ((with_reducible refine E_intT (by assumption) ?_ (gi_int _) ?_); rfl) | ((with_reducible refine I_listInt (by assumption) ?_)) | (with_reducible refine I_intInt ?_) | ((with_reducible refine G_mem (by assumption) (by assumption) (by assumption) ?_); refine And.intro rfl (Exists.intro _ (And.intro rfl (And.intro rfl ?_)))) | ((with_reducible refine G_lim (by assumption) (by assumption) ?_); refine And.intro rfl (Exists.intro _ (And.intro rfl (And.intro rfl ?_)))) | ((with_reducible refine G_memM' (by assumption) (by assumption) (by assumption) ?_); refine Exists.intro _ (And.intro rfl (And.intro rfl ?_))) | ((with_reducible refine E_methd ?_ ?_ ?_); rfl; (intro _; rfl)))
section
variable {n : Nat} {φ : Ph} {σ : Sg} {Q : V → Ph → Sg → Prop}
theorem storedV_len {K : Type} [DecidableEq K] (xs : List (K × V)) (k : K) (v : V) : (storedV xs k v).length ≤ xs.length + 1 := by
  unfold storedV
  split
  · simp
  · simp
section
variable {x d lim sv md jr fz : Addr} {u la : Int} {k : Nat}
theorem cw423 : ∀ {n : Nat} {φ : Ph} {σ : Sg} {Q : V → Ph → Sg → Prop} {x : Addr} {d : Addr} {lim : Addr} {sv : Addr} {md : Addr} {jr : Addr} {fz : Addr} {u : Int} {la : Int} {k : Nat} {c : Int} {xs : List (Scal × V)} (R : Rt w H0) (M : Mem φ x d lim sv md) (hd : σ d = some (.ns (memLo lim sv md jr fz u la) k)) (hm : σ md = some (.sdict xs)) (hk : k ≤ 900) (hx : xs.length ≤ 800) (hc : u + c ≤ 16777216) (q : ∀ φ' xs', Le φ φ' → xs'.length ≤ xs.length + 1 → Q (.int (la + 1)) φ' (upd (upd σ md (.sdict xs')) d (.ns (memLo lim sv md jr fz (u + c) (la + 1)) k))), CW w H0 (n+4) (.ref 423) [.ref x, .int c] φ σ Q := by
  apply @Mine.hk6; generalize ca1 (cx _) = n, ca2 (cx _) = φ, ca3 (cx _) = σ, ca4 (cx _) = Q, ca5 (cx _) = x, cz6 (cx _) = d
  apply @Mine.hk6; generalize ca1 (cx _) = lim, ca2 (cx _) = sv, ca3 (cx _) = md, ca4 (cx _) = jr, ca5 (cx _) = fz, cz6 (cx _) = u
  apply @Mine.hk4; generalize ca1 (cx _) = la, ca2 (cx _) = k, ca3 (cx _) = c, cz4 (cx _) = xs
  intro R M hd hm hk hx hc q
  refine CW.code R (k423 R) (b423_2 R) (bk_of rfl) (X_cons ?_)
  repeat (first | walk_at "zm" | walk_at "zw")
  refine cw430 R M hd hc ?_
  refine And.intro rfl ?_
  repeat (first | walk_at "zm" | walk_at "zw")
  refine G_memS R M hd hk rfl rfl ?_
  rw [mem_last]
  have hd1 := upd_same σ d (C.ns (memLo lim sv md jr fz u (la+1)) k)
  have hm1 : upd σ d (C.ns (memLo lim sv md jr fz u (la+1)) k) md = some (.sdict xs) := by rw [upd_other M.ne.symm]; exact hm
  repeat (first | walk_at "zm" | walk_at "zw")
  refine S_setitem ?_
  refine E_tuple ?_
  repeat (first | walk_at "zm" | walk_at "zw")
  refine cw416 R M hd1 ?_
  repeat (first | walk_at "zm" | walk_at "zw")
  refine And.intro (by simp) fun t φ1 e1 e2 l1 ht => ?_
  have M1 := M.le l1
  repeat (first | walk_at "zm" | walk_at "zw")
  refine G_setD (k := .int (la + 1)) hm1 (by lia) ?_
  rw [upd_comm M.ne]
  have hd2 := upd_same (upd σ md (C.sdict (storedV xs (Scal.int (la + 1)) (V.ref t)))) d (C.ns (memLo lim sv md jr fz u (la+1)) k)
  repeat (first | walk_at "zm" | walk_at "zw")
  refine G_memS R M1 hd2 hk rfl rfl ?_
  rw [mem_used, upd_upd]
  have hd3 := upd_same (upd σ md (C.sdict (storedV xs (Scal.int (la + 1)) (V.ref t)))) d (C.ns (memLo lim sv md jr fz (u+c) (la+1)) k)
  repeat (first | walk_at "zm" | walk_at "zw")
  exact q _ _ l1 (storedV_len _ _ _)
theorem cw451_l : ∀ {n : Nat} {φ : Ph} {σ : Sg} {Q : V → Ph → Sg → Prop} {x : Addr} {d : Addr} {lim : Addr} {sv : Addr} {md : Addr} {jr : Addr} {fz : Addr} {u : Int} {la : Int} {k : Nat} {tl : Addr} {vs : List V} {xs : List (Scal × V)} (R : Rt w H0) (M : Mem φ x d lim sv md) (hd : σ d = some (.ns (memLo lim sv md jr fz u la) k)) (hm : σ md = some (.sdict xs)) (hk : k ≤ 900) (hx : xs.length ≤ 800) (hl : LstP φ tl vs) (hz : vs.length ≤ 100) (hc : u + 800 ≤ 16777216) (q : ∀ r l φ' xs', Le φ φ' → xs'.length ≤ xs.length + 1 → σ l = none → φ l = none → φ r = none → l ≠ d → l ≠ md → Rwi φ' r (la + 1) l → Q (.ref r) φ' (upd (upd (upd σ md (.sdict xs')) d (.ns (memLo lim sv md jr fz (u + 8 * vs.length) (la + 1)) k)) l (.list vs))), CW w H0 (n+6) (.ref 451) [.ref x, .ref tl] φ σ Q := by
  apply @Mine.hk6; generalize ca1 (cx _) = n, ca2 (cx _) = φ, ca3 (cx _) = σ, ca4 (cx _) = Q, ca5 (cx _) = x, cz6 (cx _) = d
  apply @Mine.hk6; generalize ca1 (cx _) = lim, ca2 (cx _) = sv, ca3 (cx _) = md, ca4 (cx _) = jr, ca5 (cx _) = fz, cz6 (cx _) = u
  apply @Mine.hk5; generalize ca1 (cx _) = la, ca2 (cx _) = k, ca3 (cx _) = tl, ca4 (cx _) = vs, cz5 (cx _) = xs
  intro R M hd hm hk hx hl hz hc q
  have hlim := M.lim
  have hlL : ∀ {σ : Sg}, Lst φ σ tl vs := .inr hl
  refine CW.code R (k451 R) (b451_2 R) (bk_of rfl) (X_cons ?_)
  repeat (first | walk_at "zm" | walk_at "zw")
  refine I_listInt hlL ?_
  repeat (first | walk_at "zm" | walk_at "zw")
  refine E_lenL hlL (by lia) ?_
  repeat (first | walk_at "zm" | walk_at "zw")
  refine cw652 R (by lia) (by lia) ?_
  refine And.intro rfl ?_
  repeat (first | walk_at "zm" | walk_at "zw")
  refine E_lenL hlL (by lia) ?_
  repeat (first | walk_at "zm" | walk_at "zw")
  refine O_mulI (x := 8) (IntMulOk.of_left (by decide)) ?_
  repeat (first | walk_at "zm" | walk_at "zw")
  refine cw423 R M hd hm hk hx (by lia) ?_
  (apply @Mine.hk2; generalize ca1 (cx _) = φ1, cz2 (cx _) = xs1)
  intro l1 hx1
  have M1 := M.le l1
  have hl1 := hl.le l1
  have hd1 := upd_same (upd σ md (.sdict xs1)) d (C.ns (memLo lim sv md jr fz (u + 8 * vs.length) (la + 1)) k)
  repeat (first | walk_at "zm" | walk_at "zw")
  refine cw416 R M1 hd1 ?_
  repeat (first | walk_at "zm" | walk_at "zw")
  refine cw114 R (.inr hl1) (by lia) ?_
  (apply @Mine.hk3; generalize ca1 (cx _) = r, ca2 (cx _) = l, cz3 (cx _) = φ2)
  intro l2 e1 e2 e3 hr
  have hne1 : l ≠ d := fun q => by subst q; rw [upd_same] at e1; cases e1
  rw [upd_other hne1] at e1
  have hne2 : l ≠ md := fun q => by subst q; rw [upd_same] at e1; cases e1
  rw [upd_other hne2] at e1
  have e2' : φ l = none := by
    cases e : φ l with
    | none => rfl
    | some o => rw [l1 _ _ e] at e2; cases e2
  have e3' : φ r = none := by
    cases e : φ r with
    | none => rfl
    | some o => rw [l1 _ _ e] at e3; cases e3
  exact q r l φ2 xs1 (l1.trans l2) hx1 e1 e2' e3' hne1 hne2 hr
theorem cw451_i : ∀ {n : Nat} {φ : Ph} {σ : Sg} {Q : V → Ph → Sg → Prop} {x : Addr} {d : Addr} {lim : Addr} {sv : Addr} {md : Addr} {jr : Addr} {fz : Addr} {u : Int} {la : Int} {k : Nat} {many : Nat} {xs : List (Scal × V)} (R : Rt w H0) (M : Mem φ x d lim sv md) (hd : σ d = some (.ns (memLo lim sv md jr fz u la) k)) (hm : σ md = some (.sdict xs)) (hk : k ≤ 900) (hx : xs.length ≤ 800) (hz : many ≤ 100) (hc : u + 800 ≤ 16777216) (q : ∀ r l t φ' xs', Le φ φ' → xs'.length ≤ xs.length + 1 → σ l = none → φ l = none → φ r = none → l ≠ d → l ≠ md → Rwi φ' r (la + 1) l → Q (.ref r) φ' (upd (upd (upd σ md (.sdict xs')) d (.ns (memLo lim sv md jr fz (u + 8 * many) (la + 1)) k)) l (.list (List.replicate many (.ref t))))), CW w H0 (n+7) (.ref 451) [.ref x, .int many] φ σ Q := by
  apply @Mine.hk6; generalize ca1 (cx _) = n, ca2 (cx _) = φ, ca3 (cx _) = σ, ca4 (cx _) = Q, ca5 (cx _) = x, cz6 (cx _) = d
  apply @Mine.hk6; generalize ca1 (cx _) = lim, ca2 (cx _) = sv, ca3 (cx _) = md, ca4 (cx _) = jr, ca5 (cx _) = fz, cz6 (cx _) = u
  apply @Mine.hk4; generalize ca1 (cx _) = la, ca2 (cx _) = k, ca3 (cx _) = many, cz4 (cx _) = xs
  intro R M hd hm hk hx hz hc q
  have hlim := M.lim
  refine CW.code R (k451 R) (b451_2 R) (bk_of rfl) (X_cons ?_)
  repeat (first | walk_at "zm" | walk_at "zw")
  refine cw652 R (by lia) (by lia) ?_
  refine And.intro rfl ?_
  repeat (first | walk_at "zm" | walk_at "zw")
  refine E_list ?_
  repeat (first | walk_at "zm" | walk_at "zw")
  refine cw168 R fun t φ1 l1 ht => ?_
  repeat (first | walk_at "zm" | walk_at "zw")
  refine And.intro (by simp) fun a f1 f2 => W.freezeL f1 fun φ2 l2 hl2 => ?_
  repeat (first | walk_at "zm" | walk_at "zw")
  refine O_mulL (.inr hl2) (by lia) fun b g1 g2 => W.freezeL g1 fun φ3 l3 hl3 => ?_
  have M3 := M.le (l1.trans (l2.trans l3))
  repeat (first | walk_at "zm" | walk_at "zw")
  refine cw451_l R M3 hd hm hk hx hl3 (by simpa using hz) hc fun r l φ4 xs' l4 hx' e1 e2 e3 n1 n2 hr => ?_
  have back : ∀ {z}, φ3 z = none → φ z = none := fun {z} h => by
    cases e : φ z with
    | none => rfl
    | some o => rw [l3 _ _ (l2 _ _ (l1 _ _ e))] at h; cases h
  rw [List.length_replicate]
  exact q r l t φ4 xs' (l1.trans (l2.trans (l3.trans l4))) hx' e1 (back e2) (back e3) n1 n2 hr
theorem cw500 : ∀ {n : Nat} {φ : Ph} {σ : Sg} {Q : V → Ph → Sg → Prop} {x : Addr} {d : Addr} {lim : Addr} {sv : Addr} {md : Addr} {jr : Addr} {fz : Addr} {u : Int} {la : Int} {k : Nat} {b l tl : Addr} {num : Int} {i : Nat} {v : V} {vs : List V} (R : Rt w H0) (M : Mem φ x d lim sv md) (hd : σ d = some (.ns (memLo lim sv md jr fz u la) k)) (hb : Rwi φ b num l) (hl : σ l = some (.list vs)) (hi : i < vs.length) (hz : vs.length ≤ 100) (ht : LstP φ tl [v]) (q : ∀ φ', Le φ φ' → Q .none φ' (upd σ l (.list (vs.set i v)))), CW w H0 (n+5) (.ref 500) [.ref x, .ref b, .int i, .ref tl] φ σ Q := by
  apply @Mine.hk6; generalize ca1 (cx _) = n, ca2 (cx _) = φ, ca3 (cx _) = σ, ca4 (cx _) = Q, ca5 (cx _) = x, cz6 (cx _) = d
  apply @Mine.hk6; generalize ca1 (cx _) = lim, ca2 (cx _) = sv, ca3 (cx _) = md, ca4 (cx _) = jr, ca5 (cx _) = fz, cz6 (cx _) = u
  apply @Mine.hk6; generalize ca1 (cx _) = la, ca2 (cx _) = k, ca3 (cx _) = b, ca4 (cx _) = l, ca5 (cx _) = tl, cz6 (cx _) = num
  apply @Mine.hk3; generalize ca1 (cx _) = i, ca2 (cx _) = v, cz3 (cx _) = vs
  intro R M hd hb hl hi hz ht q
  refine CW.code R (k500 R) (b500_4 R) (bk_of rfl) (X_cons ?_)
  repeat (first | walk_at "zm" | walk_at "zw")
  refine S_for (fun _ _ => rfl) (It_list ?_)
  repeat (first | walk_at "zm" | walk_at "zw")
  refine ⟨tl, [v], rfl, ht, .inl ⟨_, _, rfl⟩, ?_⟩
  show AW _ _ _ _ _ _ _ _ _ _
  refine A_local rfl ?_
  repeat (first | walk_at "zm" | walk_at "zw")
  refine cw486 R M hb ?_
  refine And.intro rfl ?_
  repeat (first | walk_at "zm" | walk_at "zw")
  refine ⟨.refl _, ?_⟩
  show XW _ _ _ _ _ _ _ _ _
  repeat (first | walk_at "zm" | walk_at "zw")
  refine S_for (fun _ _ => rfl) (It_enum ?_)
  repeat (first | walk_at "zm" | walk_at "zw")
  refine B_enum ht fun ea it σ' s1 s2 p1 p2 hE hot => ?_
  refine ⟨ea, it, tl, [v], σ, rfl, hE, fun a c e => ?_, s1, s2, ht, ?_⟩
  · rw [hot a (fun q => by subst q; rw [s1] at e; cases e) (fun q => by subst q; rw [s2] at e; cases e)]; exact e
  refine ⟨_, _, _, rfl, rfl, rfl, ?_⟩
  show AW _ _ _ _ _ _ _ _ _ _
  refine A_local rfl ?_
  show AW _ _ _ _ _ _ _ _ _ _
  refine A_local rfl ?_
  show XW _ _ _ _ _ _ _ _ _
  repeat (first | walk_at "zm" | walk_at "zw")
  refine cw479 R M hd hb ?_
  repeat (first | walk_at "zm" | walk_at "zw")
  refine S_setitem ?_
  repeat (first | walk_at "zm" | walk_at "zw")
  refine G_setL hl (by lia) (by lia) (by lia) ?_
  repeat (first | walk_at "zm" | walk_at "zw")
  refine ⟨.refl _, ?_⟩
  show XW _ _ _ _ _ _ _ _ _
  repeat (first | walk_at "zm" | walk_at "zw")
  exact (by simpa using q φ (.refl _) : Q V.none φ (upd σ l (.list (vs.set ((i : Int) + ((0 : Nat) : Int)).toNat v))))
theorem cw493 : ∀ {n : Nat} {φ : Ph} {σ : Sg} {Q : V → Ph → Sg → Prop} {x : Addr} {d : Addr} {lim : Addr} {sv : Addr} {md : Addr} {jr : Addr} {fz : Addr} {u : Int} {la : Int} {k : Nat} {b l : Addr} {num : Int} {i : Nat} {v : V} {vs : List V} (R : Rt w H0) (M : Mem φ x d lim sv md) (hd : σ d = some (.ns (memLo lim sv md jr fz u la) k)) (hb : Rwi φ b num l) (hl : σ l = some (.list vs)) (hi : i < vs.length) (hz : vs.length ≤ 100) (q : ∀ φ', Le φ φ' → Q .none φ' (upd σ l (.list (vs.set i v)))), CW w H0 (n+6) (.ref 493) [.ref x, .ref b, .int i, v] φ σ Q := by
  apply @Mine.hk6; generalize ca1 (cx _) = n, ca2 (cx _) = φ, ca3 (cx _) = σ, ca4 (cx _) = Q, ca5 (cx _) = x, cz6 (cx _) = d
  apply @Mine.hk6; generalize ca1 (cx _) = lim, ca2 (cx _) = sv, ca3 (cx _) = md, ca4 (cx _) = jr, ca5 (cx _) = fz, cz6 (cx _) = u
  apply @Mine.hk6; generalize ca1 (cx _) = la, ca2 (cx _) = k, ca3 (cx _) = b, ca4 (cx _) = l, ca5 (cx _) = num, cz6 (cx _) = i
  apply @Mine.hk2; generalize ca1 (cx _) = v, cz2 (cx _) = vs
  intro R M hd hb hl hi hz q
  refine CW.code R (k493 R) (b493_4 R) (bk_of rfl) (X_cons ?_)
  repeat (first | walk_at "zm" | walk_at "zw")
  refine E_list ?_
  repeat (first | walk_at "zm" | walk_at "zw")
  refine And.intro (by simp) fun a f1 f2 => W.freezeL f1 fun φ1 l1 h1 => ?_
  repeat (first | walk_at "zm" | walk_at "zw")
  refine cw500 R (M.le l1) hd (hb.le l1) hl hi hz h1 fun φ2 l2 => ?_
  refine And.intro rfl ?_
  repeat (first | walk_at "zm" | walk_at "zw")
  exact q φ2 (l1.trans l2)
end
end
local macro_rules | `(tactic| walk_at "zm") => `(tactic| first | ((with_reducible refine E_intT (by assumption) ?_ (gi_int _) ?_); rfl) | ((with_reducible refine I_listInt (by assumption) ?_)) | (with_reducible refine I_intInt ?_) | ((with_reducible refine G_mem (by assumption) (by assumption) (by assumption) ?_); refine And.intro rfl (Exists.intro _ (And.intro rfl (And.intro rfl ?_)))) | ((with_reducible refine G_lim (by assumption) (by assumption) ?_); refine And.intro rfl (Exists.intro _ (And.intro rfl (And.intro rfl ?_)))) | ((with_reducible refine G_memM' (by assumption) (by assumption) (by assumption) ?_); refine Exists.intro _ (And.intro rfl (And.intro rfl ?_))) | ((with_reducible refine E_methd ?_ ?_ ?_); rfl; (intro _; rfl)))
section
variable {n : Nat} {φ : Ph} {σ : Sg} {Q : V → Ph → Sg → Prop}
theorem b687_2 (R : Rt w H0) {v0 v1 : V} : Bind H0 d687 [v0, v1] [("row", v0), ("way", v1)] := by
  intro s xs hx root
  refine VRs.consE hx fun _ _ h0 hx => ?_; refine VRs.consE hx fun _ _ h1 hx => ?_; refine VRs.nilE hx ?_; exact ⟨_, .cons h0 (.cons h1 .nil), BindsTo.of_eq rfl⟩
theorem b711_2 (R : Rt w H0) {v0 v1 : V} : Bind H0 d711 [v0, v1] [("one", v0), ("other", v1)] := by
  intro s xs hx root
  refine VRs.consE hx fun _ _ h0 hx => ?_; refine VRs.consE hx fun _ _ h1 hx => ?_; refine VRs.nilE hx ?_; exact ⟨_, .cons h0 (.cons h1 .nil), BindsTo.of_eq rfl⟩
theorem b680_2 (R : Rt w H0) {v0 v1 : V} : Bind H0 d680 [v0, v1] [("rows", v0), ("piece", v1)] := by
  intro s xs hx root
  refine VRs.consE hx fun _ _ h0 hx => ?_; refine VRs.consE hx fun _ _ h1 hx => ?_; refine VRs.nilE hx ?_; exact ⟨_, .cons h0 (.cons h1 .nil), BindsTo.of_eq rfl⟩
theorem b666_2 (R : Rt w H0) {v0 v1 : V} : Bind H0 d666 [v0, v1] [("deck", v0), ("below", v1)] := by
  intro s xs hx root
  refine VRs.consE hx fun _ _ h0 hx => ?_; refine VRs.consE hx fun _ _ h1 hx => ?_; refine VRs.nilE hx ?_; exact ⟨_, .cons h0 (.cons h1 .nil), BindsTo.of_eq rfl⟩
theorem b673_3 (R : Rt w H0) {v0 v1 v2 : V} : Bind H0 d673 [v0, v1, v2] [("deck", v0), ("at", v1), ("many", v2)] := by
  intro s xs hx root
  refine VRs.consE hx fun _ _ h0 hx => ?_; refine VRs.consE hx fun _ _ h1 hx => ?_; refine VRs.consE hx fun _ _ h2 hx => ?_; refine VRs.nilE hx ?_; exact ⟨_, .cons h0 (.cons h1 (.cons h2 .nil)), BindsTo.of_eq rfl⟩
noncomputable def wayK (w : Nat) : Str := if w = 2 then "packed" else "array"
noncomputable def wayA (w : Nat) : Int := if w = 0 then 3 else 2
theorem cw687 : ∀ {n : Nat} {φ : Ph} {σ : Sg} {Q : V → Ph → Sg → Prop} {b l : Addr} {num : Int} {vs : List V} {way : Nat} (R : Rt w H0) (hb : Rwi φ b num l) (hl : Lst φ σ l vs) (hz : vs.length ≤ 900) (hw : way ≤ 2) (q : ∀ x' φ', Le φ φ' → Prc φ' x' (wayK way) b vs.length true (wayA way) → Q (.ref x') φ' σ), CW w H0 (n+4) (.ref 687) [.ref b, .int way] φ σ Q := by
  apply @Mine.hk6; generalize ca1 (cx _) = n, ca2 (cx _) = φ, ca3 (cx _) = σ, ca4 (cx _) = Q, ca5 (cx _) = b, cz6 (cx _) = l
  apply @Mine.hk3; generalize ca1 (cx _) = num, ca2 (cx _) = vs, cz3 (cx _) = way
  intro R hb hl hz hw q
  refine CW.code R (k687 R) (b687_2 R) (bk_of rfl) (X_cons ?_)
  have h3 : way = 0 ∨ way = 1 ∨ way = 2 := by lia
  rcases h3 with rfl | rfl | rfl
  · repeat (first | walk_at "zm" | walk_at "zw")
    exact cw176_3 R hb hl (by lia) fun x' φ1 l1 h => q x' φ1 l1 h
  · repeat (first | walk_at "zm" | walk_at "zw")
    exact cw176_3 R hb hl (by lia) fun x' φ1 l1 h => q x' φ1 l1 h
  · repeat (first | walk_at "zm" | walk_at "zw")
    exact cw184 R hb hl (by lia) fun x' φ1 l1 h => q x' φ1 l1 h
section
variable {x d lim sv md jr fz : Addr} {u la : Int} {k : Nat}
theorem cw337 : ∀ {n : Nat} {φ : Ph} {σ : Sg} {Q : V → Ph → Sg → Prop} {x : Addr} {d : Addr} {lim : Addr} {sv : Addr} {md : Addr} {jr : Addr} {fz : Addr} {u : Int} {la : Int} {k : Nat} {p b : Addr} {kd : Str} {m : Nat} {e : Bool} {a : Int} {xs : List (Scal × V)} (R : Rt w H0) (M : Mem φ x d lim sv md) (hd : σ d = some (.ns (memLo lim sv md jr fz u la) k)) (hm : σ md = some (.sdict xs)) (hk : k ≤ 900) (hx : xs.length ≤ 800) (hz : m ≤ 100) (hc : u + 800 ≤ 16777216) (hkd : isArr kd) (hp : Prc φ p kd b m e a) (ha : kd = "packed" → a ≤ 2) (ha3 : a ≤ 3) (q : ∀ x' r l t φ' xs', Le φ φ' → xs'.length ≤ xs.length + 1 → σ l = none → φ l = none → φ r = none → l ≠ d → l ≠ md → Rwi φ' r (la + 1) l → Prc φ' x' kd r m true a → Q (.ref x') φ' (upd (upd (upd σ md (.sdict xs')) d (.ns (memLo lim sv md jr fz (u + 8 * m) (la + 1)) k)) l (.list (List.replicate m (.ref t))))), CW w H0 (n+9) (.ref 337) [.ref x, .ref p] φ σ Q := by
  apply @Mine.hk6; generalize ca1 (cx _) = n, ca2 (cx _) = φ, ca3 (cx _) = σ, ca4 (cx _) = Q, ca5 (cx _) = x, cz6 (cx _) = d
  apply @Mine.hk6; generalize ca1 (cx _) = lim, ca2 (cx _) = sv, ca3 (cx _) = md, ca4 (cx _) = jr, ca5 (cx _) = fz, cz6 (cx _) = u
  apply @Mine.hk6; generalize ca1 (cx _) = la, ca2 (cx _) = k, ca3 (cx _) = p, ca4 (cx _) = b, ca5 (cx _) = kd, cz6 (cx _) = m
  apply @Mine.hk3; generalize ca1 (cx _) = e, ca2 (cx _) = a, cz3 (cx _) = xs
  intro R M hd hm hk hx hz hc hkd hp ha ha3 q
  have hp' := hp
  obtain ⟨s, h1, h2⟩ := hp
  refine CW.code R (k337 R) (b337_2 R) (bk_of rfl) (X_cons ?_)
  repeat (first | walk_at "zm" | walk_at "zw")
  refine cw451_i R M hd hm hk hx hz hc fun r l t φ1 xs1 l1 hx1 e1 e2 e3 n1 n2 hr => ?_
  have hl1 : Lst φ1 (upd (upd (upd σ md (.sdict xs1)) d (.ns (memLo lim sv md jr fz (u + 8 * m) (la + 1)) k)) l (.list (List.replicate m (.ref t)))) l (List.replicate m (.ref t)) := .inl (upd_same _ _ _)
  have hlen : (List.replicate m (V.ref t)).length = m := List.length_replicate
  repeat (first | walk_at "zm" | walk_at "zw")
  refine cw176_2 R hr hl1 (by rw [hlen]; lia) fun y φ2 l2 hy => ?_
  rw [hlen] at hy
  repeat (first | walk_at "zm" | walk_at "zw")
  refine cw344 R hkd (hp'.le (l1.trans l2)) hy (hr.le l2) (vs := List.replicate m (V.ref t)) (.inl (upd_same _ _ _)) (by rw [hlen]; lia) ha ha3 fun z φ3 l3 hz3 => ?_
  rw [hlen] at hz3
  exact q z r l t φ3 xs1 (l1.trans (l2.trans l3)) hx1 e1 e2 e3 n1 n2 (hr.le (l2.trans l3)) hz3
end
end
section
variable {n : Nat} {φ : Ph} {σ : Sg} {Q : V → Ph → Sg → Prop}
inductive Piece where
  | name (b : Array UInt8) | lit (b : Array UInt8) | op (b : Array UInt8) | int (i : Int) | row (g : Nat) | proc (g way : Nat)
  deriving Inhabited
noncomputable def Piece.tup : Piece → List V
  | .name b => [.str "name", .bytes b, .int 0]
  | .lit b => [.str "literal", .bytes b, .int 0]
  | .op b => [.str "operator", .bytes b, .int 0]
  | .int i => [.str "integer", .int i, .int 0]
  | .row g => [.str "row", .int g, .int 0]
  | .proc g way => [.str "proc", .int g, .int way]
noncomputable def Piece.ok (m : Nat) : Piece → Prop
  | .row g => g < m
  | .proc g way => g < m ∧ way ≤ 2
  | _ => True
noncomputable def PThing (φ : Ph) (rs : List (Addr × Nat)) : Piece → Addr → Prop
  | .name b, x => Thg φ x "name" (.bytes b) true 3
  | .lit b, x => Thg φ x "name" (.bytes b) false 3
  | .op b, x => Thg φ x "operator" (.bytes b) true 3
  | .int i, x => Thg φ x "integer" (.int i) false 3
  | .row g, x => ∃ r m, rs[g]? = some (r, m) ∧ Prc φ x "array" r m false 3
  | .proc g way, x => ∃ r m, rs[g]? = some (r, m) ∧ Prc φ x (wayK way) r m true (wayA way)
theorem PThing.le {φ φ' : Ph} (l : Le φ φ') {rs : List (Addr × Nat)} {p : Piece} {x : Addr} (h : PThing φ rs p x) : PThing φ' rs p x := by
  cases p with
  | row g => exact let ⟨r, m, h1, h2⟩ := h; ⟨r, m, h1, h2.le l⟩
  | proc g way => exact let ⟨r, m, h1, h2⟩ := h; ⟨r, m, h1, h2.le l⟩
  | name b => exact Thg.le l h
  | lit b => exact Thg.le l h
  | op b => exact Thg.le l h
  | int i => exact Thg.le l h
noncomputable def RowsAt (φ : Ph) (σ : Sg) (rs : List (Addr × Nat)) : Prop := ∀ (g : Nat) (r : Addr) (m : Nat), rs[g]? = some (r, m) → ∃ num l vs, Rwi φ r num l ∧ Lst φ σ l vs ∧ vs.length = m ∧ m ≤ 100
theorem rows_get {rs : List (Addr × Nat)} {g : Nat} (h : g < rs.length) : ∃ r m, rs[g]? = some (r, m) := ⟨rs[g].1, rs[g].2, by simp [h]⟩
theorem cw680 : ∀ {n : Nat} {φ : Ph} {σ : Sg} {Q : V → Ph → Sg → Prop} {rl t : Addr} {rs : List (Addr × Nat)} {p : Piece} (R : Rt w H0) (hrl : LstP φ rl (rs.map fun r => V.ref r.1)) (hn : rs.length ≤ 100) (hr : RowsAt φ σ rs) (ht : Tup φ t p.tup) (hp : p.ok rs.length) (q : ∀ x' φ', Le φ φ' → PThing φ' rs p x' → Q (.ref x') φ' σ), CW w H0 (n+5) (.ref 680) [.ref rl, .ref t] φ σ Q := by
  apply @Mine.hk6; generalize ca1 (cx _) = n, ca2 (cx _) = φ, ca3 (cx _) = σ, ca4 (cx _) = Q, ca5 (cx _) = rl, cz6 (cx _) = t
  apply @Mine.hk2; generalize ca1 (cx _) = rs, cz2 (cx _) = p
  intro R hrl hn hr ht hp q
  refine CW.code R (k680 R) (b680_2 R) (bk_of rfl) (X_cons ?_)
  refine S_tup (fun env h => rfl) (fun env h => rfl) ?_
  repeat (first | walk_at "zm" | walk_at "zw")
  cases p with
  | name b =>
    refine A_tup rfl rfl ht ?_
    refine A_local rfl (A_local rfl (A_local rfl ?_))
    show XW _ _ _ _ _ _ _ _ _
    repeat (first | walk_at "zm" | walk_at "zw")
    exact cw154_2 R fun x' φ1 l1 h => q x' φ1 l1 h
  | lit b =>
    refine A_tup rfl rfl ht ?_
    refine A_local rfl (A_local rfl (A_local rfl ?_))
    show XW _ _ _ _ _ _ _ _ _
    repeat (first | walk_at "zm" | walk_at "zw")
    exact cw154_2 R fun x' φ1 l1 h => q x' φ1 l1 h
  | op b =>
    refine A_tup rfl rfl ht ?_
    refine A_local rfl (A_local rfl (A_local rfl ?_))
    show XW _ _ _ _ _ _ _ _ _
    repeat (first | walk_at "zm" | walk_at "zw")
    exact cw161 R fun x' φ1 l1 h => q x' φ1 l1 h
  | int i =>
    refine A_tup rfl rfl ht ?_
    refine A_local rfl (A_local rfl (A_local rfl ?_))
    show XW _ _ _ _ _ _ _ _ _
    repeat (first | walk_at "zm" | walk_at "zw")
    exact cw146 R fun x' φ1 l1 h => q x' φ1 l1 h
  | row g =>
    obtain ⟨r, m, hg⟩ := rows_get (show g < rs.length from hp)
    obtain ⟨num, l, vs, h1, h2, h3, h4⟩ := hr g r m hg
    refine A_tup rfl rfl ht ?_
    refine A_local rfl (A_local rfl (A_local rfl ?_))
    show XW _ _ _ _ _ _ _ _ _
    repeat (first | walk_at "zm" | walk_at "zw")
    (with_reducible refine I_listc ?_ ?_); (intro _; with_unfolding_all rfl)
    refine ⟨_, .ref r, .inr hrl, by lia, by have : g < rs.length := hp; lia, by simp [hg], ?_⟩
    repeat (first | walk_at "zm" | walk_at "zw")
    exact cw176_1 R h1 h2 (by lia) fun x' φ1 l1 h => q x' φ1 l1 ⟨r, m, hg, h3 ▸ h⟩
  | proc g way =>
    obtain ⟨r, m, hg⟩ := rows_get (show g < rs.length from hp.1)
    obtain ⟨num, l, vs, h1, h2, h3, h4⟩ := hr g r m hg
    refine A_tup rfl rfl ht ?_
    refine A_local rfl (A_local rfl (A_local rfl ?_))
    show XW _ _ _ _ _ _ _ _ _
    repeat (first | walk_at "zm" | walk_at "zw")
    (with_reducible refine I_listc ?_ ?_); (intro _; with_unfolding_all rfl)
    refine ⟨_, .ref r, .inr hrl, by lia, by have : g < rs.length := hp.1; lia, by simp [hg], ?_⟩
    repeat (first | walk_at "zm" | walk_at "zw")
    exact cw687 R h1 h2 (by lia) hp.2 fun x' φ1 l1 h => q x' φ1 l1 ⟨r, m, hg, h3 ▸ h⟩
end
section
variable {n : Nat} {φ : Ph} {σ : Sg} {Q : V → Ph → Sg → Prop}
noncomputable def deckL (cl : Addr) (a st : Int) : List (Scal × V) := [(.str "cells", .ref cl), (.str "at", .int a), (.str "stir", .int st)]
theorem cw666 : ∀ {n : Nat} {φ : Ph} {σ : Sg} {Q : V → Ph → Sg → Prop} {dk cl : Addr} {a below : Nat} {st : Int} {cells : List Int} (R : Rt w H0) (hd : σ dk = some (.sdict (deckL cl a st))) (hcl : LstP φ cl (cells.map .int)) (hz : cells.length ≤ 48) (hb : 0 < below) (q : ∀ φ' (a' : Nat) st' (c : Nat), Le φ φ' → c < below → Q (.int c) φ' (upd σ dk (.sdict (deckL cl a' st')))), CW w H0 (n+1) (.ref 666) [.ref dk, .int below] φ σ Q := by
  apply @Mine.hk6; generalize ca1 (cx _) = n, ca2 (cx _) = φ, ca3 (cx _) = σ, ca4 (cx _) = Q, ca5 (cx _) = dk, cz6 (cx _) = cl
  apply @Mine.hk4; generalize ca1 (cx _) = a, ca2 (cx _) = below, ca3 (cx _) = st, cz4 (cx _) = cells
  intro R hd hcl hz hb q
  have hL : ∀ {σ : Sg}, Lst φ σ cl (cells.map V.int) := .inr hcl
  have hlen : (cells.map V.int).length = cells.length := List.length_map ..
  refine CW.code R (k666 R) (b666_2 R) (bk_of rfl) (X_cons ?_)
  refine S_tupSw (names := ["at", "stir"]) (fun env h => rfl) (fun env h => by cases env; dsimp only at h; subst h; rfl) rfl ?_
  refine E_tuple ?_
  repeat (first | walk_at "zm" | walk_at "zw")
  (with_reducible refine D_item ?_ ?_); (intro _; with_unfolding_all rfl)
  refine ⟨_, .str "at", .int a, rfl, hd, rfl, ?_⟩
  repeat (first | walk_at "zm" | walk_at "zw")
  (with_reducible refine D_item ?_ ?_); (intro _; with_unfolding_all rfl)
  refine ⟨_, .str "stir", .int st, rfl, hd, rfl, ?_⟩
  repeat (first | walk_at "zm" | walk_at "zw")
  refine And.intro (by simp) fun t φ1 e1 e2 l1 ht => ⟨t, _, rfl, ht, rfl, ?_⟩
  have hcl1 := hcl.le l1
  repeat (first | walk_at "zm" | walk_at "zw")
  (with_reducible refine D_item ?_ ?_); (intro _; with_unfolding_all rfl)
  refine ⟨_, .str "cells", .ref cl, rfl, hd, rfl, ?_⟩
  repeat (first | walk_at "zm" | walk_at "zw")
  refine E_lenL (.inr hcl1) (by rw [hlen]; lia) ?_
  repeat (first | walk_at "zm" | walk_at "zw")
  rw [hlen]
  have fin : ∀ (c0 : Int), XW w H0 d666.scope n (bodyOf (stT 54)).tail.tail (setL (bindAll [Str.ofString "at", Str.ofString "stir"].reverse [V.int (a : Int), V.int st].reverse (ofL [("deck", .ref dk), ("below", .int below)] noLo)) "cell" (.int c0)) φ1 σ fun fl _ φ σ => Q (FlV fl) φ σ := by
    intro c0
    refine X_cons ?_
    refine S_setitem ?_
    repeat (first | walk_at "zm" | walk_at "zw")
    refine G_setD (k := .str "at") hd (by simp [deckL]) ?_
    rw [show storedV (deckL cl a st) (.str "at") (V.int ((a : Int) + 1)) = deckL cl ((a : Int) + 1) st from rfl]
    have hd1 := upd_same σ dk (C.sdict (deckL cl ((a : Int) + 1) st))
    repeat (first | walk_at "zm" | walk_at "zw")
    refine S_setitem ?_
    repeat (first | walk_at "zm" | walk_at "zw")
    refine O_mulI (IntMulOk.of_right (by decide)) ?_
    repeat (first | walk_at "zm" | walk_at "zw")
    refine O_modI (by decide) ?_
    repeat (first | walk_at "zm" | walk_at "zw")
    refine O_mulI (IntMulOk.of_right (by decide)) ?_
    repeat (first | walk_at "zm" | walk_at "zw")
    refine O_modI (by decide) ?_
    repeat (first | walk_at "zm" | walk_at "zw")
    refine G_setD (k := .str "stir") hd1 (by simp [deckL]) ?_
    rw [upd_upd]
    repeat (first | walk_at "zm" | walk_at "zw")
    refine O_modI (by lia) ?_
    have h1 := Int.fmod_nonneg_of_pos c0 (show (0 : Int) < below by lia)
    have h2 := Int.fmod_lt_of_pos c0 (show (0 : Int) < below by lia)
    have e : c0.fmod below = ((c0.fmod below).toNat : Int) := by lia
    rw [e]
    exact q φ1 (a + 1) _ (c0.fmod below).toNat l1 (by lia)
  refine And.intro (fun h => ?_) (fun h => ?_)
  · have hlt : a < cells.length := by have := of_decide_eq_true h; lia
    repeat (first | walk_at "zm" | walk_at "zw")
    (with_reducible refine D_item ?_ ?_); (intro _; with_unfolding_all rfl)
    refine ⟨_, .str "cells", .ref cl, rfl, hd, rfl, ?_⟩
    repeat (first | walk_at "zm" | walk_at "zw")
    (with_reducible refine I_listc ?_ ?_); (intro _; with_unfolding_all rfl)
    refine ⟨_, .int cells[a], .inr hcl1, by lia, by lia, by simp [hlt], ?_⟩
    refine A_local rfl ?_
    exact fin _
  · first | ((with_reducible refine Ne_l (v := ?_) ?_ ?_ ?_ ?_); rotate_left; rfl; rfl; (first | rfl | assumption)) | ((with_reducible refine Ne_c (v := ?_) ?_ ?_ ?_ ?_); rotate_left; rfl; rfl; (first | rfl | assumption)) | ((with_reducible refine Ne_f (v := ?_) ?_ ?_ ?_ ?_ ?_); rotate_left; rfl; rfl; rfl; (first | rfl | assumption))
    refine A_local rfl ?_
    exact fin _
end
section
variable {n : Nat} {φ : Ph} {σ : Sg} {Q : V → Ph → Sg → Prop}
theorem cw711 : ∀ {n : Nat} {φ : Ph} {σ : Sg} {Q : V → Ph → Sg → Prop} {x y : Addr} {k v e a v2} (R : Rt w H0) (h : Thg φ x k v e a) (h2 : Thg φ y k v2 e a) (q : ∀ φ', Le φ φ' → Q (.bool true) φ' σ), CW w H0 (n+1) (.ref 711) [.ref x, .ref y] φ σ Q := by
  apply @Mine.hk6; generalize ca1 (cx _) = n, ca2 (cx _) = φ, ca3 (cx _) = σ, ca4 (cx _) = Q, ca5 (cx _) = x, cz6 (cx _) = y
  apply @Mine.hk5; generalize ca1 (cx _) = k, ca2 (cx _) = v, ca3 (cx _) = e, ca4 (cx _) = a, cz5 (cx _) = v2
  intro R h h2 q
  refine CW.code R (k711 R) (b711_2 R) (bk_of rfl) (X_cons ?_)
  repeat (first | walk_at "zm" | walk_at "zw")
  refine E_tuple ?_
  repeat (first | walk_at "zm" | walk_at "zw")
  refine And.intro (by simp) ?_
  (apply @Mine.hk2; generalize ca1 (cx _) = t, cz2 (cx _) = φ1)
  intro e1 e2 l1 ht
  have h := h.le l1
  have h2 := h2.le l1
  repeat (first | walk_at "zm" | walk_at "zw")
  refine E_tuple ?_
  repeat (first | walk_at "zm" | walk_at "zw")
  refine And.intro (by simp) ?_
  (apply @Mine.hk2; generalize ca1 (cx _) = t2, cz2 (cx _) = φ2)
  intro e1 e2 l2 ht2
  refine C_eqTup (ht.le l2) ht2 (.cons (.str _) (.cons (.bool _) (.cons (.int _) .nil))) ?_
  exact q _ (l1.trans l2)
noncomputable def Piece.opk : Piece → Prop
  | .op b => b = absB ∨ b = negB
  | _ => True
noncomputable def DeckQ (σ : Sg) (dk cl : Addr) (Q : Sg → Prop) : Prop := ∀ (a' : Nat) st', Q (upd σ dk (.sdict (deckL cl a' st')))
theorem cw673 : ∀ {n : Nat} {φ : Ph} {σ : Sg} {Q : V → Ph → Sg → Prop} {dk cl : Addr} {a at_ many : Nat} {st : Int} {cells : List Int} (R : Rt w H0) (hd : σ dk = some (.sdict (deckL cl a st))) (hcl : LstP φ cl (cells.map .int)) (hz : cells.length ≤ 48) (hat : at_ < many) (hm : many ≤ 4) (q : ∀ t (p : Piece) φ' (a' : Nat) st', Le φ φ' → Tup φ' t p.tup → p.ok many → p.opk → Q (.ref t) φ' (upd σ dk (.sdict (deckL cl a' st')))), CW w H0 (n+2) (.ref 673) [.ref dk, .int at_, .int many] φ σ Q := by
  apply @Mine.hk6; generalize ca1 (cx _) = n, ca2 (cx _) = φ, ca3 (cx _) = σ, ca4 (cx _) = Q, ca5 (cx _) = dk, cz6 (cx _) = cl
  apply @Mine.hk5; generalize ca1 (cx _) = a, ca2 (cx _) = at_, ca3 (cx _) = many, ca4 (cx _) = st, cz5 (cx _) = cells
  intro R hd hcl hz hat hm q
  refine CW.code R (k673 R) (b673_3 R) (bk_of rfl) (X_cons ?_)
  repeat (first | walk_at "zm" | walk_at "zw")
  refine cw666 R hd hcl hz (by decide) ?_
  (apply @Mine.hk4; generalize ca1 (cx _) = φ1, ca2 (cx _) = a1, ca3 (cx _) = st1, cz4 (cx _) = kind)
  intro l1 hk
  have hd1 := upd_same σ dk (C.sdict (deckL cl a1 st1))
  have hcl1 := hcl.le l1
  refine A_local rfl ?_
  repeat (first | walk_at "zm" | walk_at "zw")
  refine And.intro (fun h => ?_) (fun h => ?_)
  ·
    have h5 : kind < 5 := by have := of_decide_eq_true h; lia
    repeat (first | walk_at "zm" | walk_at "zw")
    refine E_tuple ?_
    repeat (first | walk_at "zm" | walk_at "zw")
    refine E_tuple ?_
    repeat (first | walk_at "zm" | walk_at "zw")
    refine And.intro (by simp) ?_
    (apply @Mine.hk2; generalize ca1 (cx _) = t, cz2 (cx _) = φ2)
    intro e1 e2 l2 ht
    repeat (first | walk_at "zm" | walk_at "zw")
    (with_reducible refine I_tupc ?_ ?_); (intro _; with_unfolding_all rfl)
    have hv : ∃ b : Array UInt8, ([V.bytes [110, 101, 103].toArray, V.bytes [97, 98, 115].toArray, V.bytes [113].toArray, V.bytes [122, 122].toArray, V.bytes [121, 121].toArray])[kind]? = some (V.bytes b) := by
      have : kind = 0 ∨ kind = 1 ∨ kind = 2 ∨ kind = 3 ∨ kind = 4 := by lia
      rcases this with rfl | rfl | rfl | rfl | rfl <;> exact ⟨_, rfl⟩
    have hEx := hv
    (refine Exists.elim hEx ?_; clear hEx; apply @Mine.hk; generalize cx _ = b; intro hEx)
    have hv := hEx
    refine ⟨_, .bytes b, ht, by lia, by lia, by simpa using hv, ?_⟩
    repeat (first | walk_at "zm" | walk_at "zw")
    refine And.intro (by simp) ?_
    (apply @Mine.hk2; generalize ca1 (cx _) = t2, cz2 (cx _) = φ3)
    intro e1 e2 l3 ht2
    exact q t2 (.name b) φ3 a1 st1 (l1.trans (l2.trans l3)) ht2 trivial trivial
  ·
    have h5 : 5 ≤ kind := by have := of_decide_eq_false h; lia
    repeat (first | walk_at "zm" | walk_at "zw")
    refine And.intro (fun h => ?_) (fun h => ?_)
    ·
      have h8 : kind < 8 := by have := of_decide_eq_true h; lia
      repeat (first | walk_at "zm" | walk_at "zw")
      refine E_list ?_
      repeat (first | walk_at "zm" | walk_at "zw")
      refine E_tuple ?_
      repeat (first | walk_at "zm" | walk_at "zw")
      refine E_tuple ?_
      repeat (first | walk_at "zm" | walk_at "zw")
      refine And.intro (by simp) ?_
      (apply @Mine.hk2; generalize ca1 (cx _) = t, cz2 (cx _) = φ2)
      intro e1 e2 l2 ht
      repeat (first | walk_at "zm" | walk_at "zw")
      refine O_modI (by decide) ?_
      (with_reducible refine I_tupc ?_ ?_); (intro _; with_unfolding_all rfl)
      have hmod : (at_ : Int).fmod 2 = ((at_ % 2 : Nat) : Int) := by
        rw [Int.fmod_eq_emod_of_nonneg _ (by decide)]; lia
      have hv : ∃ b : Array UInt8, (b = absB ∨ b = negB) ∧ ([V.bytes [110, 101, 103].toArray, V.bytes [97, 98, 115].toArray])[at_ % 2]? = some (V.bytes b) := by
        have : at_ % 2 = 0 ∨ at_ % 2 = 1 := by lia
        rcases this with e | e <;> rw [e]
        ·
          exact ⟨_, .inr rfl, rfl⟩
        ·
          exact ⟨_, .inl rfl, rfl⟩
      have hEx := hv
      (refine Exists.elim hEx ?_; clear hEx; apply @Mine.hk; generalize cx _ = b; intro hEx)
      obtain ⟨hb, hv⟩ := hEx
      refine ⟨_, .bytes b, ht, by rw [hmod]; lia, by rw [hmod]; lia, by rw [hmod, Int.toNat_natCast]; exact hv, ?_⟩
      repeat (first | walk_at "zm" | walk_at "zw")
      refine And.intro (by simp) ?_
      (apply @Mine.hk2; generalize ca1 (cx _) = t1, cz2 (cx _) = φ3)
      intro e1 e2 l3 ht1
      repeat (first | walk_at "zm" | walk_at "zw")
      refine E_tuple ?_
      repeat (first | walk_at "zm" | walk_at "zw")
      refine And.intro (by simp) ?_
      (apply @Mine.hk2; generalize ca1 (cx _) = t2, cz2 (cx _) = φ4)
      intro e1 e2 l4 ht2
      repeat (first | walk_at "zm" | walk_at "zw")
      refine E_tuple ?_
      repeat (first | walk_at "zm" | walk_at "zw")
      refine And.intro (by simp) ?_
      (apply @Mine.hk2; generalize ca1 (cx _) = t3, cz2 (cx _) = φ5)
      intro e1 e2 l5 ht3
      repeat (first | walk_at "zm" | walk_at "zw")
      refine And.intro (by simp) ?_
      (apply @Mine.hk; generalize cx _ = ll)
      intro e1 e2
      refine W.freezeL e1 ?_
      (apply @Mine.hk; generalize cx _ = φ6)
      intro l6 hl6
      repeat (first | walk_at "zm" | walk_at "zw")
      refine O_subI ?_
      (with_reducible refine I_listc ?_ ?_); (intro _; with_unfolding_all rfl)
      have hk3 : kind = 5 ∨ kind = 6 ∨ kind = 7 := by lia
      have ls := l1.trans (l2.trans (l3.trans (l4.trans (l5.trans l6))))
      rcases hk3 with rfl | rfl | rfl
      ·
        exact ⟨_, .ref t1, .inr hl6, by decide, by decide, rfl, q t1 (.op b) φ6 a1 st1 ls (ht1.le (l4.trans (l5.trans l6))) trivial hb⟩
      ·
        exact ⟨_, .ref t2, .inr hl6, by decide, by decide, rfl, q t2 (.int (6 + at_)) φ6 a1 st1 ls (ht2.le (l5.trans l6)) trivial trivial⟩
      ·
        exact ⟨_, .ref t3, .inr hl6, by decide, by decide, rfl, q t3 (.lit _) φ6 a1 st1 ls (ht3.le l6) trivial trivial⟩
    ·
      have h8 : 8 ≤ kind := by have := of_decide_eq_false h; lia
      repeat (first | walk_at "zm" | walk_at "zw")
      refine O_mulI (IntMulOk.of_left (by decide)) ?_
      repeat (first | walk_at "zm" | walk_at "zw")
      have e2m : (2 : Int) * (many : Int) = ((2 * many : Nat) : Int) := by lia
      rw [e2m]
      refine cw666 R hd1 hcl1 hz (by lia) ?_
      (apply @Mine.hk4; generalize ca1 (cx _) = φ2, ca2 (cx _) = a2, ca3 (cx _) = st2, cz4 (cx _) = pick)
      intro l2 hp
      rw [upd_upd]
      have hd2 := upd_same σ dk (C.sdict (deckL cl a2 st2))
      have hcl2 := hcl1.le l2
      refine A_local rfl ?_
      have fin : ∀ (g : Nat), g ≤ many → XW w H0 d673.scope (n + 1) (bodyOf (stT 55)).tail.tail.tail.tail.tail (setL (setL (setL (ofL [("deck", .ref dk), ("at", .int at_), ("many", .int many)] noLo) "kind" (.int kind)) "pick" (.int pick)) "goal" (.int g)) φ2 (upd σ dk (.sdict (deckL cl a2 st2))) fun fl _ φ σ => Q (FlV fl) φ σ := by
        (apply @Mine.hk; generalize cx _ = g)
        intro hg
        refine X_cons ?_
        repeat (first | walk_at "zm" | walk_at "zw")
        refine And.intro (fun h => ?_) (fun h => ?_)
        ·
          repeat (first | walk_at "zm" | walk_at "zw")
          refine E_tuple ?_
          repeat (first | walk_at "zm" | walk_at "zw")
          refine And.intro (by simp) ?_
          (apply @Mine.hk2; generalize ca1 (cx _) = t, cz2 (cx _) = φ3)
          intro e1 e2 l3 ht
          exact q t (.int pick) φ3 a2 st2 (l1.trans (l2.trans l3)) ht trivial trivial
        ·
          have hgm : g < many := by
            have : (g : Int) ≠ many := by intro e; rw [e] at h; simp at h
            lia
          repeat (first | walk_at "zm" | walk_at "zw")
          refine And.intro (fun h => ?_) (fun h => ?_)
          ·
            refine E_tuple ?_
            repeat (first | walk_at "zm" | walk_at "zw")
            refine And.intro (by simp) ?_
            (apply @Mine.hk2; generalize ca1 (cx _) = t, cz2 (cx _) = φ3)
            intro e1 e2 l3 ht
            exact q t (.row g) φ3 a2 st2 (l1.trans (l2.trans l3)) ht hgm trivial
          ·
            refine E_tuple ?_
            repeat (first | walk_at "zm" | walk_at "zw")
            refine cw666 (below := 3) R hd2 hcl2 hz (by decide) ?_
            (apply @Mine.hk4; generalize ca1 (cx _) = φ3, ca2 (cx _) = a3, ca3 (cx _) = st3, cz4 (cx _) = way)
            intro l3 hw
            rw [upd_upd]
            repeat (first | walk_at "zm" | walk_at "zw")
            refine And.intro (by simp) ?_
            (apply @Mine.hk2; generalize ca1 (cx _) = t, cz2 (cx _) = φ4)
            intro e1 e2 l4 ht
            exact q t (.proc g way) φ4 a3 st3 (l1.trans (l2.trans (l3.trans l4))) ht ⟨hgm, by lia⟩ trivial
      repeat (first | walk_at "zm" | walk_at "zw")
      refine And.intro (fun h => ?_) (fun h => ?_)
      ·
        have : pick < many := by have := of_decide_eq_true h; lia
        first | ((with_reducible refine Ne_l (v := ?_) ?_ ?_ ?_ ?_); rotate_left; rfl; rfl; (first | rfl | assumption)) | ((with_reducible refine Ne_c (v := ?_) ?_ ?_ ?_ ?_); rotate_left; rfl; rfl; (first | rfl | assumption)) | ((with_reducible refine Ne_f (v := ?_) ?_ ?_ ?_ ?_ ?_); rotate_left; rfl; rfl; rfl; (first | rfl | assumption))
        refine A_local rfl ?_
        exact fin pick (by lia)
      ·
        (with_reducible refine E_binop ?_)
        first | ((with_reducible refine Ne_l (v := ?_) ?_ ?_ ?_ ?_); rotate_left; rfl; rfl; (first | rfl | assumption)) | ((with_reducible refine Ne_c (v := ?_) ?_ ?_ ?_ ?_); rotate_left; rfl; rfl; (first | rfl | assumption)) | ((with_reducible refine Ne_f (v := ?_) ?_ ?_ ?_ ?_ ?_); rotate_left; rfl; rfl; rfl; (first | rfl | assumption))
        (with_reducible refine E_int ?_)
        (with_reducible refine O_addI ?_)
        refine A_local rfl ?_
        exact fin (at_ + 1) (by lia)
end
section
variable {n : Nat} {φ : Ph} {σ : Sg} {Q : V → Ph → Sg → Prop}
inductive All2 {α β : Type} (P : α → β → Prop) : List α → List β → Prop where
  | nil : All2 P [] []
  | cons {a : α} {b : β} {as bs} : P a b → All2 P as bs → All2 P (a :: as) (b :: bs)
section
variable {α β : Type} {P P' : α → β → Prop}
theorem All2.len {as : List α} {bs : List β} (h : All2 P as bs) : as.length = bs.length := by
  induction h with
  | nil => rfl
  | cons _ _ ih => simp [ih]
theorem All2.mono {as : List α} {bs : List β} (h : All2 P as bs) (hp : ∀ a b, P a b → P' a b) : All2 P' as bs := by
  induction h with
  | nil => exact .nil
  | cons h _ ih => exact .cons (hp _ _ h) ih
theorem All2.get {as : List α} {bs : List β} (h : All2 P as bs) : ∀ {i : Nat} {a : α}, as[i]? = some a → ∃ b, bs[i]? = some b ∧ P a b := by
  induction h with
  | nil => intro i a h; simp at h
  | cons h _ ih =>
    intro i a e
    cases i with
    | zero => simp at e; subst e; exact ⟨_, rfl, h⟩
    | succ i => simp at e; simpa using ih e
theorem All2.get2 {as : List α} {bs : List β} (h : All2 P as bs) : ∀ {i : Nat} {b : β}, bs[i]? = some b → ∃ a, as[i]? = some a ∧ P a b := by
  induction h with
  | nil => intro i a h; simp at h
  | cons h _ ih =>
    intro i a e
    cases i with
    | zero => simp at e; subst e; exact ⟨_, rfl, h⟩
    | succ i => simp at e; simpa using ih e
theorem All2.snoc {as : List α} {bs : List β} (h : All2 P as bs) {a : α} {b : β} (hp : P a b) : All2 P (as ++ [a]) (bs ++ [b]) := by
  induction h with
  | nil => exact .cons hp .nil
  | cons h _ ih => exact .cons h ih
theorem All2.of_get : ∀ {as : List α} {bs : List β}, as.length = bs.length → (∀ (i : Nat) a b, as[i]? = some a → bs[i]? = some b → P a b) → All2 P as bs
  | [], [], _, _ => .nil
  | [], _ :: _, h, _ => by simp at h
  | _ :: _, [], h, _ => by simp at h
  | a :: as, b :: bs, h, hp => .cons (hp 0 a b rfl rfl) (All2.of_get (by simpa using h) fun i x y hx hy => hp (i + 1) x y (by simpa using hx) (by simpa using hy))
end
inductive LotAt (φ : Ph) (la : Addr) (ps : List Piece) : Prop
  | mk (ts : List Addr) (h1 : LstP φ la (ts.map .ref)) (h2 : All2 (fun t (p : Piece) => Tup φ t p.tup) ts ps) : LotAt φ la ps
inductive LotsAt (φ : Ph) (ll : Addr) (lots : List (List Piece)) : Prop
  | mk (las : List Addr) (h1 : LstP φ ll (las.map .ref)) (h2 : All2 (LotAt φ) las lots) : LotsAt φ ll lots
theorem LotAt.le {φ φ' : Ph} (l : Le φ φ') {la : Addr} {ps : List Piece} (h : LotAt φ la ps) : LotAt φ' la ps := by obtain ⟨ts, h1, h2⟩ := h; exact ⟨ts, h1.le l, h2.mono fun _ _ h => h.le l⟩
theorem LotsAt.le {φ φ' : Ph} (l : Le φ φ') {ll : Addr} {lots : List (List Piece)} (h : LotsAt φ ll lots) : LotsAt φ' ll lots := by obtain ⟨ts, h1, h2⟩ := h; exact ⟨ts, h1.le l, h2.mono fun _ _ h => h.le l⟩
structure Lots (lots : List (List Piece)) : Prop where
  small : lots.length ≤ 4
  each : ∀ ps ∈ lots, ps.length ≤ 4 ∧ ∀ p ∈ ps, p.ok lots.length ∧ p.opk
inductive MemAt (σ : Sg) (d lim sv md jr fz : Addr) (la : Nat) : Prop
  | mk (u : Int) (xs : List (Scal × V)) (h1 : σ d = some (.ns (memLo lim sv md jr fz u la) 10)) (h2 : σ md = some (.sdict xs)) (h3 : xs.length ≤ la ∧ u ≤ 32 * la) : MemAt σ d lim sv md jr fz la
section
variable {x d lim sv md jr fz : Addr}
theorem MemAt.keep {σ σ' : Sg} {la : Nat} (h : MemAt σ d lim sv md jr fz la) (h1 : σ' d = σ d) (h2 : σ' md = σ md) : MemAt σ' d lim sv md jr fz la :=
  by obtain ⟨u, xs, a, b, c⟩ := h; exact ⟨u, xs, h1.trans a, h2.trans b, c⟩
theorem mk_row : ∀ {n : Nat} {φ : Ph} {σ : Sg} {Q : V → Ph → Sg → Prop} {x : Addr} {d : Addr} {lim : Addr} {sv : Addr} {md : Addr} {jr : Addr} {fz : Addr} {many la : Nat} (R : Rt w H0) (M : Mem φ x d lim sv md) (hs : MemAt σ d lim sv md jr fz la) (hla : la ≤ 50) (hm : many ≤ 4) (q : ∀ r l t φ' σ', Le φ φ' → MemAt σ' d lim sv md jr fz (la + 1) → σ' l = some (.list (List.replicate many (.ref t))) → σ l = none → φ l = none → φ r = none → Rwi φ' r ((la + 1 : Nat) : Int) l → (∀ a, a ≠ d → a ≠ md → a ≠ l → σ' a = σ a) → Q (.ref r) φ' σ'),
    CW w H0 (n+7) (.ref 451) [.ref x, .int many] φ σ Q := by
  apply @Mine.hk6; generalize ca1 (cx _) = n, ca2 (cx _) = φ, ca3 (cx _) = σ, ca4 (cx _) = Q, ca5 (cx _) = x, cz6 (cx _) = d
  apply @Mine.hk6; generalize ca1 (cx _) = lim, ca2 (cx _) = sv, ca3 (cx _) = md, ca4 (cx _) = jr, ca5 (cx _) = fz, cz6 (cx _) = many
  apply @Mine.hk; generalize cx _ = la
  intro R M hs hla hm q
  obtain ⟨u, xs, h1, h2, h3, h4⟩ := hs
  refine cw451_i R M h1 h2 (by decide) (by lia) (by lia) (by lia) fun r l t φ' xs' l' hx e1 e2 e3 n1 n2 hr => ?_
  refine q r l t φ' _ l' ⟨u + 8 * many, xs', ?_, ?_, by lia, by lia⟩ (upd_same _ _ _) e1 e2 e3 hr fun a a1 a2 a3 => ?_
  · rw [upd_other (Ne.symm n1), upd_same]; rfl
  · rw [upd_other (Ne.symm n2), upd_other M.ne.symm, upd_same]
  · rw [upd_other a3, upd_other a1, upd_other a2]
end
section
variable {sc : Scope} {ρ : Lo}
theorem Lp_t {es : List PySem.Expr} {kk : Nat} {pos : Pos} {body : List Stmt} {ls : List V} {is : List Itm} {Q : Fl → Lo → Ph → Sg → Prop} (hs : es.all noStar = true) (hl : es.length = ls.length)
    (h : AL w H0 sc n es ls ρ φ σ (BdK w H0 sc n body (LoopK φ (fun ρ2 φ2 σ2 => Lp w H0 sc n (.Tuple es kk pos) body is ρ2 φ2 σ2 Q) Q))) : Lp w H0 sc n (.Tuple es kk pos) body (.t ls :: is) ρ φ σ Q := ⟨_, _, _, rfl, hs, hl, h⟩
end
end
section
variable {n : Nat} {φ : Ph} {σ : Sg} {Q : V → Ph → Sg → Prop}
theorem b692_2 (R : Rt w H0) {v0 v1 : V} : Bind H0 d692 [v0, v1] [("memory", v0), ("lots", v1)] := by
  intro s xs hx root
  refine VRs.consE hx fun _ _ h0 hx => ?_; refine VRs.consE hx fun _ _ h1 hx => ?_; refine VRs.nilE hx ?_; exact ⟨_, .cons h0 (.cons h1 .nil), BindsTo.of_eq rfl⟩
noncomputable def forB : Stmt → List Stmt
  | .For _ _ b _ _ => b
  | _ => []
noncomputable def forT : Stmt → PySem.Expr
  | .For t _ _ _ _ => t
  | _ => default
noncomputable def madeO : Stmt := (bodyOf (stT 58)).getD 1 (.Pass default)
noncomputable def madeI : Stmt := (forB madeO).getD 0 (.Pass default)
structure RowI where
  r : Addr
  l : Addr
  m : Nat
theorem neRowI : Nonempty RowI := ⟨⟨default, default, 0⟩⟩
noncomputable def RowI.rs (rows : List RowI) : List (Addr × Nat) := rows.map fun x => (x.r, x.m)
noncomputable def RowsL (φ : Ph) (σ : Sg) (rows : List RowI) : Prop := ∀ (g : Nat) x, rows[g]? = some x → ∃ vs, Rwi φ x.r ((g + 1 : Nat) : Int) x.l ∧ σ x.l = some (.list vs) ∧ vs.length = x.m ∧ x.m ≤ 4
theorem RowsL.at : ∀ {φ : Ph} {σ : Sg} {rows : List RowI} (h : RowsL φ σ rows), RowsAt φ σ (RowI.rs rows) := by
  apply @Mine.hk3; generalize ca1 (cx _) = φ, ca2 (cx _) = σ, cz3 (cx _) = rows
  intro h
  intro g r m e
  unfold RowI.rs at e
  rw [List.getElem?_map] at e
  obtain ⟨x, e1, e2⟩ := Option.map_eq_some_iff.mp e
  cases e2
  obtain ⟨vs, h1, h2, h3, h4⟩ := h g x e1
  exact ⟨_, x.l, vs, h1, .inl h2, h3, by lia⟩
theorem RowsL.step : ∀ {φ : Ph} {σ : Sg} {rows : List RowI} {φ' : Ph} {a : Addr} {vs : List V} {vs' : List V} (h : RowsL φ σ rows) (l : Le φ φ') (ha : σ a = some (.list vs)) (hl : vs'.length = vs.length), RowsL φ' (upd σ a (.list vs')) rows := by
  apply @Mine.hk6; generalize ca1 (cx _) = φ, ca2 (cx _) = σ, ca3 (cx _) = rows, ca4 (cx _) = φ', ca5 (cx _) = a, cz6 (cx _) = vs
  apply @Mine.hk; generalize cx _ = vs'
  intro h l ha hl
  intro g x e
  obtain ⟨us, h1, h2, h3, h4⟩ := h g x e
  by_cases q : x.l = a
  · rw [q] at h2; rw [ha] at h2; cases h2
    exact ⟨vs', h1.le l, by rw [q]; exact upd_same _ _ _, by lia, h4⟩
  · exact ⟨us, h1.le l, by rw [upd_other q]; exact h2, h3, h4⟩
section
variable {x d lim sv md jr fz : Addr} {la : Nat}
theorem made_in : ∀ {n : Nat} {x : Addr} {d : Addr} {lim : Addr} {sv : Addr} {md : Addr} {jr : Addr} {fz : Addr} {la : Nat} {rows : List RowI} {rl r l : Addr} {num : Int} (R : Rt w H0), ∀ {ts : List Addr} {ps : List Piece} {j : Nat} {xs : List Addr} {qs : List Piece} {vs : List V} {ρ : Lo} {φ : Ph} {σ : Sg} {Q : Fl → Lo → Ph → Sg → Prop},
    Mem φ x d lim sv md → MemAt σ d lim sv md jr fz la → l ≠ d → l ≠ md → LstP φ rl ((RowI.rs rows).map fun r => V.ref r.1) → rows.length ≤ 4 → RowsL φ σ rows →
    Rwi φ r num l → σ l = some (.list (xs.map V.ref ++ vs)) → xs.length = j → vs.length = ts.length → j + ts.length ≤ 4 → All2 (PThing φ (RowI.rs rows)) qs xs → All2 (fun t (p : Piece) => Tup φ t p.tup) ts ps → (∀ p ∈ ps, p.ok rows.length) →
    ρ "rows" = some (.ref rl) → ρ "memory" = some (.ref x) → ρ "row" = some (.ref r) →
    (∀ ρ' φ' xs', Le φ φ' → ρ' "rows" = some (.ref rl) → ρ' "memory" = some (.ref x) → ρ' "row" = some (.ref r) → All2 (PThing φ' (RowI.rs rows)) (qs ++ ps) xs' → Q .next ρ' φ' (upd σ l (.list (xs'.map .ref)))) →
    Lp w H0 d692.scope (n+7) (forT madeI) (forB madeI) ((enumV j (ts.map .ref)).map .t) ρ φ σ Q := by
  apply @Mine.hk6; generalize ca1 (cx _) = n, ca2 (cx _) = x, ca3 (cx _) = d, ca4 (cx _) = lim, ca5 (cx _) = sv, cz6 (cx _) = md
  apply @Mine.hk6; generalize ca1 (cx _) = jr, ca2 (cx _) = fz, ca3 (cx _) = la, ca4 (cx _) = rows, ca5 (cx _) = rl, cz6 (cx _) = r
  apply @Mine.hk2; generalize ca1 (cx _) = l, cz2 (cx _) = num
  intro R
  intro ts
  induction ts with
  | nil =>
    intro ps j xs qs vs ρ φ σ Q M hs n1 n2 hrl hn hR hr hl hj hv hz hq ht hp e1 e2 e3 q
    cases ht
    have : vs = [] := List.eq_nil_of_length_eq_zero (by simpa using hv)
    subst this
    have := q ρ φ xs (.refl _) e1 e2 e3 (by simpa using hq)
    have eq : upd σ l (.list (xs.map .ref)) = σ := by
      funext b
      by_cases hb : b = l
      · subst hb; rw [upd_same, hl]; simp
      · rw [upd_other hb]
    rw [eq] at this
    exact this
  | cons t ts ih =>
    intro ps j xs qs vs ρ φ σ Q M hs n1 n2 hrl hn hR hr hl hj hv hz hq ht hp e1 e2 e3 q
    cases ht with
    | @cons _ p _ ps ht hts =>
    cases vs with
    | nil => simp at hv
    | cons v0 vs =>
    have hlt : j < (xs.map V.ref ++ v0 :: vs).length := by simp; lia
    have hlen : (xs.map V.ref ++ v0 :: vs).length = j + (ts.length + 1) := by simp at hv ⊢; lia
    simp only [List.length_cons] at hz
    obtain ⟨u, kxs, hd, hm, hx, hu⟩ := id hs
    refine Lp_t rfl rfl ?_
    refine A_local rfl (A_local rfl ?_)
    refine X_cons ?_
    repeat (first | walk_at "zm" | walk_at "zw")
    have hrs : (RowI.rs rows).length = rows.length := by simp [RowI.rs]
    refine cw680 R hrl (by lia) hR.at ht (by rw [hrs]; exact hp p (.head _)) fun y φ1 l1 hy => ?_
    have M1 := M.le l1
    have hr1 := hr.le l1
    repeat (first | walk_at "zm" | walk_at "zw")
    refine cw493 R M1 hd hr1 hl hlt (by lia) fun φ2 l2 => ?_
    refine And.intro rfl ?_
    repeat (first | walk_at "zm" | walk_at "zw")
    have ls := l1.trans l2
    refine ⟨ls, ?_⟩
    have hset : (xs.map V.ref ++ v0 :: vs).set j (.ref y) = (xs ++ [y]).map V.ref ++ vs := by
      have : j = (xs.map V.ref).length := by simpa using hj.symm
      rw [this]; simp
    rw [hset]
    refine ih (xs := xs ++ [y]) (qs := qs ++ [p]) (M.le ls) (hs.keep (upd_other (Ne.symm n1)) (upd_other (Ne.symm n2))) n1 n2 (hrl.le ls) hn (hR.step ls hl (by rw [← hset]; simp)) (hr.le ls) (upd_same _ _ _) (by simp [hj]) (by simpa using hv) (by lia) ((hq.mono fun _ _ h => h.le ls).snoc (hy.le l2)) (hts.mono fun _ _ h => h.le ls) (fun p hp' => hp p (.tail _ hp')) e1 e2 e3 fun ρ' φ' xs' l' a1 a2 a3 a4 => ?_
    rw [upd_upd]
    exact q ρ' φ' xs' (ls.trans l') a1 a2 a3 (by simpa using a4)
structure LotI where
  x : RowI
  la : Addr
  ts : List Addr
  ps : List Piece
theorem made_out : ∀ {n : Nat} {x : Addr} {d : Addr} {lim : Addr} {sv : Addr} {md : Addr} {jr : Addr} {fz : Addr} {la : Nat} {rows : List RowI} {rl : Addr} (R : Rt w H0), ∀ {ks : List LotI} {ρ : Lo} {φ : Ph} {σ : Sg} {Q : Fl → Lo → Ph → Sg → Prop},
    Mem φ x d lim sv md → MemAt σ d lim sv md jr fz la → LstP φ rl ((RowI.rs rows).map fun r => V.ref r.1) → rows.length ≤ 4 → RowsL φ σ rows →
    (∀ k ∈ ks, k.x.l ≠ d ∧ k.x.l ≠ md ∧ (∃ vs, σ k.x.l = some (.list vs) ∧ vs.length = k.ts.length) ∧ (∃ num, Rwi φ k.x.r num k.x.l) ∧ LstP φ k.la (k.ts.map .ref) ∧ All2 (fun t (p : Piece) => Tup φ t p.tup) k.ts k.ps ∧ k.ts.length ≤ 4 ∧ ∀ p ∈ k.ps, p.ok rows.length) →
    (ks.map fun k => k.x.l).Nodup →
    ρ "rows" = some (.ref rl) → ρ "memory" = some (.ref x) →
    (∀ ρ' φ' σ', Le φ φ' → ρ' "rows" = some (.ref rl) → (∀ a, a ∉ ks.map (fun k => k.x.l) → σ' a = σ a) → (∀ k ∈ ks, ∃ xs : List Addr, σ' k.x.l = some (.list (xs.map .ref)) ∧ All2 (PThing φ' (RowI.rs rows)) k.ps xs) → Q .next ρ' φ' σ') →
    Lp w H0 d692.scope (n+7) (forT madeO) (forB madeO) ((ks.map fun k => [V.ref k.x.r, V.ref k.la]).map .t) ρ φ σ Q := by
  apply @Mine.hk6; generalize ca1 (cx _) = n, ca2 (cx _) = x, ca3 (cx _) = d, ca4 (cx _) = lim, ca5 (cx _) = sv, cz6 (cx _) = md
  apply @Mine.hk5; generalize ca1 (cx _) = jr, ca2 (cx _) = fz, ca3 (cx _) = la, ca4 (cx _) = rows, cz5 (cx _) = rl
  intro R
  intro ks
  induction ks with
  | nil =>
    intro ρ φ σ Q M hs hrl hn hR hk nd e1 e2 q
    exact q ρ φ σ (.refl _) e1 (fun a _ => rfl) fun k hk => (nomatch hk)
  | cons k ks ih =>
    intro ρ φ σ Q M hs hrl hn hR hk nd e1 e2 q
    obtain ⟨n1, n2, ⟨vs, hl, hvl⟩, ⟨num, hr⟩, hla, htp, hz, hp⟩ := hk k (.head _)
    rw [List.map_cons, List.nodup_cons] at nd
    refine Lp_t rfl rfl ?_
    refine A_local rfl (A_local rfl ?_)
    refine X_cons ?_
    refine S_for (fun _ _ => rfl) (It_enum ?_)
    repeat (first | walk_at "zm" | walk_at "zw")
    refine B_enum hla fun ea it σ1 s1 s2 p1 p2 hE hot => ?_
    refine ⟨ea, it, k.la, k.ts.map .ref, σ, rfl, hE, fun a c e => ?_, s1, s2, hla, ?_⟩
    · rw [hot a (fun q => by subst q; rw [s1] at e; cases e) (fun q => by subst q; rw [s2] at e; cases e)]; exact e
    refine made_in (xs := []) (qs := []) (vs := vs) R M hs n1 n2 hrl hn hR hr (by simpa using hl) rfl hvl (by lia) .nil htp hp e1 e2 rfl fun ρ' φ' xs' l' a1 a2 a3 a4 => ?_
    refine X_nil ?_
    refine ⟨l', ?_⟩
    have hne : ∀ k' ∈ ks, k'.x.l ≠ k.x.l := fun k' hk' e => nd.1 (List.mem_map.mpr ⟨k', hk', e⟩)
    have hlen : xs'.length = k.ts.length := by rw [← a4.len, List.nil_append, htp.len]
    refine ih (M.le l') (hs.keep (upd_other (Ne.symm n1)) (upd_other (Ne.symm n2))) (hrl.le l') hn (hR.step l' hl (by rw [List.length_map, hlen, hvl])) (fun k' hk' => ?_) nd.2 a1 a2 fun ρ2 φ2 σ2 l2 b1 b2 b3 => ?_
    · obtain ⟨c1, c2, ⟨us, c3, c4⟩, ⟨num', c5⟩, c6, c7, c8, c9⟩ := hk k' (.tail _ hk')
      exact ⟨c1, c2, ⟨us, by rw [upd_other (hne k' hk')]; exact c3, c4⟩, ⟨num', c5.le l'⟩, c6.le l', c7.mono fun _ _ h => h.le l', c8, c9⟩
    · refine q ρ2 φ2 σ2 (l'.trans l2) b1 (fun a ha => ?_) fun k' hk' => ?_
      · rw [List.map_cons, List.mem_cons, not_or] at ha
        rw [b2 a ha.2, upd_other ha.1]
      · rcases List.mem_cons.mp hk' with rfl | hk'
        · exact ⟨xs', by rw [b2 _ nd.1]; exact upd_same _ _ _, by simpa using a4.mono fun _ _ h => h.le l2⟩
        · exact b3 k' hk'
noncomputable def asE : Stmt → PySem.Expr
  | .Assign _ e _ => e
  | .Return (some e) _ => e
  | _ => default
noncomputable def cElt : PySem.Expr → PySem.Expr
  | .ListComp e _ _ _ => e
  | _ => default
noncomputable def cTgt : PySem.Expr → PySem.Expr
  | .ListComp _ [⟨t, _, _, _⟩] _ _ => t
  | _ => default
noncomputable def cIfs : PySem.Expr → List PySem.Expr
  | .ListComp _ [⟨_, _, i, _⟩] _ _ => i
  | _ => []
noncomputable def cSc : PySem.Expr → Scope
  | .ListComp _ _ s _ => s
  | _ => default
noncomputable def madeC : PySem.Expr := asE ((bodyOf (stT 58)).getD 0 (.Pass default))
theorem RowsL.snoc : ∀ {φ : Ph} {σ : Sg} {rows : List RowI} {φ' : Ph} {σ' : Sg} {y : RowI} {vs : List V} (h : RowsL φ σ rows) (l : Le φ φ') (hs : ∀ y ∈ rows, σ' y.l = σ y.l) (h1 : Rwi φ' y.r ((rows.length + 1 : Nat) : Int) y.l) (h2 : σ' y.l = some (.list vs)) (h3 : vs.length = y.m) (h4 : y.m ≤ 4), RowsL φ' σ' (rows ++ [y]) := by
  refine @Mine.hk6 _ _ _ _ _ _ _ _ _ _ _ neRowI _ ?_; generalize ca1 (cx _) = φ, ca2 (cx _) = σ, ca3 (cx _) = rows, ca4 (cx _) = φ', ca5 (cx _) = σ', cz6 (cx _) = y
  apply @Mine.hk; generalize cx _ = vs
  intro h l hs h1 h2 h3 h4
  intro g z e
  rcases Nat.lt_trichotomy g rows.length with hg | hg | hg
  · rw [List.getElem?_append_left hg] at e
    obtain ⟨us, a1, a2, a3, a4⟩ := h g z e
    exact ⟨us, a1.le l, by rw [hs z (List.mem_of_getElem? e)]; exact a2, a3, a4⟩
  · subst hg
    rw [List.getElem?_append_right (Nat.le_refl _)] at e
    simp at e; subst e
    exact ⟨vs, h1, h2, h3, h4⟩
  · rw [List.getElem?_eq_none (by simp; lia)] at e; cases e
theorem made_comp : ∀ {n : Nat} {x : Addr} {d : Addr} {lim : Addr} {sv : Addr} {md : Addr} {jr : Addr} {fz : Addr} {ρ : Lo} (R : Rt w H0) (e1 : ρ "memory" = some (.ref x)) (e2 : ρ "lot" = none), ∀ {as : List Addr} {lots : List (List Piece)} {rows : List RowI} {φ : Ph} {σ : Sg} {Q : List V → Ph → Sg → Prop},
    Mem φ x d lim sv md → MemAt σ d lim sv md jr fz rows.length → rows.length + as.length ≤ 4 → RowsL φ σ rows → (rows.map fun y => y.l).Nodup → (∀ y ∈ rows, y.l ≠ d ∧ y.l ≠ md) → All2 (LotAt φ) as lots → (∀ ps ∈ lots, ps.length ≤ 4) →
    (∀ φ' σ' rows', Le φ φ' → MemAt σ' d lim sv md jr fz rows'.length → RowsL φ' σ' rows' → rows'.map (fun y => y.m) = rows.map (fun y => y.m) ++ lots.map (fun ps => ps.length) → (rows'.map fun y => y.l).Nodup → (∀ y ∈ rows', y.l ≠ d ∧ y.l ≠ md) →
      (∀ a c, a ≠ d → a ≠ md → σ a = some c → σ' a = some c) → (∀ y ∈ rows', y ∈ rows ∨ σ y.l = none) → Q (rows'.map fun y => .ref y.r) φ' σ') →
    Lc w H0 (relab d692.scope (cSc madeC)) (n+7) (cTgt madeC) (cIfs madeC) (cElt madeC) ρ ((as.map V.ref).map .v) (rows.map fun y => .ref y.r) φ σ Q := by
  apply @Mine.hk6; generalize ca1 (cx _) = n, ca2 (cx _) = x, ca3 (cx _) = d, ca4 (cx _) = lim, ca5 (cx _) = sv, cz6 (cx _) = md
  apply @Mine.hk3; generalize ca1 (cx _) = jr, ca2 (cx _) = fz, cz3 (cx _) = ρ
  intro R e1 e2
  intro as
  induction as with
  | nil =>
    intro lots rows φ σ Q M hs hz hR nd hne hl hp q
    cases hl
    exact q φ σ rows (.refl _) hs hR (by simp) nd hne (fun _ _ _ _ h => h) fun _ h => .inl h
  | cons a as ih =>
    intro lots rows φ σ Q M hs hz hR nd hne hl hp q
    cases hl with
    | @cons _ ps _ lots ha has =>
    obtain ⟨ts, g1, g2⟩ := ha
    obtain ⟨u, kxs, hd, hm, hx, hu⟩ := id hs
    refine ⟨by simp at hz ⊢; lia, ?_⟩
    show AW _ _ _ _ _ _ _ _ _ _
    refine A_local rfl ?_
    refine ⟨fun _ => ?_, fun h => Bool.noConfusion h⟩
    refine E_methd rfl (fun _ => rfl) ?_
    repeat (first | walk_at "zm" | walk_at "zw")
    refine E_lenL (.inr g1) (by rw [List.length_map, g2.len]; have := hp ps (.head _); lia) ?_
    repeat (first | walk_at "zm" | walk_at "zw")
    rw [List.length_map, g2.len]
    have hps := hp ps (.head _)
    simp only [List.length_cons] at hz
    refine mk_row R M hs (by lia) hps fun r l t φ1 σ1 l1 hs1 c1 c2 c3 c4 c5 c6 => ?_
    refine ⟨Sub.set (.refl _) e2, l1, ?_⟩
    have keep : ∀ y ∈ rows, σ1 y.l = σ y.l := fun y hy => by
      obtain ⟨i, hi⟩ := List.mem_iff_getElem?.mp hy
      obtain ⟨us, _, b2, _⟩ := hR i y hi
      exact c6 _ (hne y hy).1 (hne y hy).2 fun e => by rw [e, c2] at b2; cases b2
    have hnl : ∀ y ∈ rows, y.l ≠ l := fun y hy e => by
      obtain ⟨i, hi⟩ := List.mem_iff_getElem?.mp hy
      obtain ⟨us, _, b2, _⟩ := hR i y hi
      rw [e, c2] at b2; cases b2
    have hld : l ≠ d := fun e => by rw [e, hd] at c2; cases c2
    have hlm : l ≠ md := fun e => by rw [e, hm] at c2; cases c2
    have ih' := ih (lots := lots) (rows := rows ++ [⟨r, l, ps.length⟩]) (φ := φ1) (σ := σ1) (Q := Q) (M.le l1) (by simpa using hs1) (by simp; lia) (hR.snoc l1 keep (y := ⟨r, l, ps.length⟩) c5 c1 (by simp) hps)
      (by rw [List.map_append, List.nodup_append]; exact ⟨nd, by simp, fun b hb c hc e => by
        simp at hc; subst hc e; obtain ⟨y, hy, rfl⟩ := List.mem_map.mp hb; exact hnl y hy rfl⟩)
      (fun y hy => by
        rcases List.mem_append.mp hy with hy | hy
        · exact hne y hy
        · simp at hy; subst hy; exact ⟨hld, hlm⟩)
      (has.mono fun _ _ h => h.le l1) (fun ps hps => hp ps (.tail _ hps)) fun φ' σ' rows' l' b1 b2 b3 b4 b5 b6 b7 => ?_
    · simpa using ih'
    · refine q φ' σ' rows' (l1.trans l') b1 b2 (by simpa using b3) b4 b5 (fun a c n1 n2 h => b6 a c n1 n2 ?_) fun y hy => ?_
      · rw [c6 a n1 n2 fun e => by rw [e, c2] at h; cases h]; exact h
      · rcases b7 y hy with h | h
        · rcases List.mem_append.mp h with h | h
          · exact .inl h
          · simp at h; subst h; exact .inr c2
        · right
          cases e : σ y.l with
          | none => rfl
          | some c =>
            have := b5 y hy
            have hkk := c6 y.l this.1 this.2 (fun e' => by rw [e', c2] at e; cases e)
            rw [hkk, e] at h; cases h
end
end
section
variable {n : Nat} {φ : Ph} {σ : Sg} {Q : V → Ph → Sg → Prop}
structure RowJ where
  r : Addr
  l : Addr
  ts : List Addr
theorem neRowJ : Nonempty RowJ := ⟨⟨default, default, []⟩⟩
noncomputable def RowJ.rs (rows : List RowJ) : List (Addr × Nat) := rows.map fun x => (x.r, x.ts.length)
structure WorldS (φ : Ph) (σ : Sg) (lots : List (List Piece)) (rows : List RowJ) : Prop where
  len : rows.length = lots.length
  row : ∀ (g : Nat) x, rows[g]? = some x → Rwi φ x.r ((g + 1 : Nat) : Int) x.l ∧ σ x.l = some (.list (x.ts.map .ref))
  things : All2 (fun (x : RowJ) ps => All2 (PThing φ (RowJ.rs rows)) ps x.ts) rows lots
  nd : (rows.map fun x => x.l).Nodup
section
variable {x d lim sv md jr fz : Addr}
theorem zipV_map {α : Type} (f g : α → V) : ∀ l : List α, zipV (l.map f) (l.map g) = l.map fun x => [f x, g x]
  | [] => rfl
  | x :: r => by simp [zipV, zipV_map f g r]
theorem All2.choose {α β : Type} {P : α → β → Prop} : ∀ {as : List α}, (∀ a ∈ as, ∃ b, P a b) → ∃ bs, All2 P as bs
  | [], _ => ⟨[], .nil⟩
  | a :: as, h => by obtain ⟨b, hb⟩ := h a (.head _); exact let ⟨bs, hbs⟩ := All2.choose (as := as) fun a ha => h a (.tail _ ha); ⟨b :: bs, .cons hb hbs⟩
theorem All2.map_eq {α β γ : Type} {P : α → β → Prop} {f : α → γ} {g : β → γ} {as : List α} {bs : List β} (h : All2 P as bs) (e : ∀ a ∈ as, ∀ b, P a b → f a = g b) : as.map f = bs.map g := by
  induction h with
  | nil => rfl
  | cons h _ ih => rw [List.map_cons, List.map_cons, e _ (.head _) _ h, ih fun a ha => e a (.tail _ ha)]
theorem All2.map_left {α β γ : Type} {P : γ → β → Prop} {f : α → γ} {as : List α} {bs : List β} (h : All2 (fun a b => P (f a) b) as bs) : All2 P (as.map f) bs := by
  induction h with
  | nil => exact .nil
  | cons h _ ih => exact .cons h ih
theorem All2.flip {α β : Type} {P : α → β → Prop} {as : List α} {bs : List β} (h : All2 P as bs) : All2 (fun b a => P a b) bs as := by
  induction h with
  | nil => exact .nil
  | cons h _ ih => exact .cons h ih
theorem All2.memL {α β : Type} {P : α → β → Prop} {as : List α} {bs : List β} (h : All2 P as bs) : ∀ a ∈ as, ∃ b ∈ bs, P a b := by
  induction h with
  | nil => intro a h; cases h
  | cons h _ ih =>
    intro a ha
    rcases List.mem_cons.mp ha with rfl | ha
    · exact ⟨_, .head _, h⟩
    · obtain ⟨b, hb, hp⟩ := ih a ha; exact ⟨b, .tail _ hb, hp⟩
noncomputable def lotIs : List RowI → List Addr → List (List Addr × List Piece) → List LotI
  | x :: xs, a :: as, (t, p) :: r => ⟨x, a, t, p⟩ :: lotIs xs as r
  | _, _, _ => []
theorem lots_tup {φ : Ph} : ∀ {as : List Addr} {lots : List (List Piece)}, All2 (LotAt φ) as lots → ∃ rest : List (List Addr × List Piece), rest.map (·.2) = lots ∧ All2 (fun a (p : List Addr × List Piece) => LstP φ a (p.1.map .ref) ∧ All2 (fun t (q : Piece) => Tup φ t q.tup) p.1 p.2) as rest
  | _, _, .nil => ⟨[], rfl, .nil⟩
  | _, _, .cons (b := ps) ⟨ts, h1, h2⟩ h => by obtain ⟨rest, e, g⟩ := lots_tup h; exact ⟨(ts, ps) :: rest, by simp [e], .cons ⟨h1, h2⟩ g⟩
theorem lotIs_facts : ∀ {xs : List RowI} {as : List Addr} {rest : List (List Addr × List Piece)}, xs.length = as.length → as.length = rest.length →
    (lotIs xs as rest).map (·.x) = xs ∧ (lotIs xs as rest).map (·.la) = as ∧ (lotIs xs as rest).map (fun k => (k.ts, k.ps)) = rest
  | [], [], [], _, _ => ⟨rfl, rfl, rfl⟩
  | x :: xs, a :: as, (t, p) :: r, h1, h2 => by
    have := lotIs_facts (xs := xs) (as := as) (rest := r) (by simpa using h1) (by simpa using h2)
    exact ⟨by simp [lotIs, this.1], by simp [lotIs, this.2.1], by simp [lotIs, this.2.2]⟩
  | [], _ :: _, _, h, _ => by simp at h
  | _ :: _, [], _, h, _ => by simp at h
  | _, [], _ :: _, _, h => by simp at h
  | _, _ :: _, [], _, h => by simp at h
theorem cw692 : ∀ {n : Nat} {φ : Ph} {σ : Sg} {Q : V → Ph → Sg → Prop} {x : Addr} {d : Addr} {lim : Addr} {sv : Addr} {md : Addr} {jr : Addr} {fz : Addr} {ll : Addr} {lots : List (List Piece)} (R : Rt w H0) (M : Mem φ x d lim sv md) (hs : MemAt σ d lim sv md jr fz 0) (hl : LotsAt φ ll lots) (hL : Lots lots) (q : ∀ rl rows φ' σ', Le φ φ' → LstP φ' rl (rows.map fun x => V.ref x.r) → WorldS φ' σ' lots rows → (∀ x ∈ rows, x.l ≠ d ∧ x.l ≠ md) → MemAt σ' d lim sv md jr fz lots.length → (∀ a c, a ≠ d → a ≠ md → σ a = some c → σ' a = some c) → Q (.ref rl) φ' σ'),
    CW w H0 (n+8) (.ref 692) [.ref x, .ref ll] φ σ Q := by
  apply @Mine.hk6; generalize ca1 (cx _) = n, ca2 (cx _) = φ, ca3 (cx _) = σ, ca4 (cx _) = Q, ca5 (cx _) = x, cz6 (cx _) = d
  apply @Mine.hk6; generalize ca1 (cx _) = lim, ca2 (cx _) = sv, ca3 (cx _) = md, ca4 (cx _) = jr, ca5 (cx _) = fz, cz6 (cx _) = ll
  apply @Mine.hk; generalize cx _ = lots
  intro R M hs hl hL q
  obtain ⟨as, h1, h2⟩ := hl
  have hlen := h2.len
  have hsm := hL.small
  refine CW.code R (k692 R) (b692_2 R) (bk_of rfl) (X_cons ?_)
  refine S_comp rfl (fun _ _ => rfl) (fun env h => by cases env; dsimp only at h; subst h; rfl) rfl (It_list ?_)
  repeat (first | walk_at "zm" | walk_at "zw")
  refine ⟨ll, as.map .ref, rfl, h1, .inl ⟨_, _, rfl⟩, ?_⟩
  refine made_comp R (rows := []) rfl rfl M hs (by simp; lia) (fun g y e => by simp at e) (by simp) (fun y hy => (nomatch hy)) h2 (fun ps hps => (hL.each ps hps).1) fun φ1 σ1 rows l1 hs1 hR hm nd hne hk hnew => ?_
  intro rl f1 f2
  refine W.freezeL f1 fun φ2 l2 hrl => ?_
  have hrl' : LstP φ2 rl ((RowI.rs rows).map fun r => V.ref r.1) := by
    rw [show ((RowI.rs rows).map fun r => V.ref r.1) = rows.map fun y => .ref y.r by simp [RowI.rs]]; exact hrl
  have hrlen : rows.length = lots.length := by
    have := congrArg List.length hm; simpa using this
  have hR2 : RowsL φ2 σ1 rows := fun g z e => by obtain ⟨vs, a1, a2⟩ := hR g z e; exact ⟨vs, a1.le l2, a2⟩
  obtain ⟨rest, r1, r2⟩ := lots_tup (h2.mono fun _ _ h => (h.le l1).le l2)
  have rlen : rest.length = lots.length := by rw [← r1]; simp
  obtain ⟨k1, k2, k3⟩ := lotIs_facts (xs := rows) (as := as) (rest := rest) (by lia) (by lia)
  refine X_cons ?_
  refine S_for (fun _ _ => rfl) (It_zip ?_)
  repeat (first | walk_at "zm" | walk_at "zw")
  have h1' := (h1.le l1).le l2
  refine B_zip hrl h1' fun z σ2 hz => ?_
  refine ⟨z, rl, ll, _, _, σ1, rfl, hz, hrl, h1', ?_⟩
  generalize hks : lotIs rows as rest = ks at *
  have e1 : (rows.map fun y => V.ref y.r) = ks.map fun k => V.ref k.x.r := by rw [← k1]; simp
  have e2 : (as.map V.ref) = ks.map fun k => V.ref k.la := by rw [← k2]; simp
  rw [e1, e2, zipV_map]
  have r3 : All2 (fun a (k : LotI) => LstP φ2 a (k.ts.map .ref) ∧ All2 (fun t (q : Piece) => Tup φ2 t q.tup) k.ts k.ps) as ks := by
    rw [← k3] at r2
    exact All2.of_get (by rw [← k2]; simp) fun i a k ha hk => by
        obtain ⟨b, g1, g2⟩ := r2.get ha
        rw [List.getElem?_map, hk] at g1
        cases g1; exact g2
  have kx : ∀ k ∈ ks, k.x ∈ rows := fun k hk => by rw [← k1]; exact List.mem_map.mpr ⟨k, hk, rfl⟩
  have kp : ∀ k ∈ ks, k.ps ∈ lots := fun k hk => by rw [← r1, ← k3]; simp only [List.map_map]; exact List.mem_map.mpr ⟨k, hk, rfl⟩
  have km : ∀ k ∈ ks, k.x.m = k.ps.length := by
    have : ks.map (fun k => k.x.m) = ks.map (fun k => k.ps.length) := by
      have h := hm
      rw [← k1, ← r1, ← k3] at h
      simpa using h
    exact List.map_inj_left.mp this
  have kf : ∀ k ∈ ks, LstP φ2 k.la (k.ts.map .ref) ∧ All2 (fun t (q : Piece) => Tup φ2 t q.tup) k.ts k.ps := fun k hk => by
    obtain ⟨i, hi⟩ := List.mem_iff_getElem?.mp hk
    obtain ⟨a, ga, gp⟩ := r3.get2 hi
    have : a = k.la := by
      rw [← k2, List.getElem?_map, hi] at ga; cases ga; rfl
    subst this; exact gp
  refine made_out R ((M.le l1).le l2) hs1 hrl' (by lia) hR2 (fun k hk => ?_) (by have := nd; rw [← k1, List.map_map] at this; exact this) rfl rfl fun ρ' φ3 σ3 l3 a1 a2 a3 => ?_
  · obtain ⟨c1, c2⟩ := hne _ (kx k hk)
    obtain ⟨i, hi⟩ := List.mem_iff_getElem?.mp (kx k hk)
    obtain ⟨vs, b1, b2, b3, b4⟩ := hR2 i _ hi
    obtain ⟨f1, f2⟩ := kf k hk
    have hz4 := (hL.each _ (kp k hk))
    exact ⟨c1, c2, ⟨vs, b2, by rw [b3, km k hk, f2.len]⟩, ⟨_, b1⟩, f1, f2, by rw [f2.len]; exact hz4.1, fun p hp => by rw [hrlen]; exact (hz4.2 p hp).1⟩
  · repeat (first | walk_at "zm" | walk_at "zw")
    obtain ⟨rj, hj⟩ := All2.choose (as := ks) (P := fun k (j : RowJ) => j.r = k.x.r ∧ j.l = k.x.l ∧ σ3 j.l = some (.list (j.ts.map .ref)) ∧ All2 (PThing φ3 (RowI.rs rows)) k.ps j.ts) fun k hk => by
      obtain ⟨xs, b1, b2⟩ := a3 k hk
      exact ⟨⟨k.x.r, k.x.l, xs⟩, rfl, rfl, b1, b2⟩
    have ers : RowJ.rs rj = RowI.rs rows := by
      unfold RowJ.rs RowI.rs
      rw [← k1, List.map_map]
      exact (hj.map_eq (f := fun k => (k.x.r, k.x.m)) (g := fun j : RowJ => (j.r, j.ts.length)) fun k hk j hPt => by obtain ⟨b1, b2, b3, b4⟩ := hPt; rw [b1, km k hk, b4.len]).symm
    have er : (rj.map fun x => V.ref x.r) = rows.map fun y => V.ref y.r := by
      rw [e1]; exact (hj.map_eq fun k hk j hPt => by obtain ⟨b1, _⟩ := hPt; rw [b1]).symm
    have el : (rj.map fun x => x.l) = rows.map fun y => y.l := by
      rw [← k1, List.map_map]
      exact (hj.map_eq (f := fun k => k.x.l) fun k hk j hPt => by obtain ⟨_, b2, _⟩ := hPt; exact b2.symm).symm
    have hjl : rj.length = lots.length := by have := congrArg List.length el; simp at this; lia
    have nin : ∀ a, (a = d ∨ a = md) → a ∉ ks.map (fun k => k.x.l) := fun a ha hm => by
      obtain ⟨k, hk, e⟩ := List.mem_map.mp hm
      have := hne _ (kx k hk)
      rcases ha with rfl | rfl
      · exact this.1 e
      · exact this.2 e
    refine q rl rj φ3 σ3 (l1.trans (l2.trans l3)) (by rw [er]; exact hrl.le l3) ⟨hjl, fun g y hy => ?_, ?_, by rw [el]; exact nd⟩ (fun y hy => ?_) (hrlen ▸ hs1.keep (a2 _ (nin d (.inl rfl))) (a2 _ (nin md (.inr rfl)))) fun a c n1 n2 h => ?_
    · obtain ⟨k, hk, b1, b2, b3, b4⟩ := hj.get2 hy
      have hx : rows[g]? = some k.x := by rw [← k1, List.getElem?_map, hk]; rfl
      obtain ⟨vs, c1, c2, _⟩ := hR2 g _ hx
      rw [b1, b2]
      exact ⟨c1.le l3, by rw [← b2]; exact b3⟩
    · rw [ers]
      refine All2.of_get hjl fun i y ps hy hps => ?_
      obtain ⟨k, hk, b1, b2, b3, b4⟩ := hj.get2 hy
      have : ps = k.ps := by
        rw [← r1, ← k3] at hps
        simp only [List.map_map] at hps
        rw [List.getElem?_map, hk] at hps
        cases hps; rfl
      rw [this]; exact b4
    · obtain ⟨i, hi⟩ := List.mem_iff_getElem?.mp hy
      obtain ⟨k, hk, b1, b2, _⟩ := hj.get2 hi
      rw [b2]; exact hne _ (kx k (List.mem_of_getElem? hk))
    · have h' := hk a c n1 n2 h
      by_cases hm : a ∈ ks.map (fun k => k.x.l)
      · exfalso
        obtain ⟨k, hkk, e⟩ := List.mem_map.mp hm
        rcases hnew _ (kx k hkk) with h2 | h2
        · cases h2
        · rw [e, h] at h2; cases h2
      · rw [a2 a hm]; exact h'
end
end
section
variable {n : Nat} {φ : Ph} {σ : Sg} {Q : V → Ph → Sg → Prop}
structure Wld (φ : Ph) (lots : List (List Piece)) (rows : List RowJ) : Prop where
  len : rows.length = lots.length
  row : ∀ (g : Nat) x, rows[g]? = some x → Rwi φ x.r ((g + 1 : Nat) : Int) x.l ∧ LstP φ x.l (x.ts.map .ref)
  things : All2 (fun (x : RowJ) ps => All2 (PThing φ (RowJ.rs rows)) ps x.ts) rows lots
theorem Wld.le {φ φ' : Ph} (l : Le φ φ') {lots rows} (h : Wld φ lots rows) : Wld φ' lots rows :=
  ⟨h.len, fun g x e => ⟨(h.row g x e).1.le l, (h.row g x e).2.le l⟩, h.things.mono fun _ _ h => h.mono fun _ _ h => h.le l⟩
noncomputable def Piece.isProc : Piece → Bool
  | .proc _ _ => true
  | _ => false
noncomputable def kg (rows : List RowJ) (g : Nat) : List Scal := [.str "array", .int ((g + 1 : Nat) : Int), .int 0, .int (((rows[g]?.map fun x => x.ts.length).getD 0 : Nat) : Int)]
theorem kg_inj {rows : List RowJ} {g g' : Nat} (h : kg rows g = kg rows g') : g = g' := by
  unfold kg at h
  simp at h
  lia
section
variable {lots : List (List Piece)} {rows : List RowJ}
theorem rs_get {g : Nat} {r : Addr} {m : Nat} (h : (RowJ.rs rows)[g]? = some (r, m)) : ∃ x, rows[g]? = some x ∧ r = x.r ∧ m = x.ts.length := by
  unfold RowJ.rs at h
  rw [List.getElem?_map] at h
  obtain ⟨x, e1, e2⟩ := Option.map_eq_some_iff.mp h
  cases e2; exact ⟨x, e1, rfl, rfl⟩
theorem wayK_arr (way : Nat) : isArr (wayK way) := by unfold wayK isArr; split <;> simp
theorem isproc : ∀ {n : Nat} {φ : Ph} {σ : Sg} {Q : V → Ph → Sg → Prop} {p : Piece} {t : Addr} {rs : List (Addr × Nat)} (R : Rt w H0) (h : PThing φ rs p t) (q : Q (.bool p.isProc) φ σ), CW w H0 (n+2) (.ref 212) [.ref t] φ σ Q := by
  apply @Mine.hk6; generalize ca1 (cx _) = n, ca2 (cx _) = φ, ca3 (cx _) = σ, ca4 (cx _) = Q, ca5 (cx _) = p, cz6 (cx _) = t
  apply @Mine.hk; generalize cx _ = rs
  intro R h q
  cases p with
  | name b => exact cw212 R h q
  | lit b => exact cw212 R h q
  | op b => exact cw212 R h q
  | int b => exact cw212 R h q
  | row g => obtain ⟨r, m, h1, s, h2, h3⟩ := h; exact cw212 R h2 q
  | proc g way =>
    obtain ⟨r, m, h1, s, h2, h3⟩ := h
    refine cw212 R h2 ?_
    have e : (true && (wayK way == "array" || wayK way == "packed")) = true := by
      rcases wayK_arr way with e | e <;> rw [e] <;> rfl
    rw [e]; exact q
structure PAt (φ : Ph) (rows : List RowJ) (g : Nat) (way : Nat) (t : Addr) (x : RowJ) : Prop where
  row : rows[g]? = some x
  prc : Prc φ t (wayK way) x.r x.ts.length true (wayA way)
theorem PAt.le {φ φ' : Ph} (l : Le φ φ') {g way : Nat} {t : Addr} {x : RowJ} (h : PAt φ rows g way t x) : PAt φ' rows g way t x := ⟨h.row, h.prc.le l⟩
theorem pat_of {g way : Nat} {t : Addr} (h : PThing φ (RowJ.rs rows) (.proc g way) t) : ∃ x, PAt φ rows g way t x := by
  obtain ⟨r, m, h1, h2⟩ := h
  obtain ⟨x, e1, rfl, rfl⟩ := rs_get h1
  exact ⟨x, e1, h2⟩
theorem pkey (R : Rt w H0) (W : Wld φ lots rows) {g way : Nat} {t : Addr} {x : RowJ} (h : PAt φ rows g way t x) (q : ∀ k φ', Le φ φ' → Tup φ' k ((kg rows g).map scV) → Q (.ref k) φ' σ) : CW w H0 (n+2) (.ref 303) [.ref t] φ σ Q := by
  obtain ⟨h1, h2⟩ := W.row g x h.row
  refine cw303 R (wayK_arr way) h.prc h1 fun k φ' l hk => q k φ' l ?_
  have : (kg rows g).map scV = [.str "array", .int ((g + 1 : Nat) : Int), .int 0, .int x.ts.length] := by
    unfold kg; rw [h.row]; rfl
  rw [this]; exact hk
theorem Wld.lot (W : Wld φ lots rows) {g : Nat} {x : RowJ} (h : rows[g]? = some x) : ∃ ps, lots[g]? = some ps ∧ All2 (PThing φ (RowJ.rs rows)) ps x.ts := W.things.get h
theorem nodup_bound : ∀ (N : Nat) (l : List Nat), l.Nodup → (∀ x ∈ l, x < N) → l.length ≤ N
  | 0, l, _, h => by
    cases l with
    | nil => simp
    | cons a _ => exact absurd (h a (.head _)) (Nat.not_lt_zero _)
  | N + 1, l, nd, h => by
    have := nodup_bound N (l.erase N) (nd.erase N) fun x hx => by
      have hx' := (List.Nodup.mem_erase_iff nd).mp hx
      have := h x hx'.2
      have := hx'.1
      lia
    rw [List.length_erase] at this
    split at this <;> lia
inductive Go (lots : List (List Piece)) : List Nat → List Piece → List Nat → List Piece → Nat → Prop where
  | nil (met : List Nat) : Go lots met [] met [] 1
  | skip {met ps met' f s p} : (∀ g way, p = .proc g way → g ∈ met) → Go lots met ps met' f s → Go lots met (p :: ps) met' (p :: f) (s + 1)
  | into {met g way qs met1 f1 s1 ps met' f2 s2} : g ∉ met → lots[g]? = some qs → Go lots (met ++ [g]) qs met1 f1 s1 → Go lots met1 ps met' f2 s2 → Go lots met (.proc g way :: ps) met' (.proc g way :: (f1 ++ f2)) (s1 + s2 + 1)
inductive Run (lots : List (List Piece)) : List (List Piece) → List Nat → List Nat → List Piece → Nat → Prop where
  | nil (met : List Nat) : Run lots [] met met [] 0
  | cons {ps rest met met1 f1 s1 met' f2 s2} : Go lots met ps met1 f1 s1 → Run lots rest met1 met' f2 s2 → Run lots (ps :: rest) met met' (f1 ++ f2) (s1 + s2)
theorem Go.grow {met ps met' f s} (h : Go lots met ps met' f s) : met'.length ≤ met.length + s ∧ f.length ≤ s ∧ 1 ≤ s := by
  induction h with
  | nil => exact ⟨by lia, by simp, by lia⟩
  | skip _ _ ih => exact ⟨by lia, by simp; lia, by lia⟩
  | into _ _ _ _ ih1 ih2 => simp at ih1 ⊢; lia
theorem Run.grow {st met met' f s} (h : Run lots st met met' f s) : met'.length ≤ met.length + s ∧ f.length ≤ s ∧ st.length ≤ s := by
  induction h with
  | nil => exact ⟨by lia, by simp, by simp⟩
  | cons h _ ih => have := h.grow; simp; lia
theorem go_ends : ∀ {lots : List (List Piece)} (hL : Lots lots), ∀ (N : Nat) (met : List Nat) (ps : List Piece), lots.length - met.length ≤ N → met.Nodup → (∀ g ∈ met, g < lots.length) → (∀ p ∈ ps, p.ok lots.length) →
    ∃ met' f s, Go lots met ps met' f s ∧ met'.Nodup ∧ (∀ g ∈ met', g < lots.length) ∧ (∀ g ∈ met, g ∈ met') ∧ met.length ≤ met'.length ∧ s ≤ 1 + ps.length + 5 * (met'.length - met.length) := by
  apply @Mine.hk; generalize cx _ = lots
  intro hL
  intro N
  induction N with
  | zero =>
    intro met ps hN nd hm hp
    have full : ∀ g, g < lots.length → g ∈ met := fun g hg => by
      have : lots.length ≤ met.length := by lia
      by_cases h : g ∈ met
      · exact h
      · exfalso
        have nd' : (g :: met).Nodup := List.nodup_cons.mpr ⟨h, nd⟩
        have := nodup_bound lots.length _ nd' fun x hx => by
          rcases List.mem_cons.mp hx with rfl | hx
          · exact hg
          · exact hm x hx
        simp at this; lia
    induction ps with
    | nil => exact ⟨met, [], 1, .nil met, nd, hm, fun _ h => h, Nat.le_refl _, by simp⟩
    | cons p ps ih =>
      obtain ⟨met', f, s, h1, h2, h3, h4, h5, h6⟩ := ih fun p hp' => hp p (.tail _ hp')
      exact ⟨met', p :: f, s + 1, .skip (fun g way e => full g (by have := hp p (.head _); rw [e] at this; exact this.1)) h1, h2, h3, h4, h5, by simp; lia⟩
  | succ N ihN =>
    intro met ps
    induction ps generalizing met with
    | nil => intro hN nd hm hp; exact ⟨met, [], 1, .nil met, nd, hm, fun _ h => h, Nat.le_refl _, by simp⟩
    | cons p ps ih =>
      intro hN nd hm hp
      by_cases hs : ∀ g way, p = .proc g way → g ∈ met
      · obtain ⟨met', f, s, h1, h2, h3, h4, h5, h6⟩ := ih met hN nd hm fun p hp' => hp p (.tail _ hp')
        exact ⟨met', p :: f, s + 1, .skip hs h1, h2, h3, h4, h5, by simp; lia⟩
      · obtain ⟨g, hs⟩ := Classical.not_forall.mp hs
        obtain ⟨way, hs⟩ := Classical.not_forall.mp hs
        obtain ⟨rfl, hg⟩ := Classical.not_imp.mp hs
        have hgl : g < lots.length := (hp _ (.head _)).1
        obtain ⟨qs, hq⟩ : ∃ qs, lots[g]? = some qs := ⟨_, List.getElem?_eq_getElem hgl⟩
        have hqm := hL.each qs (List.mem_of_getElem? hq)
        obtain ⟨met1, f1, s1, a1, a2, a3, a4, a5, a6⟩ := ihN (met ++ [g]) qs (by simp; lia) (by
          rw [List.nodup_append]; exact ⟨nd, by simp, fun x hx y hy e => by simp at hy; subst hy e; exact hg hx⟩) (fun x hx => by
          rcases List.mem_append.mp hx with hx | hx
          · exact hm x hx
          · simp at hx; subst hx; exact hgl) fun p hp' => (hqm.2 p hp').1
        simp at a5 a6
        obtain ⟨met', f2, s2, b1, b2, b3, b4, b5, b6⟩ := ih met1 (by lia) a2 a3 fun p hp' => hp p (.tail _ hp')
        exact ⟨met', _, _, .into hg hq a1 b1, b2, b3, fun x hx => b4 x (a4 x (List.mem_append_left _ hx)), by lia, by have := hqm.1; simp; lia⟩
end
end
section
variable {n : Nat} {φ : Ph} {σ : Sg} {Q : V → Ph → Sg → Prop}
theorem b310_1 (R : Rt w H0) {v0 : V} : Bind H0 d310 [v0] [("proc", v0)] := by
  intro s xs hx root
  refine VRs.consE hx fun _ _ h0 hx => ?_; refine VRs.nilE hx ?_; exact ⟨_, .cons h0 .nil, BindsTo.of_eq rfl⟩
section
variable {sc : Scope} {ρ : Lo}
theorem Cm_freezeL {Q : V → Lo → Ph → Sg → Prop} {op : CmpOp} {u v : V} {a : Addr} {vs : List V} (hσ : σ a = none) (h : ∀ φ', Le φ φ' → LstP φ' a vs → CmW w H0 sc n op u v ρ φ' σ Q) : CmW w H0 sc n op u v ρ φ (upd σ a (.list vs)) Q :=
  fun x y hx hy => W.freezeL hσ fun φ' l hl => h φ' l hl x y hx hy
theorem W.freezeM {α β : Type} {R : β → α → Prop} {t : Env → Sem α} {Q : β → Lo → Ph → Sg → Prop} {a : Addr} {vs : List V} (e : σ a = some (.list vs)) (h : ∀ φ', Le φ φ' → LstP φ' a vs → W w H0 sc n R t ρ φ' (del σ a) Q) : W w H0 sc n R t ρ φ σ Q :=
  W.freeze e fun o hPt hn l => by obtain ⟨items, m, ho, hv⟩ := hPt; exact h _ l ⟨items, m, by rw [← ho]; exact updP_same _ _ _, hv⟩
end
noncomputable def seenD (rows : List RowJ) (met : List Nat) : List (List Scal × V) := met.map fun g => (kg rows g, .bool true)
theorem seenD_in (rows : List RowJ) (met : List Nat) (g : Nat) : (valV (seenD rows met) (kg rows g)).isSome = decide (g ∈ met) := by
  induction met with
  | nil => rfl
  | cons a r ih =>
    unfold valV seenD at ih ⊢
    rw [List.map_cons, List.find?_cons]
    by_cases h : g = a
    · subst h; simp
    · have : ¬ kg rows a = kg rows g := fun e => h (kg_inj e).symm
      simp only [this, decide_false]
      rw [ih]; simp [h]
theorem seenD_put (rows : List RowJ) (met : List Nat) (g : Nat) (h : g ∉ met) : storedV (seenD rows met) (kg rows g) (.bool true) = seenD rows (met ++ [g]) := by
  unfold storedV
  rw [if_neg]
  · simp [seenD]
  · intro e
    obtain ⟨x, hx, e⟩ := List.any_eq_true.mp e
    obtain ⟨a, ha, rfl⟩ := List.mem_map.mp hx
    exact h (kg_inj (of_decide_eq_true e) ▸ ha)
section
variable {lots : List (List Piece)} {rows : List RowJ}
noncomputable def FrmOk (φ : Ph) (rows : List RowJ) (lots : List (List Piece)) (a : Addr) (rest : List Piece) : Prop :=
  ∃ t g way x ps, ∃ i : Nat, PAt φ rows g way t x ∧ lots[g]? = some ps ∧ i ≤ ps.length ∧ rest = ps.drop i ∧ Tup φ a [.ref t, .int i]
theorem FrmOk.le {φ φ' : Ph} (l : Le φ φ') {a : Addr} {rest : List Piece} (h : FrmOk φ rows lots a rest) : FrmOk φ' rows lots a rest :=
  by obtain ⟨t, g, way, x, ps, i, h1, h2, h3, h4, h5⟩ := h; exact ⟨t, g, way, x, ps, i, h1.le l, h2, h3, h4, h5.le l⟩
structure WI (φ0 : Ph) (σ0 : Sg) (lots : List (List Piece)) (rows : List RowJ) (fl sd wl : Addr) (met' : List Nat) (f : List Piece) (m : Nat) (ρ : Lo) (φ : Ph) (σ : Sg) : Prop where
  le : Le φ0 φ
  found : ρ "found" = some (.ref fl)
  seen : ρ "seen" = some (.ref sd)
  waiting : ρ "waiting" = some (.ref wl)
  out : ∀ a, a ≠ fl → a ≠ sd → a ≠ wl → σ a = σ0 a
  st : ∃ (st : List (List Piece)) (as fts : List Addr) (f1 f2 : List Piece) (met1 : List Nat), σ fl = some (.list (fts.map .ref)) ∧ All2 (PThing φ (RowJ.rs rows)) f1 fts ∧ σ sd = some (.tdict (seenD rows met1)) ∧ σ wl = some (.list (as.reverse.map .ref)) ∧
    All2 (FrmOk φ rows lots) as st ∧ Run lots st met1 met' f2 m ∧ f = f1 ++ f2 ∧ f1.length + m ≤ 300 ∧ met1.length + m ≤ 310
theorem cw310 : ∀ {n : Nat} {φ : Ph} {σ : Sg} {Q : V → Ph → Sg → Prop} {lots : List (List Piece)} {rows : List RowJ} {g way : Nat} {t : Addr} {x : RowJ} {ps0 : List Piece} {met' : List Nat} {f : List Piece} {s : Nat} (R : Rt w H0) (hL : Lots lots) (W0 : Wld φ lots rows) (hp : PAt φ rows g way t x) (hg : lots[g]? = some ps0) (hgo : Go lots [g] ps0 met' f s) (hs : s ≤ 300) (q : ∀ fl fts φ', Le φ φ' → LstP φ' fl (fts.map .ref) → All2 (PThing φ' (RowJ.rs rows)) f fts → Q (.ref fl) φ' σ), CW w H0 (n+3) (.ref 310) [.ref t] φ σ Q := by
  apply @Mine.hk6; generalize ca1 (cx _) = n, ca2 (cx _) = φ, ca3 (cx _) = σ, ca4 (cx _) = Q, ca5 (cx _) = lots, cz6 (cx _) = rows
  refine @Mine.hk6 _ _ _ _ _ _ _ _ _ neRowJ _ _ _ ?_; generalize ca1 (cx _) = g, ca2 (cx _) = way, ca3 (cx _) = t, ca4 (cx _) = x, ca5 (cx _) = ps0, cz6 (cx _) = met'
  apply @Mine.hk2; generalize ca1 (cx _) = f, cz2 (cx _) = s
  intro R hL W0 hp hg hgo hs q
  refine CW.code R (k310 R) (b310_1 R) (bk_of rfl) (X_cons ?_)
  repeat walk_at "zw"
  refine E_list (A_nil ⟨by simp, ?_⟩)
  (apply @Mine.hk; generalize cx _ = fl)
  intro f1 f2
  repeat walk_at "zw"
  refine E_dictD (c := .tdict []) (.inr (.inr rfl)) rfl rfl (by simp) (by simp) ?_
  (apply @Mine.hk; generalize cx _ = sd)
  intro g1 g2
  repeat walk_at "zw"
  show EW _ _ _ _ _ _ _ _ _
  repeat walk_at "zw"
  refine pkey R W0 hp ?_
  (apply @Mine.hk2; generalize ca1 (cx _) = k, cz2 (cx _) = φ1)
  intro l1 hk
  repeat walk_at "zw"
  show DsW _ _ _ _ _ _ _ _ _ _ _
  refine DS_t hk (upd_same _ _ _) (by simp) ?_
  rw [upd_upd]
  have hfs : fl ≠ sd := fun e => by subst e; rw [upd_same] at g1; cases g1
  have g1' : σ sd = none := by rw [upd_other hfs.symm] at g1; exact g1
  show AW _ _ _ _ _ _ _ _ _ _
  repeat walk_at "zw"
  refine E_list ?_
  repeat walk_at "zw"
  refine E_tuple ?_
  repeat walk_at "zw"
  refine ⟨by simp, ?_⟩
  (apply @Mine.hk2; generalize ca1 (cx _) = t0, cz2 (cx _) = φ2)
  intro e1 e2 l2 ht0
  repeat walk_at "zw"
  refine ⟨by simp, ?_⟩
  (apply @Mine.hk; generalize cx _ = wl)
  intro w1 w2
  have hws : wl ≠ sd := fun e => by subst e; rw [upd_same] at w1; cases w1
  rw [upd_other hws] at w1
  have hwf : wl ≠ fl := fun e => by subst e; rw [upd_same] at w1; cases w1
  rw [upd_other hwf] at w1
  refine A_local rfl ?_
  refine X_cons ?_
  obtain ⟨s0, hT0, hS0⟩ := id hp.prc
  revert s0; (apply @Mine.hk; generalize cx _ = s0); intros
  refine S_whileI (m := s) (WI φ σ lots rows fl sd wl met' f) ?turn ⟨l1.trans l2, rfl, rfl, rfl, fun a a1 a2 a3 => by rw [upd_other a3, upd_other a2, upd_other a1], [ps0], [t0], [], [], f, [g], ?_, .nil, ?_, upd_same _ _ _, .cons ⟨t, g, way, x, ps0, 0, hp.le (l1.trans l2), hg, Nat.zero_le _, by simp, ht0⟩ .nil, by simpa using Run.cons hgo (.nil met'), by simp, by simpa using hs, by simp; lia⟩
  case turn =>
    (apply @Mine.hk4; generalize ca1 (cx _) = m, ca2 (cx _) = ρ, ca3 (cx _) = φ3, cz4 (cx _) = σ3)
    intro h
    have hEx := h
    obtain ⟨hle, hf, hsn, hw, hout, hEx⟩ := hEx
    (refine Exists.elim hEx ?_; clear hEx; apply @Mine.hk; generalize cx _ = st; intro hEx; refine Exists.elim hEx ?_; clear hEx; apply @Mine.hk; generalize cx _ = as; intro hEx; refine Exists.elim hEx ?_; clear hEx; apply @Mine.hk; generalize cx _ = fts; intro hEx; refine Exists.elim hEx ?_; clear hEx; apply @Mine.hk; generalize cx _ = p1; intro hEx; refine Exists.elim hEx ?_; clear hEx; apply @Mine.hk; generalize cx _ = p2; intro hEx; refine Exists.elim hEx ?_; clear hEx; apply @Mine.hk; generalize cx _ = met1; intro hEx)
    obtain ⟨c1, c2, c3, c4, c5, c6, c7, c8, c9⟩ := hEx
    repeat walk_at "zw"
    refine E_list (A_nil ⟨by simp, ?_⟩)
    (apply @Mine.hk; generalize cx _ = b)
    intro b1 b2
    refine Cm_freezeL b1 ?_
    (apply @Mine.hk; generalize cx _ = φ4)
    intro l4 hb
    refine C_neNil (.inl c4) (.inr hb) ?_
    refine ⟨_, rfl, fun h => ?_, fun h => ?_⟩
    ·
      cases c5 with
      | nil => simp at h
      | @cons a rest as st' hfa hfs' =>
      revert a rest as st'; (apply @Mine.hk4; generalize ca1 (cx _) = a, ca2 (cx _) = rest, ca3 (cx _) = as, cz4 (cx _) = st'); intros
      cases c6 with
      | @cons _ _ _ m1 fa sa _ fb sb hga hrun =>
      revert m1 fa sa fb sb; (apply @Mine.hk5; generalize ca1 (cx _) = m1, ca2 (cx _) = fa, ca3 (cx _) = sa, ca4 (cx _) = fb, cz5 (cx _) = sb); intros
      have hEx := hfa
      (refine Exists.elim hEx ?_; clear hEx; apply @Mine.hk; generalize cx _ = t1; intro hEx; refine Exists.elim hEx ?_; clear hEx; apply @Mine.hk; generalize cx _ = g1; intro hEx; refine Exists.elim hEx ?_; clear hEx; apply @Mine.hk; generalize cx _ = way1; intro hEx; refine Exists.elim hEx ?_; clear hEx; refine @Mine.hk _ neRowJ _ ?_; generalize cx _ = x1; intro hEx; refine Exists.elim hEx ?_; clear hEx; apply @Mine.hk; generalize cx _ = ps1; intro hEx; refine Exists.elim hEx ?_; clear hEx; apply @Mine.hk; generalize cx _ = i; intro hEx)
      obtain ⟨d1, d2, d3, d4, d5⟩ := hEx
      obtain ⟨s1, hT1, hS1⟩ := id (d1.prc.le l4)
      revert s1; (apply @Mine.hk; generalize cx _ = s1); intros
      have W4 := W0.le (hle.trans l4)
      obtain ⟨hr1, hx1⟩ := W4.row g1 x1 d1.row
      have hEx := W4.lot d1.row
      (refine Exists.elim hEx ?_; clear hEx; apply @Mine.hk; generalize cx _ = psx; intro hEx)
      obtain ⟨hpsx, hall⟩ := hEx
      rw [d2] at hpsx; cases hpsx
      have hlen1 := hall.len
      have hsmall := (hL.each _ (List.mem_of_getElem? d2)).1
      have hst := hrun.grow
      have hgw := hga.grow
      have hasl : as.length = st'.length := hfs'.len
      refine X_cons ?_
      refine S_tup (fun env h => rfl) (fun env h => rfl) ?_
      refine E_pop (fun _ => rfl) ?_
      repeat walk_at "zw"
      refine ⟨wl, _, .ref a, rfl, c4, by simp; lia, by simp, ?_⟩
      rw [show ((a :: as).reverse.map V.ref).dropLast = as.reverse.map V.ref by simp]
      refine A_tup rfl rfl (d5.le l4) (A_local rfl (A_local rfl ?_))
      show XW _ _ _ _ _ _ _ _ _
      have hfw : fl ≠ wl := hwf.symm
      have hsw : sd ≠ wl := hws.symm
      have k1 : upd σ3 wl (.list (as.reverse.map .ref)) fl = some (.list (fts.map .ref)) := by rw [upd_other hfw]; exact c1
      have k2 : upd σ3 wl (.list (as.reverse.map .ref)) sd = some (.tdict (seenD rows met1)) := by rw [upd_other hsw]; exact c3
      have k3 : upd σ3 wl (.list (as.reverse.map .ref)) wl = some (.list (as.reverse.map .ref)) := upd_same _ _ _
      cases rest with
      | nil =>
        cases hga
        have hi : ¬ i < x1.ts.length := by
          have := congrArg List.length d4
          simp at this; lia
        repeat walk_at "zw"
        refine ⟨sb, by lia, hle.trans l4, hf, hsn, hw, fun b n1 n2 n3 => by rw [upd_other n3]; exact hout b n1 n2 n3, st', as, fts, p1, fb, _, k1, c2.mono fun _ _ h => h.le l4, k2, k3, hfs'.mono fun _ _ h => h.le l4, hrun, by simpa using c7, by lia, by lia⟩
      | cons p ps =>
        revert p ps; (apply @Mine.hk2; generalize ca1 (cx _) = p, cz2 (cx _) = ps); intros
        have hi1 : i < ps1.length := by
          have := congrArg List.length d4
          simp at this; lia
        have hpi : ps1[i]? = some p ∧ ps = ps1.drop (i + 1) := by
          rw [List.drop_eq_getElem_cons hi1] at d4
          injection d4 with a b
          exact ⟨by rw [List.getElem?_eq_getElem hi1, ← a], b⟩
        obtain ⟨hpi, d4b⟩ := hpi
        have hi : i < x1.ts.length := by lia
        have hEx := hall.get hpi
        (refine Exists.elim hEx ?_; clear hEx; apply @Mine.hk; generalize cx _ = th; intro hEx)
        obtain ⟨hth, hpt⟩ := hEx
        repeat walk_at "zw"
        refine cw275 R hS1 hr1 (.inr hx1) (by simp) (by lia) (v := .ref th) (by simp [hth]) ?_
        refine A_local rfl ?_
        repeat walk_at "zw"
        refine E_append rfl (fun _ => rfl) ?_
        repeat walk_at "zw"
        refine ⟨wl, rfl, ⟨_, .inl k3⟩, ?_⟩
        refine E_tuple ?_
        repeat walk_at "zw"
        refine ⟨by simp, ?_⟩
        (apply @Mine.hk2; generalize ca1 (cx _) = ta, cz2 (cx _) = φ5)
        intro e1 e2 l5 hta
        refine ⟨_, k3, by simp; lia, rfl, ?_⟩
        rw [upd_upd]
        repeat walk_at "zw"
        refine E_append rfl (fun _ => rfl) ?_
        repeat walk_at "zw"
        have j1 : upd σ3 wl (.list (as.reverse.map V.ref ++ [V.ref ta])) fl = some (.list (fts.map .ref)) := by rw [upd_other hfw]; exact c1
        refine ⟨fl, rfl, ⟨_, .inl j1⟩, ?_⟩
        repeat walk_at "zw"
        refine ⟨_, j1, by simp [← c2.len]; lia, rfl, ?_⟩
        repeat walk_at "zw"
        have hta' : Tup φ5 ta [.ref t1, .int ((i + 1 : Nat) : Int)] := by simpa using hta
        have hpt5 := hpt.le l5
        have j2 : upd (upd σ3 wl (.list (as.reverse.map V.ref ++ [V.ref ta]))) fl (.list (fts.map V.ref ++ [V.ref th])) sd = some (.tdict (seenD rows met1)) := by
          rw [upd_other hfs.symm, upd_other hsw]; exact c3
        have j3 : upd (upd σ3 wl (.list (as.reverse.map V.ref ++ [V.ref ta]))) fl (.list (fts.map V.ref ++ [V.ref th])) wl = some (.list ((ta :: as).reverse.map .ref)) := by
          rw [upd_other hwf, upd_same]; simp
        have j4 : upd (upd σ3 wl (.list (as.reverse.map V.ref ++ [V.ref ta]))) fl (.list (fts.map V.ref ++ [V.ref th])) fl = some (.list ((fts ++ [th]).map .ref)) := by
          rw [upd_same]; simp
        have fr1 : All2 (FrmOk φ5 rows lots) (ta :: as) (ps :: st') := .cons ⟨t1, g1, way1, x1, ps1, i + 1, (d1.le l4).le l5, d2, hi1, d4b, hta'⟩ (hfs'.mono fun _ _ h => (h.le l4).le l5)
        have c2' : All2 (PThing φ5 (RowJ.rs rows)) (p1 ++ [p]) (fts ++ [th]) := (c2.mono fun _ _ h => (h.le l4).le l5).snoc hpt5
        have out5 : ∀ b, b ≠ fl → b ≠ sd → b ≠ wl → upd (upd σ3 wl (.list (as.reverse.map V.ref ++ [V.ref ta]))) fl (.list (fts.map V.ref ++ [V.ref th])) b = σ b := fun b n1 n2 n3 => by
          rw [upd_other n1, upd_other n3]; exact hout b n1 n2 n3
        have le5 := hle.trans (l4.trans l5)
        have W5 := W4.le l5
        generalize upd (upd σ3 wl (.list (as.reverse.map V.ref ++ [V.ref ta]))) fl (.list (fts.map V.ref ++ [V.ref th])) = σ5 at *
        refine isproc R hpt5 ?_
        refine ⟨_, rfl, fun hb => ?_, fun hb => ?_⟩
        ·
          obtain ⟨g2, way2, rfl⟩ : ∃ g2 way2, p = .proc g2 way2 := by
            cases p with
            | proc a b => exact ⟨a, b, rfl⟩
            | _ => cases hb
          revert g2 way2; (apply @Mine.hk2; generalize ca1 (cx _) = g2, cz2 (cx _) = way2); intros
          have hEx := pat_of hpt5
          (refine Exists.elim hEx ?_; clear hEx; refine @Mine.hk _ neRowJ _ ?_; generalize cx _ = x2; intro hEx)
          have hx2 := hEx
          repeat walk_at "zw"
          refine pkey R W5 hx2 ?_
          (apply @Mine.hk2; generalize ca1 (cx _) = k2, cz2 (cx _) = φ6)
          intro l6 hk2
          repeat walk_at "zw"
          refine C_notInT ⟨_, _, hk2, j2, ?_⟩
          rw [seenD_in]
          refine ⟨_, rfl, fun hb2 => ?_, fun hb2 => ?_⟩
          ·
            have hng : g2 ∉ met1 := by simpa using hb2
            cases hga with
            | skip hnp _ => exact absurd (hnp g2 way2 rfl) hng
            | @into _ _ _ qs m2 fq sq _ _ fr sr _ hq hg2 hg3 =>
              revert qs m2 fq sq fr sr; (apply @Mine.hk6; generalize ca1 (cx _) = qs, ca2 (cx _) = m2, ca3 (cx _) = fq, ca4 (cx _) = sq, ca5 (cx _) = fr, cz6 (cx _) = sr); intros
              have W6 := W5.le l6
              refine X_cons ?_
              refine S_setitem ?_
              repeat walk_at "zw"
              refine pkey R W6 (hx2.le l6) ?_
              (apply @Mine.hk2; generalize ca1 (cx _) = k3, cz2 (cx _) = φ7)
              intro l7 hk3
              refine G_setT hk3 j2 (by simp [seenD]; lia) ?_
              rw [seenD_put _ _ _ hng]
              have i3 : upd σ5 sd (.tdict (seenD rows (met1 ++ [g2]))) wl = some (.list ((ta :: as).reverse.map .ref)) := by rw [upd_other hws]; exact j3
              repeat walk_at "zw"
              refine E_append rfl (fun _ => rfl) ?_
              repeat walk_at "zw"
              refine ⟨wl, rfl, ⟨_, .inl i3⟩, ?_⟩
              refine E_tuple ?_
              repeat walk_at "zw"
              refine ⟨by simp, ?_⟩
              (apply @Mine.hk2; generalize ca1 (cx _) = tb, cz2 (cx _) = φ8)
              intro e3 e4 l8 htb
              refine ⟨_, i3, by simp; lia, rfl, ?_⟩
              repeat walk_at "zw"
              have l58 := l6.trans (l7.trans l8)
              refine ⟨sq + (sr + sb), by lia, le5.trans l58, hf, hsn, hw, fun b n1 n2 n3 => by rw [upd_other n3, upd_other n2]; exact out5 b n1 n2 n3, qs :: ps :: st', tb :: ta :: as, fts ++ [th], p1 ++ [.proc g2 way2], fq ++ (fr ++ fb), met1 ++ [g2], ?_, c2'.mono fun _ _ h => h.le l58, ?_, ?_, .cons ⟨th, g2, way2, x2, qs, 0, hx2.le l58, hq, Nat.zero_le _, by simp, htb⟩ (fr1.mono fun _ _ h => h.le l58), .cons hg2 (.cons hg3 hrun), by rw [c7]; simp, by simp; lia, by simp; lia⟩
              ·
                rw [upd_other hfw, upd_other hfs]; exact j4
              ·
                rw [upd_other hsw, upd_same]
              ·
                rw [upd_same]; simp
          ·
            have hng : g2 ∈ met1 := by simpa using hb2
            cases hga with
            | into hn _ _ _ => exact absurd hng hn
            | @skip _ _ _ fa' sa' _ hnp hga' =>
              revert fa' sa'; (apply @Mine.hk2; generalize ca1 (cx _) = fa', cz2 (cx _) = sa'); intros
              refine X_nil ?_
              repeat walk_at "zw"
              refine ⟨sa' + sb, by lia, le5.trans l6, hf, hsn, hw, out5, ps :: st', ta :: as, fts ++ [th], p1 ++ [.proc g2 way2], fa' ++ fb, met1, j4, c2'.mono fun _ _ h => h.le l6, j2, j3, fr1.mono fun _ _ h => h.le l6, .cons hga' hrun, by rw [c7]; simp, by simp; lia, by lia⟩
        ·
          cases hga with
          | into _ _ _ _ => cases hb
          | @skip _ _ _ fa' sa' _ hnp hga' =>
            revert fa' sa'; (apply @Mine.hk2; generalize ca1 (cx _) = fa', cz2 (cx _) = sa'); intros
            refine ⟨fun h => Bool.noConfusion h, fun _ => ?_⟩
            refine X_nil ?_
            repeat walk_at "zw"
            refine ⟨sa' + sb, by lia, le5, hf, hsn, hw, out5, ps :: st', ta :: as, fts ++ [th], p1 ++ [p], fa' ++ fb, met1, j4, c2', j2, j3, fr1, .cons hga' hrun, by rw [c7]; simp, by simp; lia, by lia⟩
    ·
      have e0 : as = [] := by cases as with
        | nil => rfl
        | cons a r => simp at h
      subst e0
      cases c5
      cases c6
      show XW _ _ _ _ _ _ _ _ _
      refine W.freezeM c1 ?_
      (apply @Mine.hk; generalize cx _ = φ5)
      intro l5 hfl
      refine W.drop (σ' := σ) (fun a c e => ?_) ?_
      ·
        have n1 : a ≠ fl := fun q => by subst q; rw [f1] at e; cases e
        have n2 : a ≠ sd := fun q => by subst q; rw [g1'] at e; cases e
        have n3 : a ≠ wl := fun q => by subst q; rw [w1] at e; cases e
        unfold del; rw [if_neg n1, hout a n1 n2 n3]; exact e
      ·
        repeat walk_at "zw"
        rw [List.append_nil] at c7
        subst c7
        exact q fl fts φ5 (hle.trans (l4.trans l5)) hfl (c2.mono fun _ _ h => (h.le l4).le l5)
  ·
    rw [upd_other hwf.symm, upd_other hfs]; exact upd_same _ _ _
  ·
    rw [upd_other hws.symm, upd_same]; simp [storedV, seenD]
end
end
section
variable {n : Nat} {φ : Ph} {σ : Sg} {Q : V → Ph → Sg → Prop}
theorem b699_3 (R : Rt w H0) {v0 v1 v2 : V} : Bind H0 d699 [v0, v1, v2] [("lots", v0), ("at", v1), ("met", v2)] := by
  intro s xs hx root
  refine VRs.consE hx fun _ _ h0 hx => ?_; refine VRs.consE hx fun _ _ h1 hx => ?_; refine VRs.consE hx fun _ _ h2 hx => ?_; refine VRs.nilE hx ?_; exact ⟨_, .cons h0 (.cons h1 (.cons h2 .nil)), BindsTo.of_eq rfl⟩
noncomputable def Piece.word : Piece → Str
  | .name _ => "name"
  | .lit _ => "literal"
  | .op _ => "operator"
  | .int _ => "integer"
  | .row _ => "row"
  | .proc _ _ => "proc"
noncomputable def Piece.what : Piece → V
  | .name b => .bytes b
  | .lit b => .bytes b
  | .op b => .bytes b
  | .int i => .int i
  | .row g => .int g
  | .proc g _ => .int g
noncomputable def Piece.way : Piece → V
  | .proc _ way => .int way
  | _ => .int 0
theorem Piece.word_ne {p : Piece} (h : p.isProc = false) : (p.word == Str.ofString "proc") = false := by
  cases p <;> first | rfl | decide | cases h
theorem Piece.tup_eq (p : Piece) : p.tup = [.str p.word, p.what, p.way] := by cases p <;> rfl
noncomputable def Piece.two (p : Piece) : List V := [.str p.word, p.what]
noncomputable def intsV (met : List Nat) : List V := (met.map fun g : Nat => (g : Int)).map .int
theorem ints_in (met : List Nat) (g : Nat) : (met.map fun g : Nat => (g : Int)).any (· == (g : Int)) = decide (g ∈ met) := by
  induction met with
  | nil => rfl
  | cons a r ih =>
    rw [List.map_cons, List.any_cons, ih]
    by_cases h : a = g
    · subst h; simp
    · have h' : ¬ g = a := fun e => h e.symm
      have : ((a : Int) == (g : Int)) = false := by rw [beq_eq_false_iff_ne]; lia
      rw [this]; simp [h']
noncomputable def walkF : Stmt := (bodyOf (stT 59)).getD 2 (.Pass default)
theorem Go.metLe {lots met ps met' f s} (h : Go lots met ps met' f s) : met.length ≤ met'.length := by
  induction h with
  | nil => exact Nat.le_refl _
  | skip _ _ ih => exact ih
  | into _ _ _ _ ih1 ih2 => simp at ih1; lia
theorem All2.app {α β : Type} {P : α → β → Prop} {as cs : List α} {bs ds : List β} (h : All2 P as bs) (h' : All2 P cs ds) : All2 P (as ++ cs) (bs ++ ds) := by
  induction h with
  | nil => exact h'
  | cons h _ ih => exact .cons h ih
section
variable {lots : List (List Piece)}
noncomputable def WalkLp (w : World) (H0 : Heap) (lots : List (List Piece)) (n : Nat) (met : List Nat) (ps : List Piece) (met' : List Nat) (f : List Piece) : Prop :=
  ∀ {ll fl ml : Addr} {ts : List Addr} {f0 : List Piece} {fas : List Addr} {ρ : Lo} {φ : Ph} {σ : Sg} {Q : Fl → Lo → Ph → Sg → Prop},
    LotsAt φ ll lots → All2 (fun t (p : Piece) => Tup φ t p.tup) ts ps → σ fl = some (.list (fas.map .ref)) → σ ml = some (.list (intsV met)) → fl ≠ ml → All2 (fun (p : Piece) a => Tup φ a p.two) f0 fas → f0.length + f.length ≤ 400 → met'.length ≤ 400 →
    ρ "lots" = some (.ref ll) → ρ "found" = some (.ref fl) → ρ "met" = some (.ref ml) →
    (∀ ρ' φ' fas', Le φ φ' → ρ' "found" = some (.ref fl) → All2 (fun (p : Piece) a => Tup φ' a p.two) (f0 ++ f) fas' → Q .next ρ' φ' (upd (upd σ fl (.list (fas'.map .ref))) ml (.list (intsV met')))) →
    Lp w H0 d699.scope n (forT walkF) (forB walkF) ((ts.map V.ref).map .v) ρ φ σ Q
theorem walk_fn : ∀ {n : Nat} {φ : Ph} {σ : Sg} {Q : V → Ph → Sg → Prop} {lots : List (List Piece)} {met : List Nat} {g : Nat} {ps : List Piece} {met' : List Nat} {f : List Piece} {ll ml : Addr} (R : Rt w H0) (hg : lots[g]? = some ps) (hl4 : lots.length ≤ 4) (h : WalkLp w H0 lots n (met ++ [g]) ps met' f) (hL : LotsAt φ ll lots) (hm : σ ml = some (.list (intsV met))) (hf : f.length ≤ 400) (hz : met'.length ≤ 400) (hz2 : met.length ≤ 400) (q : ∀ fl fas φ', Le φ φ' → LstP φ' fl (fas.map .ref) → All2 (fun (p : Piece) a => Tup φ' a p.two) f fas → Q (.ref fl) φ' (upd σ ml (.list (intsV met')))), CW w H0 (n+1) (.ref 699) [.ref ll, .int g, .ref ml] φ σ Q := by
  apply @Mine.hk6; generalize ca1 (cx _) = n, ca2 (cx _) = φ, ca3 (cx _) = σ, ca4 (cx _) = Q, ca5 (cx _) = lots, cz6 (cx _) = met
  apply @Mine.hk6; generalize ca1 (cx _) = g, ca2 (cx _) = ps, ca3 (cx _) = met', ca4 (cx _) = f, ca5 (cx _) = ll, cz6 (cx _) = ml
  intro R hg hl4 h hL hm hf hz hz2 q
  refine CW.code R (k699 R) (b699_3 R) (bk_of rfl) (X_cons ?_)
  repeat walk_at "zw"
  refine E_append rfl (fun _ => rfl) ?_
  repeat walk_at "zw"
  refine ⟨ml, rfl, ⟨_, .inl hm⟩, ?_⟩
  repeat walk_at "zw"
  refine ⟨_, hm, by simp [intsV]; lia, rfl, ?_⟩
  have e1 : intsV met ++ [.int (g : Int)] = intsV (met ++ [g]) := by simp [intsV]
  rw [e1]
  repeat walk_at "zw"
  refine E_list (A_nil ⟨by simp, fun fl f1 f2 => ?_⟩)
  have hfm : fl ≠ ml := fun e => by subst e; rw [upd_same] at f1; cases f1
  rw [upd_other hfm] at f1
  refine A_local rfl ?_
  refine X_cons ?_
  obtain ⟨las, a1, a2⟩ := id hL
  obtain ⟨la, b1, ts, b2, b3⟩ := a2.get2 hg
  have hgl : g < lots.length := (List.getElem?_eq_some_iff.mp hg).1
  refine S_for (fun _ _ => rfl) (It_list ?_)
  repeat walk_at "zw"
  (with_reducible refine I_listc ?_ ?_); (intro _; with_unfolding_all rfl)
  refine ⟨_, .ref la, .inr a1, by lia, by lia, by simp [b1], ?_⟩
  refine ⟨la, ts.map .ref, rfl, b2, .inr ⟨⟨_, _, _, rfl⟩, fun u hu => by obtain ⟨t, _, rfl⟩ := List.mem_map.mp hu; exact ⟨t, rfl⟩⟩, ?_⟩
  refine h (ll := ll) (fl := fl) (ml := ml) (f0 := []) (fas := []) hL b3 (upd_same _ _ _) (by rw [upd_other hfm.symm]; exact upd_same _ _ _) hfm .nil (by simpa using hf) hz rfl rfl rfl fun ρ' φ' fas' l' c1 c2 => ?_
  have eq : upd (upd (upd (upd σ ml (.list (intsV (met ++ [g])))) fl (.list [])) fl (.list (fas'.map .ref))) ml (.list (intsV met')) = upd (upd σ ml (.list (intsV met'))) fl (.list (fas'.map .ref)) := by
    rw [upd_upd, upd_comm hfm, upd_upd]
  rw [eq]
  have c0 : upd σ ml (.list (intsV met')) fl = none := by rw [upd_other hfm]; exact f1
  refine W.freezeL c0 fun φ2 l2 hfl => ?_
  repeat walk_at "zw"
  exact q fl fas' φ2 (l'.trans l2) hfl (by simpa using c2.mono fun _ _ h => h.le l2)
theorem walk_lp : ∀ {lots : List (List Piece)} {met : List Nat} {ps : List Piece} {met' : List Nat} {f : List Piece} {s : Nat} (R : Rt w H0) (hl4 : lots.length ≤ 4) (hgo : Go lots met ps met' f s), ∀ n, WalkLp w H0 lots (n + s) met ps met' f := by
  apply @Mine.hk6; generalize ca1 (cx _) = lots, ca2 (cx _) = met, ca3 (cx _) = ps, ca4 (cx _) = met', ca5 (cx _) = f, cz6 (cx _) = s
  intro R hl4 hgo
  induction hgo with
  | nil met =>
    intro n ll fl ml ts f0 fas ρ φ σ Q hL ht hf hm hfm ha hz hz2 e1 e2 e3 q
    cases ht
    have := q ρ φ fas (.refl _) e2 (by simpa using ha)
    have eq : upd (upd σ fl (.list (fas.map .ref))) ml (.list (intsV met)) = σ := by
      funext b
      by_cases hb : b = ml
      · subst hb; rw [upd_same, hm]
      · rw [upd_other hb]
        by_cases hb' : b = fl
        · subst hb'; rw [upd_same, hf]
        · rw [upd_other hb']
    rw [eq] at this
    exact this
  | @skip met ps met' f s p hnp hgo ih =>
    intro n ll fl ml ts f0 fas ρ φ σ Q hL ht hf hm hfm ha hz hz2 e1 e2 e3 q
    cases ht with
    | @cons t _ ts _ ht hts =>
    have hal := ha.len
    simp only [List.length_cons] at hz
    rw [Piece.tup_eq] at ht
    show AW _ _ _ _ _ _ _ _ _ _
    refine A_tup rfl rfl ht (A_local rfl (A_local rfl (A_local rfl ?_)))
    refine X_cons ?_
    repeat walk_at "zw"
    refine E_append rfl (fun _ => rfl) ?_
    repeat walk_at "zw"
    refine ⟨fl, rfl, ⟨_, .inl hf⟩, ?_⟩
    refine E_tuple ?_
    repeat walk_at "zw"
    refine ⟨by simp, fun ta φ1 g1 g2 l1 hta => ?_⟩
    refine ⟨_, hf, by simp; lia, rfl, ?_⟩
    have hf1 := upd_same σ fl (C.list (fas.map V.ref ++ [V.ref ta]))
    have hm1 : upd σ fl (C.list (fas.map V.ref ++ [V.ref ta])) ml = some (.list (intsV met)) := by rw [upd_other hfm.symm]; exact hm
    have e : fas.map V.ref ++ [V.ref ta] = (fas ++ [ta]).map V.ref := by simp
    rw [e] at hf1 hm1 ⊢
    have next : ∀ φ2, Le φ1 φ2 → Le φ φ2 ∧ Lp w H0 d699.scope (n + (s + 1)) (forT walkF) (forB walkF) ((ts.map V.ref).map .v) (setL (setL (setL ρ "word" (.str p.word)) "what" p.what) "way" p.way) φ2 (upd σ fl (.list ((fas ++ [ta]).map .ref))) Q := fun φ2 l2 => by
      refine ⟨l1.trans l2, ?_⟩
      have ih := ih (n + 1) (ll := ll) (f0 := f0 ++ [p]) (fas := fas ++ [ta]) (ρ := setL (setL (setL ρ "word" (.str p.word)) "what" p.what) "way" p.way) (φ := φ2) (Q := Q) ((hL.le l1).le l2) (hts.mono fun _ _ h => (h.le l1).le l2) hf1 hm1 hfm ((ha.mono fun _ _ h => (h.le l1).le l2).snoc (hta.le l2)) (by simp; lia) hz2 e1 e2 e3 fun ρ' φ' fas' l' c1 c2 => by
        rw [upd_upd]
        exact q ρ' φ' fas' (l1.trans (l2.trans l')) c1 (by simpa using c2)
      rwa [show n + 1 + s = n + (s + 1) by lia] at ih
    repeat walk_at "zw"
    cases hp : p.isProc with
    | false =>
      refine ⟨fun h => absurd h (by rw [Piece.word_ne hp]; decide), fun _ => ?_⟩
      refine ⟨fun h => Bool.noConfusion h, fun _ => ?_⟩
      refine X_nil ?_
      repeat walk_at "zw"
      exact next φ1 (.refl _)
    | true =>
      obtain ⟨g, way, rfl⟩ : ∃ g way, p = .proc g way := by
        cases p with
        | proc a b => exact ⟨a, b, rfl⟩
        | _ => cases hp
      refine ⟨fun _ => ?_, fun h => absurd h (show ¬ ((Str.ofString "proc" == Str.ofString "proc") = false) by decide)⟩
      repeat walk_at "zw"
      refine C_notInLI (.inl hm1) ?_
      rw [ints_in]
      have hgm := hnp g way rfl
      refine ⟨_, rfl, fun h => ?_, fun _ => ?_⟩
      · simp [hgm] at h
      refine X_nil ?_
      repeat walk_at "zw"
      exact next φ1 (.refl _)
  | @into met g way qs met1 f1 s1 ps met' f2 s2 hng hq h1 h2 ih1 ih2 =>
    intro n ll fl ml ts f0 fas ρ φ σ Q hL ht hf hm hfm ha hz hz2 e1 e2 e3 q
    cases ht with
    | @cons t _ ts _ ht hts =>
    have hal := ha.len
    simp only [List.length_cons, List.length_append] at hz
    have gr1 := h1.grow
    have gr2 := h2.grow
    have gm := h2.metLe
    have gm1 := h1.metLe
    show AW _ _ _ _ _ _ _ _ _ _
    refine A_tup rfl rfl ht (A_local rfl (A_local rfl (A_local rfl ?_)))
    refine X_cons ?_
    repeat walk_at "zw"
    refine E_append rfl (fun _ => rfl) ?_
    repeat walk_at "zw"
    refine ⟨fl, rfl, ⟨_, .inl hf⟩, ?_⟩
    refine E_tuple ?_
    repeat walk_at "zw"
    refine ⟨by simp, fun ta φ1 g1 g2 l1 hta => ?_⟩
    refine ⟨_, hf, by simp; lia, rfl, ?_⟩
    have hf1 := upd_same σ fl (C.list (fas.map V.ref ++ [V.ref ta]))
    have hm1 : upd σ fl (C.list (fas.map V.ref ++ [V.ref ta])) ml = some (.list (intsV met)) := by rw [upd_other hfm.symm]; exact hm
    have e : fas.map V.ref ++ [V.ref ta] = (fas ++ [ta]).map V.ref := by simp
    rw [e] at hf1 hm1 ⊢
    repeat walk_at "zw"
    refine C_notInLI (.inl hm1) ?_
    rw [ints_in]
    refine ⟨_, rfl, fun _ => ?_, fun h => by simp [hng] at h⟩
    repeat walk_at "zw"
    refine E_extend rfl (fun _ => rfl) ?_
    repeat walk_at "zw"
    refine ⟨fl, rfl, ⟨_, .inl hf1⟩, ?_⟩
    repeat walk_at "zw"
    rw [show n + (s1 + s2 + 1) = n + s2 + s1 + 1 by lia]
    refine walk_fn (n := n + s2 + s1) R hq hl4 (ih1 (n + s2)) (hL.le l1) hm1 (by lia) (by lia) (by simp at gm1; lia) fun f2l fas2 φ2 l2 k1 k2 => ?_
    repeat walk_at "zw"
    have hf2 : upd (upd σ fl (C.list ((fas ++ [ta]).map V.ref))) ml (C.list (intsV met1)) fl = some (.list ((fas ++ [ta]).map .ref)) := by rw [upd_other hfm]; exact hf1
    have k2l := k2.len
    refine ⟨f2l, _, _, rfl, hf2, .inr k1, by simp; lia, by simp; lia, rfl, ?_⟩
    have e2' : (fas ++ [ta]).map V.ref ++ fas2.map V.ref = (fas ++ [ta] ++ fas2).map V.ref := by simp
    rw [e2']
    repeat walk_at "zw"
    refine ⟨l1.trans l2, ?_⟩
    have ih := ih2 (n + s1 + 1) (ll := ll) (f0 := f0 ++ [.proc g way] ++ f1) (fas := fas ++ [ta] ++ fas2) (ρ := setL (setL (setL ρ "word" (.str "proc")) "what" (.int g)) "way" (.int way)) (φ := φ2) (Q := Q) ((hL.le l1).le l2) (hts.mono fun _ _ h => (h.le l1).le l2) (upd_same (upd (upd σ fl (C.list ((fas ++ [ta]).map V.ref))) ml (C.list (intsV met1))) fl _) (by rw [upd_other hfm.symm]; exact upd_same _ _ _) hfm (All2.app ((ha.mono fun _ _ h => (h.le l1).le l2).snoc (a := Piece.proc g way) (hta.le l2)) k2) (by simp; lia) hz2 e1 e2 e3 fun ρ' φ' fas' l' c1 c2 => by
      have eq : upd (upd (upd (upd (upd σ fl (.list ((fas ++ [ta]).map .ref))) ml (.list (intsV met1))) fl (.list ((fas ++ [ta] ++ fas2).map .ref))) fl (.list (fas'.map .ref))) ml (.list (intsV met')) = upd (upd σ fl (.list (fas'.map .ref))) ml (.list (intsV met')) := by
        rw [upd_upd, upd_comm hfm, upd_upd, upd_comm hfm.symm, upd_upd, upd_comm hfm]
      rw [eq]
      exact q ρ' φ' fas' (l1.trans (l2.trans l')) c1 (by simpa using c2)
    rwa [show n + s1 + 1 + s2 = n + s2 + s1 + 1 by lia] at ih
end
end
section
variable {n : Nat} {φ : Ph} {σ : Sg} {Q : V → Ph → Sg → Prop}
section
variable {sc : Scope} {ρ : Lo}
theorem W.fz {α β : Type} {R : β → α → Prop} {t : Env → Sem α} {Q : β → Lo → Ph → Sg → Prop} (h : W w H0 sc n R t ρ φ σ (fun b ρ' φ' σ' => ∃ a ws, σ' a = some (.list ws) ∧ ∀ φ'', Le φ' φ'' → LstP φ'' a ws → Q b ρ' φ'' (del σ' a))) : W w H0 sc n R t ρ φ σ Q := fun τ env A s k =>
  wpAny_mono (h τ env A s k) (fun x s' hPt => by
    obtain ⟨b, ρ', φ', σ', h1, h2, h3, a, ws, e, q⟩ := hPt
    obtain ⟨o, ⟨items, m, ho, hv⟩, hn, k', l⟩ := h2.freeze e
    exact ⟨b, ρ', _, _, h1, k', h3, q _ l ⟨items, m, by rw [← ho]; exact updP_same _ _ _, hv⟩⟩) fun _ _ x => x
theorem W.dp {α β : Type} {R : β → α → Prop} {t : Env → Sem α} {Q : β → Lo → Ph → Sg → Prop} (h : W w H0 sc n R t ρ φ σ (fun b ρ' φ' σ' => ∃ σ'', (∀ a c, σ'' a = some c → σ' a = some c) ∧ Q b ρ' φ' σ'')) : W w H0 sc n R t ρ φ σ Q := fun τ env A s k =>
  wpAny_mono (h τ env A s k) (fun x s' hPt => by obtain ⟨b, ρ', φ', σ', h1, h2, h3, σ'', e, q⟩ := hPt; exact ⟨b, ρ', φ', σ'', h1, h2.subσ e, h3, q⟩) fun _ _ x => x
end
theorem valV_stored {K : Type} [DecidableEq K] (xs : List (K × V)) (k k' : K) (v : V) : valV (storedV xs k v) k' = if k' = k then some v else valV xs k' := by
  unfold storedV
  by_cases h : xs.any (fun kv => kv.1 = k) = true
  · rw [if_pos h]
    unfold valV
    induction xs with
    | nil => simp at h
    | cons x r ih =>
      rw [List.map_cons, List.find?_cons, List.find?_cons]
      by_cases hx : x.1 = k
      · by_cases hk : k' = k
        · subst hk; simp [hx]
        · have : ¬ k = k' := fun e => hk e.symm
          simp only [hx, if_true, this, decide_false]
          rw [if_neg hk]
          by_cases hr : r.any (fun kv => kv.1 = k) = true
          · rw [ih hr, if_neg hk]
          · have : r.map (fun kv => if kv.1 = k then (kv.1, v) else kv) = r := by
              rw [show r = r.map id by simp]
              rw [List.map_map]
              refine List.map_congr_left fun y hy => ?_
              have : ¬ y.1 = k := fun e => hr (List.any_eq_true.mpr ⟨y, hy, by simpa using e⟩)
              simp [this]
            rw [this]
      · have hr : r.any (fun kv => kv.1 = k) = true := by simpa [hx] using h
        have ih := ih hr
        by_cases hxk : x.1 = k'
        · have : ¬ k' = k := fun e => hx (hxk.trans e)
          simp [hx, hxk, this]
        · simp only [if_neg hx, hxk, decide_false]
          exact ih
  · rw [if_neg h]
    unfold valV
    rw [List.find?_append]
    by_cases hk : k' = k
    · subst hk
      have : xs.find? (fun kv => decide (kv.1 = k')) = none := by
        rw [List.find?_eq_none]
        intro y hy e
        exact h (List.any_eq_true.mpr ⟨y, hy, e⟩)
      simp [this]
    · have : ¬ k = k' := fun e => hk e.symm
      simp [hk, this]
noncomputable def Piece.kind : Piece → Str
  | .name _ => "name"
  | .lit _ => "name"
  | .op _ => "operator"
  | .int _ => "integer"
  | .row _ => "array"
  | .proc _ way => wayK way
theorem thg_of : ∀ {φ : Ph} {p : Piece} {t : Addr} {rs : List (Addr × Nat)} (h : PThing φ rs p t), ∃ v e a, Thg φ t p.kind v e a := by
  apply @Mine.hk4; generalize ca1 (cx _) = φ, ca2 (cx _) = p, ca3 (cx _) = t, cz4 (cx _) = rs
  intro h
  cases p with
  | name b => exact ⟨_, _, _, h⟩
  | lit b => exact ⟨_, _, _, h⟩
  | op b => exact ⟨_, _, _, h⟩
  | int b => exact ⟨_, _, _, h⟩
  | row g => obtain ⟨r, m, h1, s, h2, h3⟩ := h; exact ⟨_, _, _, h2⟩
  | proc g way => obtain ⟨r, m, h1, s, h2, h3⟩ := h; exact ⟨_, _, _, h2⟩
noncomputable def Piece.isOp : Piece → Option (Array UInt8)
  | .op b => some b
  | _ => none
theorem Piece.kind_ne {p : Piece} (h : p.isOp = none) : (p.kind == Str.ofString "operator") = false := by
  cases p with
  | proc g way => rcases wayK_arr way with e | e <;> (show (wayK way == Str.ofString "operator") = false; rw [e]; decide)
  | op b => cases h
  | _ => rfl
noncomputable def opsOf (f : List Piece) : List (Array UInt8) := f.filterMap Piece.isOp
noncomputable def dueL (os : List (Array UInt8)) : List (Array UInt8) := (if os.count absB = 0 then [] else [absB]) ++ (if os.count negB = 0 then [] else [negB])
structure Cnt (os : List (Array UInt8)) (xs : List (List UInt8 × V)) : Prop where
  val : ∀ b, b = absB ∨ b = negB → valV xs b.toList = if os.count b = 0 then none else some (.int (os.count b))
  keys : ∀ b ∈ xs.map (fun p => p.1.toArray), b = absB ∨ b = negB
  nd : (xs.map (·.1)).Nodup
theorem valV_none {K : Type} [DecidableEq K] {xs : List (K × V)} {k : K} : valV xs k = none ↔ k ∉ xs.map (·.1) := by
  unfold valV
  rw [Option.map_eq_none_iff, List.find?_eq_none]
  constructor
  · intro h hm
    obtain ⟨y, hy, e⟩ := List.mem_map.mp hm
    exact h y hy (by simpa using e)
  · intro h y hy e
    exact h (List.mem_map.mpr ⟨y, hy, by simpa using e⟩)
theorem storedV_keys {K : Type} [DecidableEq K] (xs : List (K × V)) (k : K) (v : V) : (storedV xs k v).map (·.1) = if k ∈ xs.map (·.1) then xs.map (·.1) else xs.map (·.1) ++ [k] := by
  unfold storedV
  by_cases h : xs.any (fun kv => kv.1 = k) = true
  · rw [if_pos h, if_pos]
    · rw [List.map_map]; refine List.map_congr_left fun y hy => ?_
      show (if y.1 = k then (y.1, v) else y).1 = y.1
      split <;> rfl
    · obtain ⟨y, hy, e⟩ := List.any_eq_true.mp h
      exact List.mem_map.mpr ⟨y, hy, by simpa using e⟩
  · rw [if_neg h, if_neg]
    · simp
    · intro hm
      obtain ⟨y, hy, e⟩ := List.mem_map.mp hm
      exact h (List.any_eq_true.mpr ⟨y, hy, by simpa using e⟩)
theorem Cnt.nil : Cnt [] [] := ⟨fun b _ => rfl, fun b h => (nomatch h), .nil⟩
set_option tactic.hygienic true in
theorem Cnt.put : ∀ {os : List (Array UInt8)} {xs : List (List UInt8 × V)} {b : Array UInt8} (h : Cnt os xs) (hb : b = absB ∨ b = negB), Cnt (os ++ [b]) (storedV xs b.toList (.int ((os.count b : Int) + 1))) := by
  apply @Mine.hk3; generalize ca1 (cx _) = os, ca2 (cx _) = xs, cz3 (cx _) = b
  intro h hb
  refine ⟨fun c hc => ?_, fun c hc => ?_, ?_⟩
  · rw [valV_stored]
    by_cases e : c = b
    · subst e; rw [if_pos rfl]; simp
    · have e' : c.toList ≠ b.toList := fun q => e (Array.toList_inj.mp q)
      rw [if_neg e', h.val c hc]
      have : (os ++ [b]).count c = os.count c := by
        rw [List.count_append, List.count_eq_zero.mpr (show c ∉ [b] by simpa using e)]; simp
      rw [this]
  · have hk := storedV_keys xs b.toList (.int ((os.count b : Int) + 1))
    rw [show (storedV xs b.toList (.int ((os.count b : Int) + 1))).map (fun p => p.1.toArray) = ((storedV xs b.toList (.int ((os.count b : Int) + 1))).map (·.1)).map List.toArray by rw [List.map_map]; rfl, hk] at hc
    have hx := h.keys
    rw [show xs.map (fun p => p.1.toArray) = (xs.map (·.1)).map List.toArray by rw [List.map_map]; rfl] at hx
    split at hc
    · exact hx c hc
    · rw [List.map_append, List.mem_append] at hc
      rcases hc with hc | hc
      · exact hx c hc
      · simp at hc; subst hc; exact hb
  · rw [storedV_keys]
    split
    · exact h.nd
    · rename_i hn
      rw [List.nodup_append]
      exact ⟨h.nd, by simp, fun x hx y hy e => by simp at hy; subst hy e; exact hn hx⟩
theorem ops_len : ∀ {l : List (Array UInt8)}, (∀ b ∈ l, b = absB ∨ b = negB) → l.length = (opsL l).length
  | [], _ => rfl
  | b :: r, h => by
    have ih := ops_len (l := r) fun c hc => h c (.tail _ hc)
    unfold opsL at ih ⊢
    simp only [List.length_append, List.length_replicate] at ih ⊢
    rcases h b (.head _) with rfl | rfl
    · rw [List.count_cons_self, List.count_cons_of_ne (show absB ≠ negB by decide), List.length_cons]; lia
    · rw [List.count_cons_self, List.count_cons_of_ne (show negB ≠ absB by decide), List.length_cons]; lia
theorem Cnt.due : ∀ {os : List (Array UInt8)} {xs : List (List UInt8 × V)} (h : Cnt os xs), opsL (xs.map fun p => p.1.toArray) = dueL os := by
  apply @Mine.hk2; generalize ca1 (cx _) = os, cz2 (cx _) = xs
  intro h
  have hc : ∀ b, b = absB ∨ b = negB → (xs.map fun p => p.1.toArray).count b = if os.count b = 0 then 0 else 1 := fun b hb => by
    have nd : (xs.map fun p => p.1.toArray).Nodup := by
      rw [show xs.map (fun p => p.1.toArray) = (xs.map (·.1)).map List.toArray by rw [List.map_map]; rfl]
      exact List.Pairwise.map _ (fun x y hxy e => hxy (by simpa using e)) h.nd
    have hv := h.val b hb
    by_cases e : os.count b = 0
    · rw [if_pos e] at hv ⊢
      rw [valV_none] at hv
      rw [List.count_eq_zero]
      intro hm
      obtain ⟨y, hy, e⟩ := List.mem_map.mp hm
      exact hv (List.mem_map.mpr ⟨y, hy, by rw [← e]⟩)
    · rw [if_neg e] at hv ⊢
      have hm : b.toList ∈ xs.map (·.1) := by
        refine Classical.byContradiction fun hn => ?_
        rw [valV_none.mpr hn] at hv; cases hv
      obtain ⟨y, hy, e2⟩ := List.mem_map.mp hm
      have : b ∈ xs.map fun p => p.1.toArray := List.mem_map.mpr ⟨y, hy, by rw [e2]⟩
      have h1 := List.count_pos_iff.mpr this
      have h2 := List.nodup_iff_count.mp nd b
      lia
  unfold opsL dueL
  rw [hc absB (.inl rfl), hc negB (.inr rfl)]
  split <;> split <;> rfl
theorem Cnt.len {os : List (Array UInt8)} {xs : List (List UInt8 × V)} (h : Cnt os xs) : xs.length ≤ 2 := by
  have h1 := ops_len h.keys
  rw [h.due, List.length_map] at h1
  unfold dueL at h1
  rw [h1, List.length_append]
  split <;> split <;> simp
end
section
variable {n : Nat} {φ : Ph} {σ : Sg} {Q : V → Ph → Sg → Prop}
noncomputable def calledF : Stmt := (bodyOf (stT 37)).getD 1 (.Pass default)
noncomputable def calledC : PySem.Expr := asE ((bodyOf (stT 37)).getD 2 (.Pass default))
section
variable {lots : List (List Piece)} {rows : List RowJ}
theorem called_lp : ∀ {n : Nat} {rs : List (Addr × Nat)} {d : Addr} (R : Rt w H0), ∀ {fts : List Addr} {f : List Piece} {os : List (Array UInt8)} {xs : List (List UInt8 × V)} {ρ : Lo} {φ : Ph} {σ : Sg} {Q : Fl → Lo → Ph → Sg → Prop},
    All2 (PThing φ rs) f fts → (∀ p ∈ f, p.opk) → Cnt os xs → xs.length ≤ 100 → σ d = some (.bdict xs) → ρ "found" = some (.ref d) →
    (∀ ρ' φ' xs', Le φ φ' → ρ' "found" = some (.ref d) → Cnt (os ++ opsOf f) xs' → Q .next ρ' φ' (upd σ d (.bdict xs'))) →
    Lp w H0 d315.scope n (forT calledF) (forB calledF) ((fts.map V.ref).map .v) ρ φ σ Q := by
  apply @Mine.hk3; generalize ca1 (cx _) = n, ca2 (cx _) = rs, cz3 (cx _) = d
  intro R
  intro fts
  induction fts with
  | nil =>
    intro f os xs ρ φ σ Q h ho hc hz hd e1 q
    cases h
    have := q ρ φ xs (.refl _) e1 (by simpa [opsOf] using hc)
    have eq : upd σ d (.bdict xs) = σ := by
      funext b
      by_cases hb : b = d
      · subst hb; rw [upd_same, hd]
      · rw [upd_other hb]
    rw [eq] at this; exact this
  | cons t fts ih =>
    intro f os xs ρ φ σ Q h ho hc hz hd e1 q
    cases h with
    | @cons p _ f _ hp hs =>
    obtain ⟨v, e, a, hT⟩ := thg_of hp
    show AW _ _ _ _ _ _ _ _ _ _
    refine A_local rfl ?_
    refine X_cons ?_
    repeat walk_at "zw"
    cases hop : p.isOp with
    | none =>
      refine ⟨fun h => absurd h (by rw [Piece.kind_ne hop]; decide), fun _ => ?_⟩
      repeat walk_at "zw"
      refine ⟨.refl _, ?_⟩
      exact ih hs (fun p hp => ho p (.tail _ hp)) hc hz hd e1 fun ρ' φ' xs' l' c1 c2 => q ρ' φ' xs' l' c1 (by simpa [opsOf, hop] using c2)
    | some b =>
      obtain rfl : p = .op b := by cases p <;> first | (cases hop; rfl) | cases hop
      have hT2 : Thg φ t "operator" (.bytes b) true 3 := hp
      have hb : b = absB ∨ b = negB := ho _ (.head _)
      refine ⟨fun _ => ?_, fun h => absurd h (show ¬ ((Str.ofString "operator" == Str.ofString "operator") = false) by decide)⟩
      clear hT
      refine X_cons ?_
      refine S_setitem ?_
      (with_reducible refine E_binop ?_)
      refine E_getB rfl (fun _ => rfl) ?_
      repeat walk_at "zw"
      refine ⟨d, rfl, ⟨_, hd⟩, ?_⟩
      repeat walk_at "zw"
      refine ⟨xs, b, rfl, hd, ?_⟩
      have hv : (valV xs b.toList).getD (.int 0) = .int (os.count b) := by
        rw [hc.val b hb]
        by_cases e : os.count b = 0
        · rw [if_pos e, e]; rfl
        · rw [if_neg e]; rfl
      rw [hv]
      repeat walk_at "zw"
      refine G_setB hd (by lia) ?_
      repeat walk_at "zw"
      refine ⟨.refl _, ?_⟩
      have hc2 := hc.put hb
      refine ih hs (fun p hp => ho p (.tail _ hp)) hc2 (by have := hc2.len; lia) (upd_same _ _ _) e1 fun ρ' φ' xs' l' c1 c2 => ?_
      · rw [upd_upd]
        exact q ρ' φ' xs' l' c1 (by simpa [opsOf, Piece.isOp] using c2)
theorem called_comp : ∀ {n : Nat} {d : Addr} {os : List (Array UInt8)} {xs : List (List UInt8 × V)} {ρ : Lo} (R : Rt w H0) (hc : Cnt os xs) (e1 : ρ "found" = some (.ref d)) (e2 : ρ "octets" = none), ∀ {bs : List (Array UInt8)} {b0 : List (Array UInt8)} {as : List Addr} {φ : Ph} {σ : Sg} {Q : List V → Ph → Sg → Prop},
    σ d = some (.bdict xs) → (∀ b ∈ bs, (b = absB ∨ b = negB) ∧ os.count b ≠ 0) → All2 (fun b a => Tup φ a [.bytes b, .int (os.count b)]) b0 as → b0.length + bs.length ≤ 100 →
    (∀ φ' as', Le φ φ' → All2 (fun b a => Tup φ' a [.bytes b, .int (os.count b)]) (b0 ++ bs) as' → Q (as'.map .ref) φ' σ) →
    Lc w H0 (relab d315.scope (cSc calledC)) n (cTgt calledC) (cIfs calledC) (cElt calledC) ρ ((bs.map V.bytes).map .v) (as.map .ref) φ σ Q := by
  apply @Mine.hk5; generalize ca1 (cx _) = n, ca2 (cx _) = d, ca3 (cx _) = os, ca4 (cx _) = xs, cz5 (cx _) = ρ
  intro R hc e1 e2
  intro bs
  induction bs with
  | nil =>
    intro b0 as φ σ Q hd hb ha hz q
    exact q φ as (.refl _) (by simpa using ha)
  | cons b bs ih =>
    intro b0 as φ σ Q hd hb ha hz q
    simp only [List.length_cons] at hz
    have hal := ha.len
    refine ⟨by simp; lia, ?_⟩
    show AW _ _ _ _ _ _ _ _ _ _
    refine A_local rfl ?_
    refine ⟨fun _ => ?_, fun h => Bool.noConfusion h⟩
    refine E_tuple ?_
    repeat walk_at "zw"
    (with_reducible refine B_item ?_ ?_); (intro _; with_unfolding_all rfl)
    have hv := hc.val b (hb b (.head _)).1
    rw [if_neg (hb b (.head _)).2] at hv
    refine ⟨xs, _, hd, hv, ?_⟩
    repeat walk_at "zw"
    refine ⟨by simp, fun ta φ1 g1 g2 l1 hta => ?_⟩
    refine ⟨Sub.set (.refl _) e2, l1, ?_⟩
    have ih := ih (b0 := b0 ++ [b]) (as := as ++ [ta]) (φ := φ1) (σ := σ) (Q := Q) hd (fun c hc => hb c (.tail _ hc)) ((ha.mono fun _ _ h => h.le l1).snoc hta) (by simp; lia) fun φ' as' l' c => q φ' as' (l1.trans l') (by simpa using c)
    simpa using ih
theorem dueL_ok : ∀ {os : List (Array UInt8)}, ∀ b ∈ dueL os, (b = absB ∨ b = negB) ∧ os.count b ≠ 0 := by
  apply @Mine.hk; generalize cx _ = os
  intro b hb
  unfold dueL at hb
  rcases List.mem_append.mp hb with hb | hb
  · split at hb
    · cases hb
    · simp at hb; subst hb; exact ⟨.inl rfl, by assumption⟩
  · split at hb
    · cases hb
    · simp at hb; subst hb; exact ⟨.inr rfl, by assumption⟩
theorem dueL_len {os : List (Array UInt8)} : (dueL os).length ≤ 2 := by
  unfold dueL
  rw [List.length_append]
  split <;> split <;> simp
theorem b315_1 (R : Rt w H0) {v0 : V} : Bind H0 d315 [v0] [("proc", v0)] := by
  intro s xs hx root
  refine VRs.consE hx fun _ _ h0 hx => ?_; refine VRs.nilE hx ?_; exact ⟨_, .cons h0 .nil, BindsTo.of_eq rfl⟩
theorem cw315 : ∀ {n : Nat} {φ : Ph} {σ : Sg} {Q : V → Ph → Sg → Prop} {lots : List (List Piece)} {rows : List RowJ} {g way : Nat} {t : Addr} {x : RowJ} {ps0 : List Piece} {met' : List Nat} {f : List Piece} {s : Nat} (R : Rt w H0) (hL : Lots lots) (W0 : Wld φ lots rows) (hp : PAt φ rows g way t x) (hg : lots[g]? = some ps0) (hgo : Go lots [g] ps0 met' f s) (hs : s ≤ 300) (hok : ∀ p ∈ f, p.opk) (q : ∀ a as φ', Le φ φ' → LstP φ' a (as.map .ref) → All2 (fun b a => Tup φ' a [.bytes b, .int ((opsOf f).count b)]) (dueL (opsOf f)) as → Q (.ref a) φ' σ), CW w H0 (n+4) (.ref 315) [.ref t] φ σ Q := by
  apply @Mine.hk6; generalize ca1 (cx _) = n, ca2 (cx _) = φ, ca3 (cx _) = σ, ca4 (cx _) = Q, ca5 (cx _) = lots, cz6 (cx _) = rows
  refine @Mine.hk6 _ _ _ _ _ _ _ _ _ neRowJ _ _ _ ?_; generalize ca1 (cx _) = g, ca2 (cx _) = way, ca3 (cx _) = t, ca4 (cx _) = x, ca5 (cx _) = ps0, cz6 (cx _) = met'
  apply @Mine.hk2; generalize ca1 (cx _) = f, cz2 (cx _) = s
  intro R hL W0 hp hg hgo hs hok q
  refine CW.code R (k315 R) (b315_1 R) (bk_of rfl) (X_cons ?_)
  repeat walk_at "zw"
  refine E_dict0 (c := .bdict []) (.inr (.inl rfl)) fun d d1 d2 => ?_
  refine A_cell rfl ?_
  refine X_cons ?_
  refine S_for (fun _ _ => rfl) (It_list ?_)
  repeat walk_at "zw"
  refine cw310 R hL W0 hp hg hgo hs fun fl fts φ1 l1 hfl hfts => ?_
  refine ⟨fl, fts.map .ref, rfl, hfl, .inl ⟨_, _, rfl⟩, ?_⟩
  refine called_lp R (os := []) (xs := []) hfts hok Cnt.nil (by simp) (upd_same _ _ _) rfl fun ρ' φ2 xs l2 c1 c2 => ?_
  rw [upd_upd]
  rw [List.nil_append] at c2
  refine X_cons ?_
  repeat walk_at "zw"
  refine W.dp (W.fz (E_comp rfl (fun _ _ => rfl) (It_list ?_)))
  repeat walk_at "zw"
  have hxl := c2.len
  intro ys hy
  refine W.fz (B_sortD (upd_same _ _ _) (by lia) c2.keys (fun sa s1 s2 => ⟨sa, _, upd_same _ _ _, fun φ3 l3 hsa => ?_⟩) ys hy)
  rw [del_upd s1]
  refine ⟨sa, _, rfl, hsa, .inl ⟨_, _, rfl⟩, ?_⟩
  rw [c2.due]
  refine called_comp (ρ := capL (cSc calledC) ρ') R c2 (b0 := []) (as := []) c1 rfl (upd_same _ _ _) dueL_ok .nil (by have := dueL_len (os := opsOf f); simp; lia) fun φ4 as l4 ha => ?_
  intro a a1 a2
  refine ⟨a, _, upd_same _ _ _, fun φ5 l5 hla => ?_⟩
  rw [del_upd a1]
  refine ⟨σ, fun b c e => ?_, ?_⟩
  · rw [upd_other (fun q => by subst q; rw [d1] at e; cases e)]; exact e
  · exact q a as φ5 (l1.trans (l2.trans (l3.trans (l4.trans l5)))) hla (by simpa using ha.mono fun _ _ h => h.le l5)
end
end
section
variable {n : Nat} {φ : Ph} {σ : Sg} {Q : V → Ph → Sg → Prop}
theorem b704_3 (R : Rt w H0) {v0 v1 v2 : V} : Bind H0 d704 [v0, v1, v2] [("lots", v0), ("at", v1), ("path", v2)] := by
  intro s xs hx root
  refine VRs.consE hx fun _ _ h0 hx => ?_; refine VRs.consE hx fun _ _ h1 hx => ?_; refine VRs.consE hx fun _ _ h2 hx => ?_; refine VRs.nilE hx ?_; exact ⟨_, .cons h0 (.cons h1 (.cons h2 .nil)), BindsTo.of_eq rfl⟩
noncomputable def Piece.goal : Piece → Option Nat
  | .proc g _ => some g
  | _ => none
noncomputable def goals (ps : List Piece) : List Nat := ps.filterMap Piece.goal
noncomputable def maxL : List Nat → Nat
  | [] => 0
  | a :: r => max a (maxL r)
theorem maxL_le {l : List Nat} : ∀ a ∈ l, a ≤ maxL l := by
  induction l with
  | nil => intro a h; cases h
  | cons b r ih =>
    intro a h
    rcases List.mem_cons.mp h with rfl | h
    · exact Nat.le_max_left _ _
    · exact Nat.le_trans (ih a h) (Nat.le_max_right _ _)
theorem maxL_mem : ∀ (l : List Nat), maxL l = 0 ∨ maxL l ∈ l
  | [] => .inl rfl
  | a :: r => by
    unfold maxL
    rcases Nat.le_total a (maxL r) with h | h
    · rw [Nat.max_eq_right h]
      rcases maxL_mem r with e | e
      · exact .inl e
      · exact .inr (.tail _ e)
    · rw [Nat.max_eq_left h]; exact .inr (.head _)
noncomputable def LD (lots : List (List Piece)) : Nat → List Nat → Nat → Nat
  | 0, _, _ => 99
  | k + 1, path, g => if g ∈ path then 99 else 1 + maxL ((goals (lots.getD g [])).map (LD lots k (path ++ [g])))
noncomputable def nats (l : List Nat) : List V := (l.map fun g : Nat => (g : Int)).map .int
noncomputable def depthR : PySem.Expr := asE ((bodyOf (stT 60)).getD 1 (.Pass default))
noncomputable def binR : PySem.Expr → PySem.Expr
  | .BinOp _ _ r _ => r
  | _ => default
noncomputable def arg0 : PySem.Expr → PySem.Expr
  | .Call _ (a :: _) _ _ => a
  | _ => default
noncomputable def depthC : PySem.Expr := binR (arg0 (binR depthR))
section
variable {lots : List (List Piece)}
theorem Op_fz {sc : Scope} {ρ : Lo} {Q : V → Lo → Ph → Sg → Prop} {op : PySem.Operator} {a b : V} (h : OpW w H0 sc n op a b ρ φ σ fun v ρ' φ' σ' => ∃ a ws, σ' a = some (.list ws) ∧ ∀ φ'', Le φ' φ'' → LstP φ'' a ws → Q v ρ' φ'' (del σ' a)) : OpW w H0 sc n op a b ρ φ σ Q := fun x y hx hy => W.fz (h x y hx hy)
theorem depth_lc : ∀ {n : Nat} {lots : List (List Piece)} {k : Nat} {ll pl : Addr} {path : List Nat} {g : Nat} {ρ : Lo} (R : Rt w H0) (hz : path.length ≤ 100) (ih : ∀ {φ : Ph} {σ : Sg} {g2 : Nat} {pl2 : Addr} {Q : V → Ph → Sg → Prop}, g2 < lots.length → LotsAt φ ll lots → LstP φ pl2 (nats (path ++ [g])) → (∀ φ', Le φ φ' → Q (.int (LD lots k (path ++ [g]) g2)) φ' σ) → CW w H0 (n+k) (.ref 704) [.ref ll, .int g2, .ref pl2] φ σ Q) (e1 : ρ "lots" = some (.ref ll)) (e2 : ρ "at" = some (.int g)) (e3 : ρ "path" = some (.ref pl)) (e4 : ρ "word" = none) (e5 : ρ "what" = none) (e6 : ρ "way" = none),
    ∀ {ts : List Addr} {ps : List Piece} {ds : List Nat} {φ : Ph} {σ : Sg} {Q : List V → Ph → Sg → Prop}, All2 (fun t (p : Piece) => Tup φ t p.tup) ts ps → (∀ p ∈ ps, p.ok lots.length) → LotsAt φ ll lots → LstP φ pl (nats path) → ds.length + ps.length ≤ 100 →
    (∀ φ', Le φ φ' → Q (nats (ds ++ (goals ps).map (LD lots k (path ++ [g])))) φ' σ) →
    Lc w H0 (relab d704.scope (cSc depthC)) (n+k) (cTgt depthC) (cIfs depthC) (cElt depthC) ρ ((ts.map V.ref).map .v) (nats ds) φ σ Q := by
  apply @Mine.hk6; generalize ca1 (cx _) = n, ca2 (cx _) = lots, ca3 (cx _) = k, ca4 (cx _) = ll, ca5 (cx _) = pl, cz6 (cx _) = path
  apply @Mine.hk2; generalize ca1 (cx _) = g, cz2 (cx _) = ρ
  intro R hz ih e1 e2 e3 e4 e5 e6
  intro ts
  induction ts with
  | nil =>
    intro ps ds φ σ Q ht hp hl hpl hd q
    cases ht
    exact (by simpa [goals] using q φ (.refl _) : Q (nats ds) φ σ)
  | cons t ts iht =>
    intro ps ds φ σ Q ht hp hl hpl hd q
    cases ht with
    | @cons _ p _ ps ht hts =>
    simp only [List.length_cons] at hd
    rw [Piece.tup_eq] at ht
    refine ⟨by simp [nats]; lia, ?_⟩
    show AW _ _ _ _ _ _ _ _ _ _
    refine A_tup rfl rfl ht (A_local rfl (A_local rfl (A_local rfl ?_)))
    show TW _ _ _ _ _ _ _ _ _
    refine T_cmp ?_
    repeat walk_at "zw"
    have sub : Sub ρ (setL (setL (setL ρ "word" (.str p.word)) "what" p.what) "way" p.way) := by
      intro x v e
      unfold setL
      by_cases h1 : x = "way"
      · subst h1; rw [e6] at e; cases e
      · by_cases h2 : x = "what"
        · subst h2; rw [e5] at e; cases e
        · by_cases h3 : x = "word"
          · subst h3; rw [e4] at e; cases e
          · rw [if_neg h1, if_neg h2, if_neg h3]; exact e
    refine ⟨fun h => ?_, fun h => ?_⟩
    · cases hp' : p.isProc with
      | false => rw [Piece.word_ne hp'] at h; cases h
      | true =>
        obtain ⟨g2, way, rfl⟩ : ∃ g way, p = .proc g way := by
          cases p with
          | proc a b => exact ⟨a, b, rfl⟩
          | _ => cases hp'
        have hg2 : g2 < lots.length := (hp _ (.head _)).1
        refine E_own R rfl rfl rfl ⟨704, rfl, ?_⟩
        repeat walk_at "zw"
        refine E_list ?_
        repeat walk_at "zw"
        refine ⟨by simp, fun b b1 b2 => ?_⟩
        refine fun x y hx hy => W.dp (W.fz (O_addL (.inr hpl) (.inl (upd_same _ _ _)) (by simp [nats]; lia) (by simp) (fun c c1 c2 => ⟨c, _, upd_same _ _ _, fun φ1 l1 hc => ⟨σ, fun a v e => ?_, ?_⟩⟩) x y hx hy))
        · rw [del_upd c1, upd_other (fun q => by subst q; rw [b1] at e; cases e)]; exact e
        repeat walk_at "zw"
        have hc' : LstP φ1 c (nats (path ++ [g])) := by simpa [nats] using hc
        refine ih hg2 (hl.le l1) hc' fun φ2 l2 => ?_
        refine ⟨sub, l1.trans l2, ?_⟩
        have ls := l1.trans l2
        have := iht (ds := ds ++ [LD lots k (path ++ [g]) g2]) (φ := φ2) (σ := σ) (Q := Q) (hts.mono fun _ _ h => h.le ls) (fun p hp' => hp p (.tail _ hp')) (hl.le ls) (hpl.le ls) (by simp; lia) fun φ' l' => by
          have := q φ' (ls.trans l')
          simpa [goals, Piece.goal] using this
        simpa [nats] using this
    · have hn : p.goal = none := by
        cases p with
        | proc a b => exact absurd h (show ¬ ((Str.ofString "proc" == Str.ofString "proc") = false) by decide)
        | _ => rfl
      refine ⟨sub, .refl _, ?_⟩
      exact iht hts (fun p hp' => hp p (.tail _ hp')) hl hpl (by lia) fun φ' l' => by
        have := q φ' l'
        simpa [goals, hn] using this
theorem cw704 : ∀ {lots : List (List Piece)} (R : Rt w H0) (hL : Lots lots), ∀ (k : Nat) {n : Nat} {φ : Ph} {σ : Sg} {Q : V → Ph → Sg → Prop} {ll pl : Addr} {path : List Nat} {g : Nat}, LotsAt φ ll lots → LstP φ pl (nats path) → path.Nodup → (∀ a ∈ path, a < lots.length) → g < lots.length → lots.length < k + path.length →
    (∀ φ', Le φ φ' → Q (.int (LD lots k path g)) φ' σ) → CW w H0 (n+k) (.ref 704) [.ref ll, .int g, .ref pl] φ σ Q := by
  apply @Mine.hk; generalize cx _ = lots
  intro R hL
  intro k
  induction k with
  | zero =>
    intro n φ σ Q ll pl path g hl hpl nd hb hg hk q
    have := nodup_bound lots.length path nd hb
    lia
  | succ k ih =>
    intro n φ σ Q ll pl path g hl hpl nd hb hg hk q
    have hpn := nodup_bound lots.length path nd hb
    have hsm := hL.small
    refine CW.code (n := n + k) R (k704 R) (b704_3 R) (bk_of rfl) (X_cons ?_)
    repeat walk_at "zw"
    refine C_inLI (.inr hpl) ?_
    rw [ints_in]
    refine ⟨_, rfl, fun h => ?_, fun h => ?_⟩
    · have hm : g ∈ path := by simpa using h
      repeat walk_at "zw"
      have := q φ (.refl _)
      unfold LD at this
      rw [if_pos hm] at this
      exact this
    · have hm : g ∉ path := by simpa using h
      repeat walk_at "zw"
      refine E_list ?_
      repeat walk_at "zw"
      refine ⟨by simp, fun b b1 b2 => ?_⟩
      obtain ⟨las, a1, a2⟩ := id hl
      obtain ⟨ps, hps⟩ : ∃ ps, lots[g]? = some ps := ⟨_, List.getElem?_eq_getElem hg⟩
      obtain ⟨la, c1, ts, c2, c3⟩ := a2.get2 hps
      have hpm := hL.each ps (List.mem_of_getElem? hps)
      have hgd : lots.getD g [] = ps := by simp [List.getD, hps]
      refine E_comp rfl (fun _ _ => rfl) (It_list ?_)
      repeat walk_at "zw"
      (with_reducible refine I_listc ?_ ?_); (intro _; with_unfolding_all rfl)
      refine ⟨_, .ref la, .inr a1, by lia, by lia, by simp [c1], ?_⟩
      refine ⟨la, ts.map .ref, rfl, c2, .inr ⟨⟨_, _, _, rfl⟩, fun u hu => by obtain ⟨t, _, rfl⟩ := List.mem_map.mp hu; exact ⟨t, rfl⟩⟩, ?_⟩
      refine depth_lc (path := path) (g := g) (ds := []) R (by lia) (fun {φ σ g2 pl2 Q} h1 h2 h3 h4 => ih h2 h3 (by
        rw [List.nodup_append]; exact ⟨nd, by simp, fun x hx y hy e => by simp at hy; subst hy e; exact hm hx⟩) (fun a ha => by
        rcases List.mem_append.mp ha with ha | ha
        · exact hb a ha
        · simp at ha; subst ha; exact hg) h1 (by simp; lia) h4) rfl rfl rfl rfl rfl rfl c3 (fun p hp => (hpm.2 p hp).1) hl hpl (by simp; lia) fun φ1 l1 => ?_
      intro c d1 d2
      have hcb : c ≠ b := fun e => by subst e; rw [upd_same] at d1; cases d1
      have d1' : σ c = none := by rw [upd_other hcb] at d1; exact d1
      rw [List.nil_append]
      refine fun x y hx hy => W.dp (W.fz (O_addL (vs := [.int 0]) (ws := nats ((goals ps).map (LD lots k (path ++ [g])))) (.inl (by rw [upd_other hcb.symm]; exact upd_same _ _ _)) (.inl (upd_same _ _ _)) (by simp) (by have := List.length_filterMap_le Piece.goal ps; simp [nats, goals]; lia) (fun a a1 a2 => ⟨a, _, upd_same _ _ _, fun φ2 l2 ha => ⟨σ, fun z v e => ?_, ?_⟩⟩) x y hx hy))
      · rw [del_upd a1, upd_other (fun q => by subst q; rw [d1'] at e; cases e), upd_other (fun q => by subst q; rw [b1] at e; cases e)]; exact e
      repeat walk_at "zw"
      generalize hds : (goals ps).map (LD lots k (path ++ [g])) = ds at *
      have ha' : LstP φ2 a ((((0 : Nat) :: ds).map fun g : Nat => (g : Int)).map .int) := by simpa [nats] using ha
      refine B_maxL (.inr ha') (by simp) fun M hM1 hM2 => ?_
      have hM : M = (maxL ds : Int) := by
        have h1 : (maxL ds : Int) ≤ M := by
          rcases maxL_mem ds with e | e
          · rw [e]; exact hM2 _ (by simp)
          · exact hM2 _ (List.mem_map.mpr ⟨_, .tail _ e, rfl⟩)
        obtain ⟨d, hd, rfl⟩ := List.mem_map.mp hM1
        have h2 : d ≤ maxL ds := by
          rcases List.mem_cons.mp hd with rfl | hd
          · exact Nat.zero_le _
          · exact maxL_le _ hd
        lia
      subst hM
      repeat walk_at "zw"
      have := q φ2 (l1.trans l2)
      unfold LD at this
      rw [if_neg hm, hgd, hds] at this
      exact (by simpa using this : Q (.int (1 + (maxL ds : Int))) φ2 σ)
end
end
section
section
variable {lots : List (List Piece)}
theorem goal_proc {p : Piece} {g : Nat} (h : p.goal = some g) : ∃ way, p = .proc g way := by
  cases p with
  | proc a b => cases h; exact ⟨b, rfl⟩
  | _ => cases h
inductive Dp (lots : List (List Piece)) : List (Nat × Nat) → List Nat → List Piece → Nat → Option (List (Nat × Nat) × Nat) → Nat → Prop where
  | nil (kn ab cur) : Dp lots kn ab [] cur (some (kn, cur)) 1
  | other {kn ab p ps cur r s} : p.goal = none → Dp lots kn ab ps cur r s → Dp lots kn ab (p :: ps) cur r (s + 1)
  | cyc {kn ab g way ps cur} : g ∈ ab → Dp lots kn ab (.proc g way :: ps) cur none 1
  | old {kn ab g way ps cur d r s} : g ∉ ab → kn.lookup g = some d → Dp lots kn ab ps (max cur (d + 1)) r s → Dp lots kn ab (.proc g way :: ps) cur r (s + 1)
  | bad {kn ab g way ps cur qs s} : g ∉ ab → kn.lookup g = none → lots[g]? = some qs → Dp lots kn (ab ++ [g]) qs 1 none s → Dp lots kn ab (.proc g way :: ps) cur none (s + 1)
  | good {kn ab g way ps cur qs kn1 d s1 r s2} : g ∉ ab → kn.lookup g = none → lots[g]? = some qs → Dp lots kn (ab ++ [g]) qs 1 (some (kn1, d)) s1 → Dp lots ((g, d) :: kn1) ab ps (max cur (d + 1)) r s2 → Dp lots kn ab (.proc g way :: ps) cur r (s1 + s2 + 1)
noncomputable def stepsB : Nat → Nat
  | 0 => 0
  | N + 1 => 1 + 4 * (1 + stepsB N)
theorem dp_ends : ∀ {lots : List (List Piece)} (hL : Lots lots), ∀ (N : Nat) (ab : List Nat) (ps : List Piece) (kn : List (Nat × Nat)) (cur : Nat), lots.length - ab.length ≤ N → ab.Nodup → (∀ g ∈ ab, g < lots.length) → (∀ p ∈ ps, p.ok lots.length) →
    ∃ r s, Dp lots kn ab ps cur r s ∧ s ≤ 1 + ps.length * (1 + stepsB N) := by
  apply @Mine.hk; generalize cx _ = lots
  intro hL
  intro N
  induction N with
  | zero =>
    intro ab ps
    induction ps with
    | nil => intro kn cur hN nd hb hp; exact ⟨_, _, .nil kn ab cur, by simp⟩
    | cons p ps ih =>
      intro kn cur hN nd hb hp
      cases hg : p.goal with
      | none =>
        obtain ⟨r, s, h1, h2⟩ := ih kn cur hN nd hb fun p hp' => hp p (.tail _ hp')
        exact ⟨r, s + 1, .other hg h1, by simp [stepsB] at h2 ⊢; lia⟩
      | some g =>
        obtain ⟨way, rfl⟩ := goal_proc hg
        have hgl : g < lots.length := (hp _ (.head _)).1
        have hm : g ∈ ab := by
          refine Classical.byContradiction fun h => ?_
          have := nodup_bound lots.length (g :: ab) (List.nodup_cons.mpr ⟨h, nd⟩) fun x hx => by
            rcases List.mem_cons.mp hx with rfl | hx
            · exact hgl
            · exact hb x hx
          simp at this; lia
        exact ⟨none, 1, .cyc hm, by simp [stepsB]⟩
  | succ N ihN =>
    intro ab ps
    induction ps with
    | nil => intro kn cur hN nd hb hp; exact ⟨_, _, .nil kn ab cur, by simp⟩
    | cons p ps ih =>
      intro kn cur hN nd hb hp
      have mul : (ps.length + 1) * (1 + stepsB (N + 1)) = ps.length * (1 + stepsB (N + 1)) + (1 + stepsB (N + 1)) := Nat.succ_mul _ _
      have hp' : ∀ p ∈ ps, p.ok lots.length := fun p hp' => hp p (.tail _ hp')
      cases hg : p.goal with
      | none =>
        obtain ⟨r, s, h1, h2⟩ := ih kn cur hN nd hb hp'
        exact ⟨r, s + 1, .other hg h1, by rw [List.length_cons, mul]; lia⟩
      | some g =>
        obtain ⟨way, rfl⟩ := goal_proc hg
        have hgl : g < lots.length := (hp _ (.head _)).1
        by_cases hm : g ∈ ab
        · exact ⟨none, 1, .cyc hm, by rw [List.length_cons, mul]; lia⟩
        cases hk : kn.lookup g with
        | some d =>
          obtain ⟨r, s, h1, h2⟩ := ih kn (max cur (d + 1)) hN nd hb hp'
          exact ⟨r, s + 1, .old hm hk h1, by rw [List.length_cons, mul]; lia⟩
        | none =>
          obtain ⟨qs, hq⟩ : ∃ qs, lots[g]? = some qs := ⟨_, List.getElem?_eq_getElem hgl⟩
          have hqm := hL.each qs (List.mem_of_getElem? hq)
          obtain ⟨r1, s1, a1, a2⟩ := ihN (ab ++ [g]) qs kn 1 (by simp; lia) (by
            rw [List.nodup_append]; exact ⟨nd, by simp, fun x hx y hy e => by simp at hy; subst hy e; exact hm hx⟩) (fun x hx => by
            rcases List.mem_append.mp hx with hx | hx
            · exact hb x hx
            · simp at hx; subst hx; exact hgl) fun p hp' => (hqm.2 p hp').1
          have ha2 : s1 ≤ stepsB (N + 1) := by
            unfold stepsB
            have : qs.length * (1 + stepsB N) ≤ 4 * (1 + stepsB N) := Nat.mul_le_mul_right _ hqm.1
            lia
          cases r1 with
          | none => exact ⟨none, s1 + 1, .bad hm hk hq a1, by rw [List.length_cons, mul]; lia⟩
          | some kd =>
            obtain ⟨kn1, d⟩ := kd
            obtain ⟨r, s2, b1, b2⟩ := ih ((g, d) :: kn1) (max cur (d + 1)) hN nd hb hp'
            exact ⟨r, _, .good hm hk hq a1 b1, by rw [List.length_cons, mul]; lia⟩
inductive Dep (lots : List (List Piece)) : Nat → Nat → Prop where
  | mk {g ps} (f : Nat → Nat) : lots[g]? = some ps → (∀ g' ∈ goals ps, Dep lots g' (f g')) → Dep lots g (1 + maxL ((goals ps).map f))
theorem Dep.one {g d d' : Nat} (h : Dep lots g d) : Dep lots g d' → d = d' := by
  induction h generalizing d' with
  | @mk g ps f hg hc ih =>
    intro h'
    cases h' with
    | mk f' hg' hc' =>
      rw [hg] at hg'; cases hg'
      have : (goals ps).map f = (goals ps).map f' := List.map_congr_left fun x hx => ih x hx (hc' x hx)
      rw [this]
theorem Dep.ld : ∀ {lots : List (List Piece)} {g d : Nat} (h : Dep lots g d), ∀ {k : Nat} {path : List Nat}, g < lots.length → (∀ ps ∈ lots, ∀ p ∈ ps, p.ok lots.length) → path.Nodup → (∀ a ∈ path, a < lots.length) → lots.length < k + path.length → (∀ x ∈ path, ∀ d', Dep lots x d' → d < d') →
    LD lots k path g = d ∧ d + path.length ≤ lots.length := by
  apply @Mine.hk3; generalize ca1 (cx _) = lots, ca2 (cx _) = g, cz3 (cx _) = d
  intro h
  induction h with
  | @mk g ps f hg hc ih =>
    intro k path hgl hok nd hb hk hx
    have hm : g ∉ path := fun hm => absurd (hx g hm _ (.mk f hg hc)) (Nat.lt_irrefl _)
    have nd' : (path ++ [g]).Nodup := by
      rw [List.nodup_append]; exact ⟨nd, by simp, fun x hx y hy e => by simp at hy; subst hy e; exact hm hx⟩
    have hb' : ∀ a ∈ path ++ [g], a < lots.length := fun a ha => by
      rcases List.mem_append.mp ha with ha | ha
      · exact hb a ha
      · simp at ha; subst ha; exact hgl
    have hpl := nodup_bound lots.length _ nd' hb'
    simp at hpl
    cases k with
    | zero => lia
    | succ k =>
      have hgd : lots.getD g [] = ps := by simp [List.getD, hg]
      have each : ∀ g' ∈ goals ps, LD lots k (path ++ [g]) g' = f g' ∧ f g' + (path ++ [g]).length ≤ lots.length := fun g' hg' => by
        have hle : f g' ≤ maxL ((goals ps).map f) := maxL_le _ (List.mem_map.mpr ⟨g', hg', rfl⟩)
        refine ih g' hg' ?_ hok nd' hb' (by simp; lia) fun x hx' d' hd' => ?_
        · obtain ⟨p, hp, e⟩ := List.mem_filterMap.mp hg'
          obtain ⟨way, rfl⟩ := goal_proc e
          exact (hok ps (List.mem_of_getElem? hg) _ hp).1
        · rcases List.mem_append.mp hx' with hx' | hx'
          · have := hx x hx' d' hd'; lia
          · simp at hx'; subst hx'
            have := Dep.one (.mk f hg hc) hd'
            lia
      constructor
      · unfold LD
        rw [if_neg hm, hgd]
        rw [List.map_congr_left fun g' hg' => (each g' hg').1]
      · rcases maxL_mem ((goals ps).map f) with e | e
        · rw [e]; lia
        · obtain ⟨g', hg', e'⟩ := List.mem_map.mp e
          have := (each g' hg').2
          simp at this
          lia
open Classical in
noncomputable def dF (lots : List (List Piece)) (g : Nat) : Nat := if h : ∃ d, Dep lots g d then h.choose else 0
theorem dF_eq {g d : Nat} (h : Dep lots g d) : dF lots g = d := by
  have hx : ∃ d, Dep lots g d := ⟨d, h⟩
  unfold dF
  rw [dif_pos hx]
  exact Dep.one hx.choose_spec h
noncomputable def KnOk (lots : List (List Piece)) (kn : List (Nat × Nat)) : Prop := ∀ g d, kn.lookup g = some d → Dep lots g d
theorem maxL_succ (l : List Nat) : max 1 (maxL (l.map (· + 1))) = 1 + maxL l := by
  induction l with
  | nil => rfl
  | cons a r ih => simp only [List.map_cons, maxL] at ih ⊢; lia
noncomputable def DpOk (lots : List (List Piece)) (ab : List Nat) (ps : List Piece) (cur : Nat) : Option (List (Nat × Nat) × Nat) → Prop
  | some (kn', c) => KnOk lots kn' ∧ (∀ g ∈ goals ps, Dep lots g (dF lots g)) ∧ c = max cur (maxL ((goals ps).map fun g => dF lots g + 1))
  | none => ∃ g ∈ goals ps, ∀ k, 99 ≤ LD lots k ab g
set_option tactic.hygienic true in
theorem Dp.sound : ∀ {lots : List (List Piece)} {kn ab ps cur r s} (h : Dp lots kn ab ps cur r s), KnOk lots kn → DpOk lots ab ps cur r := by
  apply @Mine.hk6; generalize ca1 (cx _) = lots, ca2 (cx _) = kn, ca3 (cx _) = ab, ca4 (cx _) = ps, ca5 (cx _) = cur, cz6 (cx _) = r
  apply @Mine.hk; generalize cx _ = s
  intro h
  induction h with
  | nil kn ab cur => intro hk; exact ⟨hk, fun g h => (nomatch h), by simp [goals, maxL]⟩
  | @other kn ab p ps cur r s hp h ih =>
    intro hk
    have e : goals (p :: ps) = goals ps := by simp [goals, hp]
    have := ih hk
    unfold DpOk at this ⊢
    rw [e]; exact this
  | @cyc kn ab g way ps cur hm =>
    intro hk
    refine ⟨g, by simp [goals, Piece.goal], fun k => ?_⟩
    cases k with
    | zero => exact Nat.le_refl _
    | succ k => unfold LD; rw [if_pos hm]; exact Nat.le_refl _
  | @old kn ab g way ps cur d r s hm hl h ih =>
    intro hk
    have hd := hk g d hl
    have hf := dF_eq hd
    have e : goals (.proc g way :: ps) = g :: goals ps := rfl
    have ih := ih hk
    unfold DpOk at ih ⊢
    rw [e]
    cases r with
    | none => exact let ⟨g', h1, h2⟩ := ih; ⟨g', .tail _ h1, h2⟩
    | some kc =>
      obtain ⟨kn', c⟩ := kc
      obtain ⟨i1, i2, i3⟩ := ih
      refine ⟨i1, fun g' hg' => ?_, ?_⟩
      · rcases List.mem_cons.mp hg' with rfl | hg'
        · rw [hf]; exact hd
        · exact i2 g' hg'
      · rw [i3]; simp only [List.map_cons, maxL, hf]; lia
  | @bad kn ab g way ps cur qs s hm hl hq h ih =>
    intro hk
    obtain ⟨g2, h1, h2⟩ := ih hk
    refine ⟨g, .head _, fun k => ?_⟩
    cases k with
    | zero => exact Nat.le_refl _
    | succ k =>
      have hgd : lots.getD g [] = qs := by simp [List.getD, hq]
      unfold LD
      rw [if_neg hm, hgd]
      have := h2 k
      have h3 := maxL_le (l := (goals qs).map (LD lots k (ab ++ [g]))) _ (List.mem_map.mpr ⟨g2, h1, rfl⟩)
      lia
  | @good kn ab g way ps cur qs kn1 d s1 r s2 hm hl hq h1 h2 ih1 ih2 =>
    intro hk
    obtain ⟨a1, a2, a3⟩ := ih1 hk
    have hd : Dep lots g d := by
      have e1 : (goals qs).map (fun g => dF lots g + 1) = ((goals qs).map (dF lots)).map (· + 1) := by rw [List.map_map]; rfl
      rw [a3, e1, maxL_succ]
      exact .mk _ hq a2
    have hf := dF_eq hd
    have ih := ih2 fun g' d' h' => by
      rw [List.lookup_cons] at h'
      split at h'
      · rename_i e; cases h'; rw [beq_iff_eq.mp e]; exact hd
      · exact a1 _ _ h'
    have e : goals (.proc g way :: ps) = g :: goals ps := rfl
    unfold DpOk at ih ⊢
    rw [e]
    cases r with
    | none => exact let ⟨g', h1, h2⟩ := ih; ⟨g', .tail _ h1, h2⟩
    | some kc =>
      obtain ⟨kn', c⟩ := kc
      obtain ⟨i1, i2, i3⟩ := ih
      refine ⟨i1, fun g' hg' => ?_, ?_⟩
      · rcases List.mem_cons.mp hg' with rfl | hg'
        · rw [hf]; exact hd
        · exact i2 g' hg'
      · rw [i3]; simp only [List.map_cons, maxL, hf]; lia
theorem Dp.meets : ∀ {lots : List (List Piece)} {g : Nat} {ps : List Piece} {r s} {k : Nat} (hL : Lots lots) (hg : lots[g]? = some ps) (h : Dp lots [] [g] ps 1 r s) (hk : lots.length < k), match r with
    | some (_, c) => LD lots k [] g = c ∧ c ≤ 4
    | none => 99 ≤ LD lots k [] g := by
  apply @Mine.hk6; generalize ca1 (cx _) = lots, ca2 (cx _) = g, ca3 (cx _) = ps, ca4 (cx _) = r, ca5 (cx _) = s, cz6 (cx _) = k
  intro hL hg h hk
  have hs := h.sound fun g d e => by cases e
  have hgl : g < lots.length := (List.getElem?_eq_some_iff.mp hg).1
  cases r with
  | some kc =>
    obtain ⟨kn', c⟩ := kc
    obtain ⟨a1, a2, a3⟩ := hs
    have hd : Dep lots g c := by
      have e1 : (goals ps).map (fun g => dF lots g + 1) = ((goals ps).map (dF lots)).map (· + 1) := by rw [List.map_map]; rfl
      rw [a3, e1, maxL_succ]
      exact .mk _ hg a2
    have := hd.ld (k := k) (path := []) hgl (fun ps hps p hp => ((hL.each ps hps).2 p hp).1) .nil (fun a h => (nomatch h)) (by simpa using hk) fun x h => (nomatch h)
    have hsm := hL.small
    refine ⟨this.1, ?_⟩
    have := this.2
    simp at this; lia
  | none =>
    obtain ⟨g2, h1, h2⟩ := hs
    cases k with
    | zero => lia
    | succ k =>
      have hgd : lots.getD g [] = ps := by simp [List.getD, hg]
      show 99 ≤ LD lots (k + 1) [] g
      unfold LD
      rw [if_neg (by simp), hgd]
      have := h2 k
      have h3 := maxL_le (l := (goals ps).map (LD lots k ([] ++ [g]))) _ (List.mem_map.mpr ⟨g2, h1, rfl⟩)
      simp only [List.nil_append] at h3 ⊢
      lia
noncomputable def DR (lots : List (List Piece)) : List (Nat × List Piece × Nat) → Nat → List Piece → Nat → List (Nat × Nat) → Option Nat → Nat → Prop
  | [], g, ps, cur, kn, r, m => ∃ o s, s ≤ m ∧ Dp lots kn [g] ps cur o s ∧ r = o.map (·.2)
  | (g', ps', cur') :: rest, g, ps, cur, kn, r, m => ∃ o s s', s + s' ≤ m ∧ Dp lots kn ((((g', ps', cur') :: rest).map (·.1)).reverse ++ [g]) ps cur o s ∧
    (match o with
    | none => r = none
    | some (kn', d) => DR lots rest g' ps' (max cur' (d + 1)) ((g, d) :: kn') r s')
noncomputable def DK (lots : List (List Piece)) (rest : List (Nat × List Piece × Nat)) (g : Nat) (o : Option (List (Nat × Nat) × Nat)) (r : Option Nat) (s' : Nat) : Prop :=
  match o, rest with
  | none, _ => r = none
  | some (_, d), [] => r = some d
  | some (kn', d), (g', ps', cur') :: rest' => DR lots rest' g' ps' (max cur' (d + 1)) ((g, d) :: kn') r s'
theorem DR_iff : ∀ {lots : List (List Piece)} {rest g ps cur kn r m}, DR lots rest g ps cur kn r m ↔ ∃ o s s', s + s' ≤ m ∧ Dp lots kn ((rest.map (·.1)).reverse ++ [g]) ps cur o s ∧ DK lots rest g o r s' := by
  apply @Mine.hk6; generalize ca1 (cx _) = lots, ca2 (cx _) = rest, ca3 (cx _) = g, ca4 (cx _) = ps, ca5 (cx _) = cur, cz6 (cx _) = kn
  apply @Mine.hk2; generalize ca1 (cx _) = r, cz2 (cx _) = m
  cases rest with
  | nil =>
    constructor
    ·
      rintro ⟨o, s, h1, h2, h3⟩
      refine ⟨o, s, 0, by lia, h2, ?_⟩
      cases o <;> exact h3
    ·
      rintro ⟨o, s, s', h1, h2, h3⟩
      refine ⟨o, s, by lia, h2, ?_⟩
      cases o <;> exact h3
  | cons f rest =>
    revert f rest; (apply @Mine.hk2; generalize ca1 (cx _) = f, cz2 (cx _) = rest); intros
    obtain ⟨g', ps', cur'⟩ := f
    revert g' ps' cur'; (apply @Mine.hk3; generalize ca1 (cx _) = g', ca2 (cx _) = ps', cz3 (cx _) = cur'); intros
    constructor
    ·
      rintro ⟨o, s, s', h1, h2, h3⟩
      refine ⟨o, s, s', h1, h2, ?_⟩
      cases o <;> exact h3
    ·
      rintro ⟨o, s, s', h1, h2, h3⟩
      refine ⟨o, s, s', h1, h2, ?_⟩
      cases o <;> exact h3
section
variable {rest : List (Nat × List Piece × Nat)} {g cur m : Nat} {kn : List (Nat × Nat)} {r : Option Nat}
theorem DR.nil_ : ∀ {lots : List (List Piece)} {rest : List (Nat × List Piece × Nat)} {g : Nat} {cur : Nat} {m : Nat} {kn : List (Nat × Nat)} {r : Option Nat} (h : DR lots rest g [] cur kn r m), ∃ s', s' < m ∧ DK lots rest g (some (kn, cur)) r s' := by
  apply @Mine.hk6; generalize ca1 (cx _) = lots, ca2 (cx _) = rest, ca3 (cx _) = g, ca4 (cx _) = cur, ca5 (cx _) = m, cz6 (cx _) = kn
  apply @Mine.hk; generalize cx _ = r
  intro h
  have hEx := DR_iff.mp h
  (refine Exists.elim hEx ?_; clear hEx; apply @Mine.hk; generalize cx _ = o; intro hEx; refine Exists.elim hEx ?_; clear hEx; apply @Mine.hk; generalize cx _ = s; intro hEx; refine Exists.elim hEx ?_; clear hEx; apply @Mine.hk; generalize cx _ = s'; intro hEx)
  obtain ⟨h1, h2, h3⟩ := hEx
  cases h2
  exact ⟨s', by lia, h3⟩
theorem DR.other_ : ∀ {lots : List (List Piece)} {rest : List (Nat × List Piece × Nat)} {g : Nat} {cur : Nat} {m : Nat} {kn : List (Nat × Nat)} {r : Option Nat} {p ps} (h : DR lots rest g (p :: ps) cur kn r m) (hp : p.goal = none), ∃ m', m' < m ∧ DR lots rest g ps cur kn r m' := by
  apply @Mine.hk6; generalize ca1 (cx _) = lots, ca2 (cx _) = rest, ca3 (cx _) = g, ca4 (cx _) = cur, ca5 (cx _) = m, cz6 (cx _) = kn
  apply @Mine.hk3; generalize ca1 (cx _) = r, ca2 (cx _) = p, cz3 (cx _) = ps
  intro h hp
  obtain ⟨o, s, s', h1, h2, h3⟩ := DR_iff.mp h
  cases h2 with
  | other _ h2 => exact ⟨_, by lia, DR_iff.mpr ⟨o, _, s', Nat.le_refl _, h2, h3⟩⟩
  | cyc => cases hp
  | old => cases hp
  | bad => cases hp
  | good => cases hp
theorem DR.cyc_ : ∀ {lots : List (List Piece)} {rest : List (Nat × List Piece × Nat)} {g : Nat} {cur : Nat} {m : Nat} {kn : List (Nat × Nat)} {r : Option Nat} {g2 way ps} (h : DR lots rest g (.proc g2 way :: ps) cur kn r m) (hg : g2 ∈ (rest.map (·.1)).reverse ++ [g]), r = none := by
  apply @Mine.hk6; generalize ca1 (cx _) = lots, ca2 (cx _) = rest, ca3 (cx _) = g, ca4 (cx _) = cur, ca5 (cx _) = m, cz6 (cx _) = kn
  apply @Mine.hk4; generalize ca1 (cx _) = r, ca2 (cx _) = g2, ca3 (cx _) = way, cz4 (cx _) = ps
  intro h hg
  have hEx := DR_iff.mp h
  (refine Exists.elim hEx ?_; clear hEx; apply @Mine.hk; generalize cx _ = o; intro hEx; refine Exists.elim hEx ?_; clear hEx; apply @Mine.hk; generalize cx _ = s; intro hEx; refine Exists.elim hEx ?_; clear hEx; apply @Mine.hk; generalize cx _ = s'; intro hEx)
  obtain ⟨h1, h2, h3⟩ := hEx
  cases h2 with
  | other hp _ => cases hp
  | cyc => exact h3
  | old hn => exact absurd hg hn
  | bad hn => exact absurd hg hn
  | good hn => exact absurd hg hn
theorem DR.old_ : ∀ {lots : List (List Piece)} {rest : List (Nat × List Piece × Nat)} {g : Nat} {cur : Nat} {m : Nat} {kn : List (Nat × Nat)} {r : Option Nat} {g2 way ps d} (h : DR lots rest g (.proc g2 way :: ps) cur kn r m) (hg : g2 ∉ (rest.map (·.1)).reverse ++ [g]) (hl : kn.lookup g2 = some d), ∃ m', m' < m ∧ DR lots rest g ps (max cur (d + 1)) kn r m' := by
  apply @Mine.hk6; generalize ca1 (cx _) = lots, ca2 (cx _) = rest, ca3 (cx _) = g, ca4 (cx _) = cur, ca5 (cx _) = m, cz6 (cx _) = kn
  apply @Mine.hk5; generalize ca1 (cx _) = r, ca2 (cx _) = g2, ca3 (cx _) = way, ca4 (cx _) = ps, cz5 (cx _) = d
  intro h hg hl
  have hEx := DR_iff.mp h
  (refine Exists.elim hEx ?_; clear hEx; apply @Mine.hk; generalize cx _ = o; intro hEx; refine Exists.elim hEx ?_; clear hEx; apply @Mine.hk; generalize cx _ = s; intro hEx; refine Exists.elim hEx ?_; clear hEx; apply @Mine.hk; generalize cx _ = s'; intro hEx)
  obtain ⟨h1, h2, h3⟩ := hEx
  cases h2 with
  | other hp _ => cases hp
  | cyc hc => exact absurd hc hg
  | old hn hl' h2 => rw [hl] at hl'; cases hl'; exact ⟨_, by lia, DR_iff.mpr ⟨o, _, s', Nat.le_refl _, h2, h3⟩⟩
  | bad hn hl' => rw [hl] at hl'; cases hl'
  | good hn hl' => rw [hl] at hl'; cases hl'
theorem DR.new_ : ∀ {lots : List (List Piece)} {rest : List (Nat × List Piece × Nat)} {g : Nat} {cur : Nat} {m : Nat} {kn : List (Nat × Nat)} {r : Option Nat} {g2 way ps} (h : DR lots rest g (.proc g2 way :: ps) cur kn r m) (hg : g2 ∉ (rest.map (·.1)).reverse ++ [g]) (hl : kn.lookup g2 = none), ∃ qs m', lots[g2]? = some qs ∧ m' < m ∧ DR lots ((g, ps, cur) :: rest) g2 qs 1 kn r m' := by
  apply @Mine.hk6; generalize ca1 (cx _) = lots, ca2 (cx _) = rest, ca3 (cx _) = g, ca4 (cx _) = cur, ca5 (cx _) = m, cz6 (cx _) = kn
  apply @Mine.hk4; generalize ca1 (cx _) = r, ca2 (cx _) = g2, ca3 (cx _) = way, cz4 (cx _) = ps
  intro h hg hl
  obtain ⟨o, s, s', h1, h2, h3⟩ := DR_iff.mp h
  cases h2 with
  | other hp _ => cases hp
  | cyc hc => exact absurd hc hg
  | old hn hl' h2 => rw [hl] at hl'; cases hl'
  | @bad _ _ _ _ _ _ qs t1 hn hl' hq h2 =>
    have e : ((((g, ps, cur) :: rest).map (·.1)).reverse ++ [g2]) = (rest.map (·.1)).reverse ++ [g] ++ [g2] := by simp
    exact ⟨_, t1 + 0, hq, by lia, DR_iff.mpr ⟨none, t1, 0, Nat.le_refl _, by rw [e]; exact h2, h3⟩⟩
  | @good _ _ _ _ _ _ qs kn1 d t1 _ t2 hn hl' hq h2 h2' =>
    have e : ((((g, ps, cur) :: rest).map (·.1)).reverse ++ [g2]) = (rest.map (·.1)).reverse ++ [g] ++ [g2] := by simp
    exact ⟨_, t1 + (t2 + s'), hq, by lia, DR_iff.mpr ⟨some _, t1, t2 + s', Nat.le_refl _, by rw [e]; exact h2, DR_iff.mpr ⟨o, _, s', Nat.le_refl _, h2', h3⟩⟩⟩
end
end
end
section
variable {n : Nat} {φ : Ph} {σ : Sg} {Q : V → Ph → Sg → Prop}
theorem b322_1 (R : Rt w H0) {v0 : V} : Bind H0 d322 [v0] [("proc", v0)] := by
  intro s xs hx root
  refine VRs.consE hx fun _ _ h0 hx => ?_; refine VRs.nilE hx ?_; exact ⟨_, .cons h0 .nil, BindsTo.of_eq rfl⟩
theorem E_neg1 : ∀ {n : Nat} {φ : Ph} {σ : Sg} {sc : Scope} {ρ : Lo} {Q : V → Lo → Ph → Sg → Prop} {k : Nat} {p pos : Pos} (q : Q (.int (-1)) ρ φ σ), EW w H0 sc n (.UnaryOp .USub (.Constant (.int 1) k p) pos) ρ φ σ Q := by
  apply @Mine.hk6; generalize ca1 (cx _) = n, ca2 (cx _) = φ, ca3 (cx _) = σ, ca4 (cx _) = sc, ca5 (cx _) = ρ, cz6 (cx _) = Q
  apply @Mine.hk3; generalize ca1 (cx _) = k, ca2 (cx _) = p, cz3 (cx _) = pos
  intro q
  refine @Mine.hk4 _ _ _ _ _ _ neAround neShared _ ?_; generalize ca1 (cx _) = τ, ca2 (cx _) = env, ca3 (cx _) = A, cz4 (cx _) = s
  intro kk
  show wpAny _ _ (do let v ← eval (.Constant (.int 1) k p) env; standAt pos; holding [v] (unaryOp .USub v)) _ _ _
  refine wpAny_bind (wpAny_mono ((E_int (sc := sc) (n := n) (ρ := ρ) (φ := φ) (σ := σ) (i := 1) (k := k) (pos := p) (Q := fun v ρ' φ' σ' => v = .int 1 ∧ ρ' = ρ ∧ φ' = φ ∧ σ' = σ) ⟨rfl, rfl, rfl, rfl⟩) τ env A s kk) (fun x s1 hPt => ?_) fun _ _ x => x)
  obtain ⟨b1, ρ1, φ1, σ1, r1, k1, m1, e1, e2, e3, e4⟩ := hPt
  subst e1 e2 e3 e4; cases r1
  refine wpAny_bind (wpAny_standAt (wpAny_holding ?_))
  exact neg_int ⟨_, ρ1, φ1, σ1, .int _ _, k1.at rfl, m1.trans ⟨rfl, rfl⟩, q⟩
theorem seenD_last (rows : List RowJ) (G : List Nat) (g : Nat) : (seenD rows (G ++ [g]))[G.length]? = some (kg rows g, .bool true) ∧ (seenD rows (G ++ [g])).eraseIdx G.length = seenD rows G := by
  unfold seenD
  rw [List.map_append]
  constructor
  · rw [List.getElem?_append_right (by simp)]; simp
  · rw [List.eraseIdx_append_of_length_le (by simp)]; simp
noncomputable def optV : Option Nat → V
  | none => .none
  | some d => .int d
noncomputable def KnRep (rows : List RowJ) (kn : List (Nat × Nat)) (xs : List (List Scal × V)) : Prop := ∀ g, valV xs (kg rows g) = (kn.lookup g).map fun d : Nat => V.int d
theorem KnRep.put {rows kn xs} (h : KnRep rows kn xs) (g d : Nat) : KnRep rows ((g, d) :: kn) (storedV xs (kg rows g) (.int d)) := fun g' => by
  rw [valV_stored, List.lookup_cons]
  by_cases e : g' = g
  · subst e; simp
  · have : ¬ kg rows g' = kg rows g := fun q => e (kg_inj q)
    rw [if_neg this, h g']
    have : (g' == g) = false := by simpa using e
    rw [this]
structure DFr where
  a : Addr
  t : Addr
  g : Nat
  way : Nat
  x : RowJ
  ps : List Piece
  i : Nat
  cur : Nat
theorem neDFr : Nonempty DFr := ⟨⟨default, default, 0, 0, ⟨default, default, []⟩, [], 0, 0⟩⟩
noncomputable def DFr.vals (f : DFr) : List V := [.ref f.t, .int f.i, .int f.cur]
noncomputable def DFr.abs (f : DFr) : Nat × List Piece × Nat := (f.g, f.ps.drop f.i, f.cur)
structure DFOk (φ : Ph) (σ σ0 : Sg) (lots : List (List Piece)) (rows : List RowJ) (kd ad rl : Addr) (f : DFr) : Prop where
  pat : PAt φ rows f.g f.way f.t f.x
  lot : lots[f.g]? = some f.ps
  le : f.i ≤ f.ps.length
  cell : σ f.a = some (.list f.vals)
  fresh : σ0 f.a = none
  ne : f.a ≠ kd ∧ f.a ≠ ad ∧ f.a ≠ rl
theorem DFOk.step {φ φ' : Ph} (l : Le φ φ') {σ σ0 : Sg} {lots rows kd ad rl} {y : DFr} (h : DFOk φ σ σ0 lots rows kd ad rl y) {σ' : Sg} (e : σ' y.a = σ y.a) : DFOk φ' σ' σ0 lots rows kd ad rl y :=
  ⟨h.pat.le l, h.lot, h.le, e.trans h.cell, h.fresh, h.ne⟩
structure DI (φ0 : Ph) (σ0 : Sg) (lots : List (List Piece)) (rows : List RowJ) (kd ad rl : Addr) (r : Option Nat) (m : Nat) (ρ : Lo) (φ : Ph) (σ : Sg) : Prop where
  le : Le φ0 φ
  kn : ρ "known" = some (.ref kd)
  ab : ρ "above" = some (.ref ad)
  rw_ : ρ "rows" = some (.ref rl)
  out : ∀ a c, σ0 a = some c → σ a = some c
  st : ∃ (f : DFr) (rest : List DFr) (kn : List (Nat × Nat)) (xs : List (List Scal × V)), (∀ y ∈ f :: rest, DFOk φ σ σ0 lots rows kd ad rl y) ∧ ((f :: rest).map fun y => y.a).Nodup ∧ ((f :: rest).map fun y => y.g).Nodup ∧
    σ rl = some (.list ((f :: rest).reverse.map fun y => .ref y.a)) ∧ σ ad = some (.tdict (seenD rows ((f :: rest).reverse.map fun y => y.g))) ∧ σ kd = some (.tdict xs) ∧ KnRep rows kn xs ∧ xs.length + m ≤ 800 ∧
    DR lots (rest.map DFr.abs) f.g (f.ps.drop f.i) f.cur kn r m
section
variable {lots : List (List Piece)} {rows : List RowJ}
theorem cw322 : ∀ {n : Nat} {φ : Ph} {σ : Sg} {Q : V → Ph → Sg → Prop} {lots : List (List Piece)} {rows : List RowJ} {g way : Nat} {t : Addr} {x : RowJ} {ps0 : List Piece} {r : Option Nat} {m : Nat} (R : Rt w H0) (hL : Lots lots) (W0 : Wld φ lots rows) (hp : PAt φ rows g way t x) (hg : lots[g]? = some ps0) (hdr : DR lots [] g ps0 1 [] r m) (hm : m ≤ 700) (q : ∀ φ', Le φ φ' → Q (optV r) φ' σ), CW w H0 (n+3) (.ref 322) [.ref t] φ σ Q := by
  apply @Mine.hk6; generalize ca1 (cx _) = n, ca2 (cx _) = φ, ca3 (cx _) = σ, ca4 (cx _) = Q, ca5 (cx _) = lots, cz6 (cx _) = rows
  refine @Mine.hk6 _ _ _ _ _ _ _ _ _ neRowJ _ _ _ ?_; generalize ca1 (cx _) = g, ca2 (cx _) = way, ca3 (cx _) = t, ca4 (cx _) = x, ca5 (cx _) = ps0, cz6 (cx _) = r
  apply @Mine.hk; generalize cx _ = m
  intro R hL W0 hp hg hdr hm q
  refine CW.code R (k322 R) (b322_1 R) (bk_of rfl) (X_cons ?_)
  repeat walk_at "zw"
  refine E_dict0 (c := .tdict []) (.inr (.inr rfl)) ?_; (apply @Mine.hk; generalize cx _ = kd); intro d1 d2
  repeat walk_at "zw"
  refine E_dictD (c := .tdict []) (.inr (.inr rfl)) rfl rfl (by simp) (by simp) ?_; (apply @Mine.hk; generalize cx _ = ad); intro g1 g2
  show EW _ _ _ _ _ _ _ _ _
  repeat walk_at "zw"
  refine pkey R W0 hp ?_; (apply @Mine.hk2; generalize ca1 (cx _) = k, cz2 (cx _) = φ1); intro l1 hk
  repeat walk_at "zw"
  show DsW _ _ _ _ _ _ _ _ _ _ _
  refine DS_t hk (upd_same _ _ _) (by simp) ?_
  rw [upd_upd]
  have hka : kd ≠ ad := fun e => by subst e; rw [upd_same] at g1; cases g1
  have g1' : σ ad = none := by rw [upd_other hka.symm] at g1; exact g1
  show AW _ _ _ _ _ _ _ _ _ _
  repeat walk_at "zw"
  refine E_list ?_
  refine A_cons ?_ (fun _ => rfl)
  refine E_list ?_
  repeat walk_at "zw"
  refine ⟨by simp, ?_⟩; (apply @Mine.hk; generalize cx _ = a0); intro a1 a2
  repeat walk_at "zw"
  refine ⟨by simp, ?_⟩; (apply @Mine.hk; generalize cx _ = rl); intro r1 r2
  refine A_local rfl ?_
  refine X_cons ?_
  have e1 : a0 ≠ ad := fun e => by subst e; rw [upd_same] at a1; cases a1
  have e2 : a0 ≠ kd := fun e => by subst e; rw [upd_other hka, upd_same] at a1; cases a1
  have a1' : σ a0 = none := by rw [upd_other e1, upd_other e2] at a1; exact a1
  have e3 : rl ≠ a0 := fun e => by subst e; rw [upd_same] at r1; cases r1
  have e4 : rl ≠ ad := fun e => by subst e; rw [upd_other e3, upd_same] at r1; cases r1
  have e5 : rl ≠ kd := fun e => by subst e; rw [upd_other e3, upd_other e4, upd_same] at r1; cases r1
  have r1' : σ rl = none := by rw [upd_other e3, upd_other e4, upd_other e5] at r1; exact r1
  refine S_whileI (m := m) (DI φ σ lots rows kd ad rl r) ?turn ⟨l1, rfl, rfl, rfl, fun a c e => ?_, ⟨a0, t, g, way, x, ps0, 0, 1⟩, [], [], [], fun y hy => ?_, by simp, by simp, by rw [upd_same]; rfl, ?_, ?_, fun g => rfl, by simpa using (by lia : m ≤ 800), by simpa using hdr⟩
  case turn =>
    (apply @Mine.hk4; generalize ca1 (cx _) = m, ca2 (cx _) = ρ, ca3 (cx _) = φ3, cz4 (cx _) = σ3)
    intro h
    obtain ⟨hle, hkn, hab, hrw, hout, h⟩ := h
    (refine Exists.elim h ?_; clear h; refine @Mine.hk _ neDFr _ ?_; generalize cx _ = f; intro h; refine Exists.elim h ?_; clear h; apply @Mine.hk; generalize cx _ = rest; intro h; refine Exists.elim h ?_; clear h; apply @Mine.hk; generalize cx _ = kn; intro h; refine Exists.elim h ?_; clear h; apply @Mine.hk; generalize cx _ = xs; intro h)
    obtain ⟨c1, c2, c3, c4, c5, c6, c7, c8, c9⟩ := h
    repeat walk_at "zw"
    refine E_neg1 ?_
    (with_reducible refine I_lastc ?_ ?_); (intro _; with_unfolding_all rfl)
    have hll := nodup_bound lots.length _ c3 fun a ha => by
      have hEx := List.mem_map.mp ha
      (refine Exists.elim hEx ?_; clear hEx; refine @Mine.hk _ neDFr _ ?_; generalize cx _ = y; intro hEx)
      obtain ⟨hy, rfl⟩ := hEx
      exact (List.getElem?_eq_some_iff.mp (c1 y hy).lot).1
    have hsm := hL.small
    simp only [List.length_map, List.length_cons] at hll
    refine ⟨_, .ref f.a, .inl c4, by simp; lia, by simp, ?_⟩
    repeat walk_at "zw"
    obtain ⟨pat, lot, le, cell, fresh, n1, n2, n3⟩ := c1 f (.head _)
    obtain ⟨s1, hT1, hS1⟩ := id pat.prc
    revert s1; (apply @Mine.hk; generalize cx _ = s1); intros
    have W3 := W0.le hle
    obtain ⟨hr1, hx1⟩ := W3.row f.g f.x pat.row
    have hEx := W3.lot pat.row
    (refine Exists.elim hEx ?_; clear hEx; apply @Mine.hk; generalize cx _ = psx; intro hEx)
    obtain ⟨hpsx, hall⟩ := hEx
    rw [lot] at hpsx; cases hpsx
    have hlen1 := hall.len
    have hsmall := (hL.each _ (List.mem_of_getElem? lot)).1
    (with_reducible refine I_listc ?_ ?_); (intro _; with_unfolding_all rfl)
    refine ⟨_, .int f.i, .inl cell, by decide, by decide, rfl, ?_⟩
    repeat walk_at "zw"
    (with_reducible refine I_listc ?_ ?_); (intro _; with_unfolding_all rfl)
    refine ⟨_, .ref f.t, .inl cell, by decide, by decide, rfl, ?_⟩
    repeat walk_at "zw"
    have hne : ∀ y ∈ rest, y.a ≠ f.a := fun y hy e => by
      rw [List.map_cons, List.nodup_cons] at c2
      exact c2.1 (List.mem_map.mpr ⟨y, hy, e⟩)
    have hab' : ((f :: rest).reverse.map fun y => y.g) = ((rest.map DFr.abs).map (·.1)).reverse ++ [f.g] := by
      rw [List.map_map, List.reverse_cons, List.map_append, List.map_reverse]; rfl
    have putf : ∀ (v : List V), (∀ a c, σ a = some c → upd σ3 f.a (.list v) a = some c) := fun v a c e => by
      rw [upd_other (fun q => by subst q; rw [fresh] at e; cases e)]; exact hout a c e
    refine ⟨fun h => ?_, fun h => ?_⟩
    ·
      have hi : f.i < f.x.ts.length := by have := of_decide_eq_true h; lia
      have hi1 : f.i < f.ps.length := by lia
      have hd := List.drop_eq_getElem_cons hi1
      have hEx := hall.get (List.getElem?_eq_getElem hi1)
      (refine Exists.elim hEx ?_; clear hEx; apply @Mine.hk; generalize cx _ = th; intro hEx)
      obtain ⟨hth, hpt⟩ := hEx
      generalize hpp : f.ps[f.i] = p at *
      rw [hd] at c9
      repeat walk_at "zw"
      (with_reducible refine I_listc ?_ ?_); (intro _; with_unfolding_all rfl)
      refine ⟨_, .ref f.t, .inl cell, by decide, by decide, rfl, ?_⟩
      repeat walk_at "zw"
      (with_reducible refine I_listc ?_ ?_); (intro _; with_unfolding_all rfl)
      refine ⟨_, .int f.i, .inl cell, by decide, by decide, rfl, ?_⟩
      repeat walk_at "zw"
      refine cw275 R hS1 hr1 (.inr hx1) (by simp) (by lia) (v := .ref th) (by simp [hth]) ?_
      refine A_local rfl ?_
      refine X_cons ?_
      refine S_setitem ?_
      repeat walk_at "zw"
      (with_reducible refine I_listc ?_ ?_); (intro _; with_unfolding_all rfl)
      refine ⟨_, .int f.i, .inl cell, by decide, by decide, rfl, ?_⟩
      repeat walk_at "zw"
      refine G_setL cell (by simp [DFr.vals]) (by decide) (by simp [DFr.vals]) ?_
      let f' : DFr := { f with i := f.i + 1 }
      have ev : f.vals.set (1 : Int).toNat (.int ((f.i : Int) + 1)) = f'.vals := rfl
      rw [ev]
      have k1 : upd σ3 f.a (.list f'.vals) f.a = some (.list f'.vals) := upd_same _ _ _
      have k4 : upd σ3 f.a (.list f'.vals) rl = some (.list ((f' :: rest).reverse.map fun y => .ref y.a)) := by
        rw [upd_other (Ne.symm n3), c4]; simp [f']
      have k5 : upd σ3 f.a (.list f'.vals) ad = some (.tdict (seenD rows ((f' :: rest).reverse.map fun y => y.g))) := by
        rw [upd_other (Ne.symm n2), c5]; simp [f']
      have k6 : upd σ3 f.a (.list f'.vals) kd = some (.tdict xs) := by rw [upd_other (Ne.symm n1)]; exact c6
      have kf : ∀ φ', Le φ3 φ' → ∀ y ∈ f' :: rest, DFOk φ' (upd σ3 f.a (.list f'.vals)) σ lots rows kd ad rl y := fun φ' l' y hy => by
        rcases List.mem_cons.mp hy with rfl | hy
        ·
          exact ⟨pat.le l', lot, hi1, k1, fresh, n1, n2, n3⟩
        ·
          exact (c1 y (.tail _ hy)).step l' (upd_other (hne y hy))
      have c2' : ((f' :: rest).map fun y => y.a).Nodup := c2
      have c3' : ((f' :: rest).map fun y => y.g).Nodup := c3
      have out4 := putf f'.vals
      generalize upd σ3 f.a (.list f'.vals) = σ4 at *
      repeat walk_at "zw"
      refine isproc R hpt ?_
      refine ⟨_, rfl, fun hb => ?_, fun hb => ?_⟩
      ·
        obtain ⟨g2, way2, rfl⟩ : ∃ g2 way2, p = .proc g2 way2 := by
          cases p with
          | proc a b => exact ⟨a, b, rfl⟩
          | _ => cases hb
        obtain ⟨x2, hx2⟩ := pat_of hpt
        repeat walk_at "zw"
        refine pkey R W3 hx2 fun k2 φ4 l4 hk2 => ?_
        refine A_local rfl ?_
        repeat walk_at "zw"
        refine C_inT ⟨_, _, hk2, k5, ?_⟩
        rw [seenD_in]
        refine ⟨_, rfl, fun hb2 => ?_, fun hb2 => ?_⟩
        ·
          have hin : g2 ∈ ((rest.map DFr.abs).map (·.1)).reverse ++ [f.g] := by
            have := of_decide_eq_true hb2
            rw [← hab']; simpa [f'] using this
          have hr := c9.cyc_ hin
          refine W.drop (σ' := σ) out4 ?_
          repeat walk_at "zw"
          subst hr
          exact q φ4 (hle.trans l4)
        ·
          have hnin : g2 ∉ ((rest.map DFr.abs).map (·.1)).reverse ++ [f.g] := by
            have := of_decide_eq_false hb2
            rw [← hab']; simpa [f'] using this
          refine X_nil ?_
          repeat walk_at "zw"
          refine C_inT ⟨_, _, hk2, k6, ?_⟩
          rw [c7 g2]
          refine ⟨_, rfl, fun hb3 => ?_, fun hb3 => ?_⟩
          ·
            obtain ⟨d, hd'⟩ : ∃ d, kn.lookup g2 = some d := by
              cases e : kn.lookup g2 with
              | none => rw [e] at hb3; cases hb3
              | some d => exact ⟨d, rfl⟩
            obtain ⟨m', hm', hdr'⟩ := c9.old_ hnin hd'
            refine X_cons ?_
            refine S_setitem ?_
            repeat walk_at "zw"
            (with_reducible refine I_listc ?_ ?_); (intro _; with_unfolding_all rfl)
            refine ⟨_, .int f.cur, .inl k1, by decide, by decide, rfl, ?_⟩
            repeat walk_at "zw"
            (with_reducible refine T_item ?_ ?_); (intro _; with_unfolding_all rfl)
            refine ⟨xs, _, .int d, hk2, k6, by rw [c7 g2, hd']; rfl, ?_⟩
            repeat walk_at "zw"
            refine G_setL k1 (by simp [DFr.vals]) (by decide) (by simp [DFr.vals]) ?_
            let f2 : DFr := { f' with cur := max f.cur (d + 1) }
            have ev2 : f'.vals.set (2 : Int).toNat (.int (if (f.cur : Int) < (d : Int) + 1 then (d : Int) + 1 else f.cur)) = f2.vals := by
              show [V.ref f.t, V.int ((f.i + 1 : Nat) : Int), V.int _] = [V.ref f.t, V.int ((f.i + 1 : Nat) : Int), V.int ((max f.cur (d + 1) : Nat) : Int)]
              have : (if (f.cur : Int) < (d : Int) + 1 then (d : Int) + 1 else (f.cur : Int)) = ((max f.cur (d + 1) : Nat) : Int) := by split <;> lia
              rw [this]
            rw [ev2]
            refine X_nil ?_
            repeat walk_at "zw"
            refine ⟨m', hm', hle.trans l4, hkn, hab, hrw, fun a c e => ?_, f2, rest, kn, xs, fun y hy => ?_, c2, c3, ?_, ?_, ?_, c7, by lia, hdr'⟩
            ·
              rw [upd_other (fun q => by subst q; rw [fresh] at e; cases e)]; exact out4 a c e
            ·
              rcases List.mem_cons.mp hy with rfl | hy
              ·
                exact ⟨pat.le l4, lot, hi1, upd_same _ _ _, fresh, n1, n2, n3⟩
              ·
                exact (kf φ4 l4 y (.tail _ hy)).step (.refl _) (upd_other (hne y hy))
            ·
              rw [upd_other (Ne.symm n3), k4]; simp [f', f2]
            ·
              rw [upd_other (Ne.symm n2), k5]; simp [f', f2]
            ·
              rw [upd_other (Ne.symm n1)]; exact k6
          ·
            have hd' : kn.lookup g2 = none := by
              cases e : kn.lookup g2 with
              | none => rfl
              | some d => rw [e] at hb3; cases hb3
            obtain ⟨qs, m', hq, hm', hdr'⟩ := c9.new_ hnin hd'
            have hnin' : g2 ∉ (f' :: rest).reverse.map fun y => y.g := of_decide_eq_false hb2
            have hgl : ((f' :: rest).reverse.map fun y => y.g).length ≤ 4 := by simp; lia
            refine X_cons ?_
            refine S_setitem ?_
            repeat walk_at "zw"
            refine G_setT hk2 k5 (by simp [seenD]; lia) ?_
            rw [seenD_put _ _ _ hnin']
            have k4a : upd σ4 ad (.tdict (seenD rows ((f' :: rest).reverse.map (fun y => y.g) ++ [g2]))) rl = some (.list ((f' :: rest).reverse.map fun y => .ref y.a)) := by rw [upd_other e4]; exact k4
            repeat walk_at "zw"
            refine E_append rfl (fun _ => rfl) ?_
            repeat walk_at "zw"
            refine ⟨rl, rfl, ⟨_, .inl k4a⟩, ?_⟩
            refine E_list ?_
            repeat walk_at "zw"
            refine ⟨by simp, fun b b1 b2 => ?_⟩
            have nb1 : b ≠ ad := fun e => by subst e; rw [upd_same] at b1; cases b1
            rw [upd_other nb1] at b1
            have nb2 : b ≠ rl := fun e => by subst e; rw [k4] at b1; cases b1
            have nb3 : b ≠ kd := fun e => by subst e; rw [k6] at b1; cases b1
            have nb4 : ∀ y ∈ f' :: rest, y.a ≠ b := fun y hy e => by
              have := (kf φ4 l4 y hy).cell
              rw [e, b1] at this; cases this
            have nb5 : σ b = none := by
              cases e : σ b with
              | none => rfl
              | some c => have := out4 b c e; rw [b1] at this; cases this
            refine ⟨_, by rw [upd_other nb2.symm]; exact k4a, by simp; lia, rfl, ?_⟩
            refine X_nil ?_
            repeat walk_at "zw"
            let f2 : DFr := ⟨b, th, g2, way2, x2, qs, 0, 1⟩
            refine ⟨m', hm', hle.trans l4, hkn, hab, hrw, fun a c e => ?_, f2, f' :: rest, kn, xs, fun y hy => ?_, ?_, ?_, ?_, ?_, ?_, c7, by lia, hdr'⟩
            ·
              have m1 : a ≠ rl := fun q => by subst q; rw [r1'] at e; cases e
              have m2 : a ≠ b := fun q => by subst q; rw [nb5] at e; cases e
              have m3 : a ≠ ad := fun q => by subst q; rw [g1'] at e; cases e
              rw [upd_other m1, upd_other m2, upd_other m3]; exact out4 a c e
            ·
              rcases List.mem_cons.mp hy with rfl | hy
              ·
                exact ⟨hx2.le l4, hq, Nat.zero_le _, by rw [upd_other nb2, upd_same]; rfl, nb5, nb3, nb1, nb2⟩
              ·
                have hok := kf φ4 l4 y hy
                exact hok.step (.refl _) (by rw [upd_other hok.ne.2.2, upd_other (nb4 y hy), upd_other hok.ne.2.1])
            ·
              rw [List.map_cons, List.nodup_cons]
              exact ⟨fun hm => by obtain ⟨y, hy, e⟩ := List.mem_map.mp hm; exact nb4 y hy e, c2'⟩
            ·
              rw [List.map_cons, List.nodup_cons]
              exact ⟨fun hm => hnin' (by obtain ⟨y, hy, e⟩ := List.mem_map.mp hm; exact List.mem_map.mpr ⟨y, List.mem_reverse.mpr hy, e⟩), c3'⟩
            ·
              rw [upd_same]; simp [f2]
            ·
              rw [upd_other e4.symm, upd_other nb1.symm, upd_same]; simp [f2]
            ·
              rw [upd_other e5.symm, upd_other nb3.symm, upd_other hka]; exact k6
      ·
        have hpg : p.goal = none := by cases p <;> first | rfl | cases hb
        obtain ⟨m', hm', hdr'⟩ := c9.other_ hpg
        repeat walk_at "zw"
        exact ⟨m', hm', hle, hkn, hab, hrw, out4, f', rest, kn, xs, kf φ3 (.refl _), c2', c3', k4, k5, k6, c7, by lia, hdr'⟩
    ·
      have hi : f.ps.drop f.i = [] := by
        have := of_decide_eq_false h
        exact List.drop_of_length_le (by lia)
      rw [hi] at c9
      have hEx := c9.nil_
      (refine Exists.elim hEx ?_; clear hEx; apply @Mine.hk; generalize cx _ = s'; intro hEx)
      obtain ⟨hs', hk'⟩ := hEx
      refine X_cons ?_
      refine S_exprA rfl (fun _ _ => rfl) ?_
      refine E_pop (fun _ => rfl) ?_
      repeat walk_at "zw"
      refine ⟨rl, _, .ref f.a, rfl, c4, by simp; lia, by simp, ?_⟩
      rw [show ((f :: rest).reverse.map fun y => V.ref y.a).dropLast = rest.reverse.map fun y => V.ref y.a by simp]
      have k4 : upd σ3 rl (.list (rest.reverse.map fun y => V.ref y.a)) rl = some (.list (rest.reverse.map fun y => V.ref y.a)) := upd_same _ _ _
      have k5 : upd σ3 rl (.list (rest.reverse.map fun y => V.ref y.a)) ad = some (.tdict (seenD rows (rest.reverse.map (fun y => y.g) ++ [f.g]))) := by rw [upd_other e4.symm, c5]; simp
      have k6 : upd σ3 rl (.list (rest.reverse.map fun y => V.ref y.a)) kd = some (.tdict xs) := by rw [upd_other e5.symm]; exact c6
      have kc : upd σ3 rl (.list (rest.reverse.map fun y => V.ref y.a)) f.a = some (.list f.vals) := by rw [upd_other n3]; exact cell
      have kr : ∀ y ∈ rest, DFOk φ3 (upd σ3 rl (.list (rest.reverse.map fun y => V.ref y.a))) σ lots rows kd ad rl y := fun y hy => (c1 y (.tail _ hy)).step (.refl _) (upd_other (c1 y (.tail _ hy)).ne.2.2)
      have out4 : ∀ a c, σ a = some c → upd σ3 rl (.list (rest.reverse.map fun y => V.ref y.a)) a = some c := fun a c e => by
        rw [upd_other (fun q => by subst q; rw [r1'] at e; cases e)]; exact hout a c e
      generalize upd σ3 rl (.list (rest.reverse.map fun y => V.ref y.a)) = σ4 at *
      show XW _ _ _ _ _ _ _ _ _
      repeat walk_at "zw"
      refine E_list (A_nil ⟨by simp, ?_⟩)
      (apply @Mine.hk; generalize cx _ = b)
      intro b1 b2
      refine Cm_freezeL b1 ?_
      (apply @Mine.hk; generalize cx _ = φ4)
      intro l4 hb
      refine C_eqNil (.inl k4) (.inr hb) ?_
      refine ⟨_, rfl, fun h => ?_, fun h => ?_⟩
      ·
        cases rest with
        | cons f1 rest' => simp at h
        | nil =>
        have hr : r = some f.cur := hk'
        refine X_cons (S_return (W.dp ?_))
        repeat walk_at "zw"
        (with_reducible refine I_listc ?_ ?_); (intro _; with_unfolding_all rfl)
        refine ⟨_, .int f.cur, .inl kc, by decide, by decide, rfl, ?_⟩
        refine ⟨σ, out4, ?_⟩
        subst hr
        exact q φ4 (hle.trans l4)
      ·
        cases rest with
        | nil => simp at h
        | cons f1 rest' =>
        revert f1 rest'; (refine @Mine.hk2 _ _ neDFr _ _ ?_; generalize ca1 (cx _) = f1, cz2 (cx _) = rest'); intros
        simp only [List.length_cons] at hll
        have W4 := W3.le l4
        have hdr' : DR lots (rest'.map DFr.abs) f1.g (f1.ps.drop f1.i) (max f1.cur (f.cur + 1)) ((f.g, f.cur) :: kn) r s' := hk'
        have n31 := hne f1 (.head _)
        obtain ⟨pat1, lot1, le1, cell1, fresh1, n11, n12, n13⟩ := kr f1 (.head _)
        refine X_nil ?_
        show XW _ _ _ _ _ _ _ _ _
        refine X_cons ?_
        refine S_setitem ?_
        repeat walk_at "zw"
        (with_reducible refine I_listc ?_ ?_); (intro _; with_unfolding_all rfl)
        refine ⟨_, .int f.cur, .inl kc, by decide, by decide, rfl, ?_⟩
        repeat walk_at "zw"
        (with_reducible refine I_listc ?_ ?_); (intro _; with_unfolding_all rfl)
        refine ⟨_, .ref f.t, .inl kc, by decide, by decide, rfl, ?_⟩
        repeat walk_at "zw"
        refine pkey R W4 (pat.le l4) ?_
        (apply @Mine.hk2; generalize ca1 (cx _) = k2, cz2 (cx _) = φ5)
        intro l5 hk2
        refine G_setT hk2 k6 (by lia) ?_
        show XW _ _ _ _ _ _ _ _ _
        have j4 : upd σ4 kd (.tdict (storedV xs (kg rows f.g) (.int f.cur))) rl = some (.list ((f1 :: rest').reverse.map fun y => V.ref y.a)) := by rw [upd_other e5]; exact k4
        have j5 : upd σ4 kd (.tdict (storedV xs (kg rows f.g) (.int f.cur))) ad = some (.tdict (seenD rows ((f1 :: rest').reverse.map (fun y => y.g) ++ [f.g]))) := by rw [upd_other hka.symm]; exact k5
        have jc : upd σ4 kd (.tdict (storedV xs (kg rows f.g) (.int f.cur))) f.a = some (.list f.vals) := by rw [upd_other n1]; exact kc
        have j1 : upd σ4 kd (.tdict (storedV xs (kg rows f.g) (.int f.cur))) f1.a = some (.list f1.vals) := by rw [upd_other n11]; exact cell1
        refine X_cons ?_
        refine S_exprA rfl (fun _ _ => rfl) ?_
        refine E_popT rfl (fun _ => rfl) ?_
        repeat walk_at "zw"
        refine ⟨ad, rfl, ⟨_, j5⟩, ?_⟩
        repeat walk_at "zw"
        (with_reducible refine I_listc ?_ ?_); (intro _; with_unfolding_all rfl)
        refine ⟨_, .ref f.t, .inl jc, by decide, by decide, rfl, ?_⟩
        repeat walk_at "zw"
        refine pkey R (W4.le l5) ((pat.le l4).le l5) ?_
        (apply @Mine.hk2; generalize ca1 (cx _) = k3, cz2 (cx _) = φ6)
        intro l6 hk3
        have sl := seenD_last rows ((f1 :: rest').reverse.map (fun y => y.g)) f.g
        refine ⟨k3, _, _, _, _, rfl, hk3, j5, by simp [seenD]; lia, sl.1, ?_⟩
        rw [sl.2]
        show XW _ _ _ _ _ _ _ _ _
        refine X_cons ?_
        refine S_setitem ?_
        have i4 : upd (upd σ4 kd (.tdict (storedV xs (kg rows f.g) (.int f.cur)))) ad (.tdict (seenD rows ((f1 :: rest').reverse.map (fun y => y.g)))) rl = some (.list ((f1 :: rest').reverse.map fun y => V.ref y.a)) := by rw [upd_other e4]; exact j4
        have ic : upd (upd σ4 kd (.tdict (storedV xs (kg rows f.g) (.int f.cur)))) ad (.tdict (seenD rows ((f1 :: rest').reverse.map (fun y => y.g)))) f.a = some (.list f.vals) := by rw [upd_other n2]; exact jc
        have i1 : upd (upd σ4 kd (.tdict (storedV xs (kg rows f.g) (.int f.cur)))) ad (.tdict (seenD rows ((f1 :: rest').reverse.map (fun y => y.g)))) f1.a = some (.list f1.vals) := by rw [upd_other n12]; exact j1
        repeat walk_at "zw"
        refine E_neg1 ?_
        (with_reducible refine I_lastc ?_ ?_); (intro _; with_unfolding_all rfl)
        refine ⟨_, .ref f1.a, .inl i4, by simp at hll ⊢; lia, by simp, ?_⟩
        repeat walk_at "zw"
        (with_reducible refine I_listc ?_ ?_); (intro _; with_unfolding_all rfl)
        refine ⟨_, .int f1.cur, .inl i1, by decide, by decide, rfl, ?_⟩
        repeat walk_at "zw"
        (with_reducible refine I_listc ?_ ?_); (intro _; with_unfolding_all rfl)
        refine ⟨_, .int f.cur, .inl ic, by decide, by decide, rfl, ?_⟩
        repeat walk_at "zw"
        refine E_neg1 ?_
        (with_reducible refine I_lastc ?_ ?_); (intro _; with_unfolding_all rfl)
        refine ⟨_, .ref f1.a, .inl i4, by simp at hll ⊢; lia, by simp, ?_⟩
        repeat walk_at "zw"
        refine G_setL i1 (by simp [DFr.vals]) (by decide) (by simp [DFr.vals]) ?_
        let f2 : DFr := { f1 with cur := max f1.cur (f.cur + 1) }
        have ev2 : f1.vals.set (2 : Int).toNat (.int (if (f1.cur : Int) < (f.cur : Int) + 1 then (f.cur : Int) + 1 else f1.cur)) = f2.vals := by
          show [V.ref f1.t, V.int (f1.i : Int), V.int _] = [V.ref f1.t, V.int (f1.i : Int), V.int ((max f1.cur (f.cur + 1) : Nat) : Int)]
          have : (if (f1.cur : Int) < (f.cur : Int) + 1 then (f.cur : Int) + 1 else (f1.cur : Int)) = ((max f1.cur (f.cur + 1) : Nat) : Int) := by split <;> lia
          rw [this]
        rw [ev2]
        refine X_nil ?_
        repeat walk_at "zw"
        have ls := l4.trans (l5.trans l6)
        have hsl := storedV_len xs (kg rows f.g) (.int f.cur)
        rw [List.map_cons, List.nodup_cons] at c2 c3
        have c2b := c2.2
        rw [List.map_cons, List.nodup_cons] at c2b
        refine ⟨s', hs', hle.trans ls, hkn, hab, hrw, fun a c e => ?_, f2, rest', _, _, fun y hy => ?_, c2.2, c3.2, ?_, ?_, ?_, c7.put f.g f.cur, by lia, hdr'⟩
        ·
          have m1 : a ≠ f1.a := fun q => by subst q; rw [fresh1] at e; cases e
          have m2 : a ≠ ad := fun q => by subst q; rw [g1'] at e; cases e
          have m3 : a ≠ kd := fun q => by subst q; rw [d1] at e; cases e
          rw [upd_other m1, upd_other m2, upd_other m3]; exact out4 a c e
        ·
          rcases List.mem_cons.mp hy with rfl | hy
          ·
            exact ⟨pat1.le ls, lot1, le1, upd_same _ _ _, fresh1, n11, n12, n13⟩
          ·
            have hok := kr y (.tail _ hy)
            have hyf : y.a ≠ f1.a := fun e => c2b.1 (List.mem_map.mpr ⟨y, hy, e⟩)
            exact hok.step ls (by rw [upd_other hyf, upd_other hok.ne.2.1, upd_other hok.ne.1])
        ·
          rw [upd_other (Ne.symm n13), i4]; simp [f2]
        ·
          rw [upd_other (Ne.symm n12), upd_same]; simp [f2]
        ·
          rw [upd_other (Ne.symm n11), upd_other hka, upd_same]
  ·
    have n1 : a ≠ kd := fun q => by subst q; rw [d1] at e; cases e
    have n2 : a ≠ ad := fun q => by subst q; rw [g1'] at e; cases e
    have n3 : a ≠ a0 := fun q => by subst q; rw [a1'] at e; cases e
    have n4 : a ≠ rl := fun q => by subst q; rw [r1'] at e; cases e
    rw [upd_other n4, upd_other n3, upd_other n2, upd_other n1]; exact e
  ·
    simp at hy; subst hy
    exact ⟨hp.le l1, hg, Nat.zero_le _, by rw [upd_other e3.symm, upd_same]; rfl, a1', e2, e1, e3.symm⟩
  ·
    rw [upd_other e4.symm, upd_other e1.symm, upd_same]; simp [storedV, seenD]
  ·
    rw [upd_other e5.symm, upd_other e2.symm, upd_other hka, upd_same]
end
end
section
variable {n : Nat} {φ : Ph} {σ : Sg} {Q : V → Ph → Sg → Prop}
theorem b330_3 (R : Rt w H0) {v0 v1 v2 : V} : Bind H0 d330 [v0, v1, v2] [("memory", v0), ("proc", v1), ("is_unbound", v2)] := by
  intro s xs hx root
  refine VRs.consE hx fun _ _ h0 hx => ?_; refine VRs.consE hx fun _ _ h1 hx => ?_; refine VRs.consE hx fun _ _ h2 hx => ?_; refine VRs.nilE hx ?_; exact ⟨_, .cons h0 (.cons h1 (.cons h2 .nil)), BindsTo.of_defaults rfl (root _ _ (R.K _ _ rfl)) rfl rfl rfl⟩
structure CP where
  g : Nat
  way : Nat
  c : Addr
  r : Addr
  l : Addr
  deriving Inhabited
structure CK where
  lots : List (List Piece)
  rows : List RowJ
  unb : Bool
  la0 : Nat
  x : Addr
  d : Addr
  lim : Addr
  sv : Addr
  md : Addr
  jr : Addr
  fz : Addr
  mkd : Addr
  wl : Addr
  φ0 : Ph
  σ0 : Sg
  deriving Inhabited
structure CKOk (K : CK) : Prop where
  lotsOk : Lots K.lots
  wld : Wld K.φ0 K.lots K.rows
  mem : Mem K.φ0 K.x K.d K.lim K.sv K.md
  la : K.la0 ≤ 40
  n1 : K.mkd ≠ K.d
  n2 : K.mkd ≠ K.md
  n3 : K.mkd ≠ K.wl
  n4 : K.wl ≠ K.d
  n5 : K.wl ≠ K.md
  f1 : K.σ0 K.mkd = none
  f2 : K.σ0 K.wl = none
noncomputable def madeD (rows : List RowJ) (cs : List CP) : List (List Scal × V) := cs.map fun cp => (kg rows cp.g, .ref cp.c)
theorem madeD_none : ∀ {rows : List RowJ} {cs : List CP} {g : Nat}, (valV (madeD rows cs) (kg rows g)).isSome = decide (g ∈ cs.map (·.g)) := by
  apply @Mine.hk3; generalize ca1 (cx _) = rows, ca2 (cx _) = cs, cz3 (cx _) = g
  induction cs with
  | nil => rfl
  | cons a r ih =>
    revert a r; (apply @Mine.hk2; generalize ca1 (cx _) = a, cz2 (cx _) = r); intros
    unfold valV madeD at ih ⊢
    rw [List.map_cons, List.find?_cons]
    by_cases h : a.g = g
    ·
      subst h; simp
    ·
      have : ¬ kg rows a.g = kg rows g := fun e => h (kg_inj e)
      simp only [this, decide_false]
      rw [ih]; simp [Ne.symm h]
theorem madeD_some {rows : List RowJ} : ∀ {cs : List CP} {cp : CP}, (cs.map (·.g)).Nodup → cp ∈ cs → valV (madeD rows cs) (kg rows cp.g) = some (.ref cp.c)
  | a :: r, cp, nd, h => by
    rw [List.map_cons, List.nodup_cons] at nd
    have ih := @madeD_some rows r cp nd.2
    unfold valV madeD at ih ⊢
    rw [List.map_cons, List.find?_cons]
    rcases List.mem_cons.mp h with rfl | h
    · simp
    · have hne : ¬ a.g = cp.g := fun e => nd.1 (List.mem_map.mpr ⟨cp, h, e.symm⟩)
      have : ¬ kg rows a.g = kg rows cp.g := fun e => hne (kg_inj e)
      simp only [this, decide_false]
      exact ih h
theorem madeD_put {rows : List RowJ} {cs : List CP} {cp : CP} (h : cp.g ∉ cs.map (·.g)) : storedV (madeD rows cs) (kg rows cp.g) (.ref cp.c) = madeD rows (cs ++ [cp]) := by
  unfold storedV
  rw [if_neg]
  · simp [madeD]
  · intro e
    obtain ⟨x, hx, e⟩ := List.any_eq_true.mp e
    obtain ⟨a, ha, rfl⟩ := List.mem_map.mp hx
    exact h (List.mem_map.mpr ⟨a, ha, kg_inj (of_decide_eq_true e)⟩)
noncomputable def CThing (φ : Ph) (rows : List RowJ) (unb : Bool) (cs : List CP) (p : Piece) (was t : Addr) : Prop := match p with
  | .proc g way => ∃ cp ∈ cs, cp.g = g ∧ ∃ x, rows[g]? = some x ∧ Prc φ t (wayK way) cp.r x.ts.length true (wayA way)
  | .op b => if unb then Thg φ t "name" (.bytes b) true 3 else t = was
  | _ => t = was
set_option tactic.hygienic true in
theorem CThing.le : ∀ {φ φ' : Ph} {rows unb cs cs' p was t} (l : Le φ φ') (hs : ∀ cp ∈ cs, cp ∈ cs') (h : CThing φ rows unb cs p was t), CThing φ' rows unb cs' p was t := by
  apply @Mine.hk6; generalize ca1 (cx _) = φ, ca2 (cx _) = φ', ca3 (cx _) = rows, ca4 (cx _) = unb, ca5 (cx _) = cs, cz6 (cx _) = cs'
  apply @Mine.hk3; generalize ca1 (cx _) = p, ca2 (cx _) = was, cz3 (cx _) = t
  intro l hs h
  cases p with
  | proc g way => obtain ⟨cp, h1, h2, x, h3, h4⟩ := h; exact ⟨cp, hs cp h1, h2, x, h3, h4.le l⟩
  | op b =>
    unfold CThing at h ⊢
    dsimp only at h ⊢
    split at h
    · rename_i e; rw [if_pos e]; exact h.le l
    · rename_i e; rw [if_neg e]; exact h
  | name b => exact h
  | lit b => exact h
  | int b => exact h
  | row b => exact h
noncomputable def pairs (lots : List (List Piece)) (rows : List RowJ) (g : Nat) : List (Piece × Addr) := (lots.getD g []).zip ((rows[g]?.map fun x => x.ts).getD [])
noncomputable def Full (K : CK) (φ : Ph) (σ : Sg) (cs : List CP) (cp : CP) : Prop := ∃ ts : List Addr, σ cp.l = some (.list (ts.map .ref)) ∧ All2 (fun (pw : Piece × Addr) t => CThing φ K.rows K.unb cs pw.1 pw.2 t) (pairs K.lots K.rows cp.g) ts
theorem Full.step {K : CK} {φ φ' : Ph} {σ σ' : Sg} {cs cs' : List CP} {cp : CP} (h : Full K φ σ cs cp) (l : Le φ φ') (e : σ' cp.l = σ cp.l) (hs : ∀ cp ∈ cs, cp ∈ cs') : Full K φ' σ' cs' cp :=
  by obtain ⟨ts, h1, h2⟩ := h; exact ⟨ts, e.trans h1, h2.mono fun _ _ h => h.le l hs⟩
structure CopOk (K : CK) (φ : Ph) (σ : Sg) (i : Nat) (cp : CP) : Prop where
  row : Rwi φ cp.r ((K.la0 + i + 1 : Nat) : Int) cp.l
  src : ∃ x, K.rows[cp.g]? = some x ∧ Prc φ cp.c (wayK cp.way) cp.r x.ts.length true (wayA cp.way) ∧ ∃ vs, σ cp.l = some (.list vs) ∧ vs.length = x.ts.length
  n1 : cp.l ≠ K.d
  n2 : cp.l ≠ K.md
  n3 : cp.l ≠ K.mkd
  n4 : cp.l ≠ K.wl
  f1 : K.σ0 cp.l = none
  f2 : K.φ0 cp.r = none
noncomputable def WAt (φ : Ph) (rows : List RowJ) (t : Addr) (g : Nat) : Prop := ∃ way x, PAt φ rows g way t x
structure CC (K : CK) (φ : Ph) (σ : Sg) (cs : List CP) (gs : List Nat) : Prop where
  le0 : Le K.φ0 φ
  mem : MemAt σ K.d K.lim K.sv K.md K.jr K.fz (K.la0 + cs.length)
  made : σ K.mkd = some (.tdict (madeD K.rows cs))
  cop : ∀ (i : Nat) cp, cs[i]? = some cp → CopOk K φ σ i cp
  ndg : (cs.map (·.g)).Nodup
  ndl : (cs.map (·.l)).Nodup
  out : ∀ a c, a ≠ K.d → a ≠ K.md → K.σ0 a = some c → σ a = some c
  wait : ∃ ws : List Addr, σ K.wl = some (.list (ws.map .ref)) ∧ All2 (WAt φ K.rows) ws gs
  wsub : ∀ g ∈ gs, g ∈ cs.map (·.g)
  gsz : gs.length ≤ cs.length
theorem CC.le {K : CK} {φ φ' : Ph} (l : Le φ φ') {σ cs gs} (h : CC K φ σ cs gs) : CC K φ' σ cs gs where
  le0 := h.le0.trans l
  mem := h.mem
  made := h.made
  cop := fun i cp e => let c := h.cop i cp e; ⟨c.row.le l, let ⟨x, h1, h2, h3⟩ := c.src; ⟨x, h1, h2.le l, h3⟩, c.n1, c.n2, c.n3, c.n4, c.f1, c.f2⟩
  ndg := h.ndg
  ndl := h.ndl
  out := h.out
  wait := by obtain ⟨ws, h1, h2⟩ := h.wait; exact ⟨ws, h1, h2.mono fun _ _ hPt => by obtain ⟨way, x, p⟩ := hPt; exact ⟨way, x, p.le l⟩⟩
  wsub := h.wsub
  gsz := h.gsz
theorem CC.size {K : CK} (hk : CKOk K) {φ σ cs gs} (h : CC K φ σ cs gs) : cs.length ≤ K.lots.length := by
  have := nodup_bound K.lots.length _ h.ndg fun a ha => by
    obtain ⟨cp, hc, rfl⟩ := List.mem_map.mp ha
    obtain ⟨i, hi⟩ := List.mem_iff_getElem?.mp hc
    obtain ⟨x, h1, _⟩ := (h.cop i cp hi).src
    rw [← hk.wld.len]
    exact (List.getElem?_eq_some_iff.mp h1).1
  simpa using this
theorem CC.lists {K : CK} {φ σ cs gs} (h : CC K φ σ cs gs) : ∀ cp ∈ cs, cp.l ≠ K.d ∧ cp.l ≠ K.md ∧ cp.l ≠ K.mkd ∧ cp.l ≠ K.wl ∧ K.σ0 cp.l = none := fun cp hc => by
  obtain ⟨i, hi⟩ := List.mem_iff_getElem?.mp hc
  have c := h.cop i cp hi
  exact ⟨c.n1, c.n2, c.n3, c.n4, c.f1⟩
theorem CC.put {K : CK} {φ φ' : Ph} {σ cs gs} (h : CC K φ σ cs gs) (l : Le φ φ') {cp : CP} (hc : cp ∈ cs) {vs vs' : List V} (hv : σ cp.l = some (.list vs)) (hl : vs'.length = vs.length) : CC K φ' (upd σ cp.l (.list vs')) cs gs where
  le0 := h.le0.trans l
  mem := h.mem.keep (upd_other (Ne.symm (h.lists cp hc).1)) (upd_other (Ne.symm (h.lists cp hc).2.1))
  made := by rw [upd_other (Ne.symm (h.lists cp hc).2.2.1)]; exact h.made
  cop := fun i c e => by
    have k := h.cop i c e
    obtain ⟨x, h1, h2, us, h3, h4⟩ := k.src
    refine ⟨k.row.le l, ⟨x, h1, h2.le l, ?_⟩, k.n1, k.n2, k.n3, k.n4, k.f1, k.f2⟩
    by_cases q : c.l = cp.l
    · rw [q] at h3; rw [hv] at h3; cases h3
      exact ⟨vs', by rw [q]; exact upd_same _ _ _, by lia⟩
    · exact ⟨us, by rw [upd_other q]; exact h3, h4⟩
  ndg := h.ndg
  ndl := h.ndl
  out := fun a c n1 n2 e => by rw [upd_other (fun q => by subst q; rw [(h.lists cp hc).2.2.2.2] at e; cases e)]; exact h.out a c n1 n2 e
  wait := by obtain ⟨ws, h1, h2⟩ := h.wait; exact ⟨ws, by rw [upd_other (Ne.symm (h.lists cp hc).2.2.2.1)]; exact h1, h2.mono fun _ _ hPt => by obtain ⟨way, x, p⟩ := hPt; exact ⟨way, x, p.le l⟩⟩
  wsub := h.wsub
  gsz := h.gsz
set_option tactic.hygienic true in
theorem wayA_ok (way : Nat) : (wayK way = "packed" → wayA way ≤ 2) ∧ wayA way ≤ 3 := by
  unfold wayA
  constructor
  · intro h
    split
    · rename_i e; subst e; exact absurd h (by decide)
    · decide
  · split <;> decide
theorem mk_copy : ∀ {n : Nat} {φ : Ph} {σ : Sg} {Q : V → Ph → Sg → Prop} {x d lim sv md jr fz : Addr} {la : Nat} {rows : List RowJ} {g way : Nat} {t : Addr} {y : RowJ} (R : Rt w H0) (M : Mem φ x d lim sv md) (hs : MemAt σ d lim sv md jr fz la) (hla : la ≤ 50) (hp : PAt φ rows g way t y) (hm : y.ts.length ≤ 4) (q : ∀ c r l t' φ' σ', Le φ φ' → MemAt σ' d lim sv md jr fz (la + 1) → σ' l = some (.list (List.replicate y.ts.length (.ref t'))) → σ l = none → φ l = none → φ r = none → Rwi φ' r ((la + 1 : Nat) : Int) l → Prc φ' c (wayK way) r y.ts.length true (wayA way) → (∀ a, a ≠ d → a ≠ md → a ≠ l → σ' a = σ a) → Q (.ref c) φ' σ'),
    CW w H0 (n+9) (.ref 337) [.ref x, .ref t] φ σ Q := by
  apply @Mine.hk6; generalize ca1 (cx _) = n, ca2 (cx _) = φ, ca3 (cx _) = σ, ca4 (cx _) = Q, ca5 (cx _) = x, cz6 (cx _) = d
  apply @Mine.hk6; generalize ca1 (cx _) = lim, ca2 (cx _) = sv, ca3 (cx _) = md, ca4 (cx _) = jr, ca5 (cx _) = fz, cz6 (cx _) = la
  refine @Mine.hk5 _ _ _ _ _ _ _ _ _ neRowJ _ ?_; generalize ca1 (cx _) = rows, ca2 (cx _) = g, ca3 (cx _) = way, ca4 (cx _) = t, cz5 (cx _) = y
  intro R M hs hla hp hm q
  obtain ⟨u, xs, h1, h2, h3, h4⟩ := hs
  refine cw337 R M h1 h2 (by decide) (by lia) (by lia) (by lia) (wayK_arr way) hp.prc (wayA_ok way).1 (wayA_ok way).2 fun c r l t' φ' xs' l' hx e1 e2 e3 n1 n2 hr hc => ?_
  refine q c r l t' φ' _ l' ⟨u + 8 * y.ts.length, xs', ?_, ?_, by lia, by lia⟩ (upd_same _ _ _) e1 e2 e3 hr hc fun a a1 a2 a3 => ?_
  · rw [upd_other (Ne.symm n1), upd_same]; rfl
  · rw [upd_other (Ne.symm n2), upd_other M.ne.symm, upd_same]
  · rw [upd_other a3, upd_other a1, upd_other a2]
end
section
variable {n : Nat} {φ : Ph} {σ : Sg} {Q : V → Ph → Sg → Prop}
noncomputable def whB : Stmt → List Stmt
  | .While _ b _ _ => b
  | _ => []
noncomputable def ifB : Stmt → List Stmt
  | .If _ a _ _ => a
  | _ => []
noncomputable def copyF : Stmt := (whB ((bodyOf (stT 39)).getD 2 (.Pass default))).getD 2 (.Pass default)
noncomputable def copyI : Stmt := (forB copyF).getD 1 (.Pass default)
section
variable {K : CK}
theorem cp_put : ∀ {n : Nat} {φ : Ph} {σ : Sg} {K : CK} {cs : List CP} {gs : List Nat} {cp0 : CP} {xs : List Addr} {v0 : V} {vs : List V} {i : Nat} {t : Addr} {ρ : Lo} {Q : Fl → Lo → Ph → Sg → Prop} (R : Rt w H0) (hk : CKOk K) (C : CC K φ σ cs gs) (hc : cp0 ∈ cs) (hl : σ cp0.l = some (.list (xs.map .ref ++ v0 :: vs))) (hi : xs.length = i) (e1 : ρ "memory" = some (.ref K.x)) (e2 : ρ "body" = some (.ref cp0.r)) (e3 : ρ "at" = some (.int i)) (e4 : ρ "thing" = some (.ref t)) (q : ∀ φ', Le φ φ' → Q .next ρ φ' (upd σ cp0.l (.list ((xs ++ [t]).map .ref ++ vs)))), XW w H0 d330.scope (n+9) ((forB copyF).drop 2) ρ φ σ Q := by
  apply @Mine.hk6; generalize ca1 (cx _) = n, ca2 (cx _) = φ, ca3 (cx _) = σ, ca4 (cx _) = K, ca5 (cx _) = cs, cz6 (cx _) = gs
  apply @Mine.hk6; generalize ca1 (cx _) = cp0, ca2 (cx _) = xs, ca3 (cx _) = v0, ca4 (cx _) = vs, ca5 (cx _) = i, cz6 (cx _) = t
  apply @Mine.hk2; generalize ca1 (cx _) = ρ, cz2 (cx _) = Q
  intro R hk C hc hl hi e1 e2 e3 e4 q
  have M := hk.mem.le C.le0
  obtain ⟨u, kxs, hd, hm, hx, hu⟩ := C.mem
  obtain ⟨j, hj⟩ := List.mem_iff_getElem?.mp hc
  have hcop := C.cop j cp0 hj
  obtain ⟨x, hx1, hx2, us, hx3, hx4⟩ := hcop.src
  rw [hl] at hx3; cases hx3
  have hsm : x.ts.length ≤ 4 := by
    obtain ⟨ps, p1, p2⟩ := hk.wld.lot hx1
    have := (hk.lotsOk.each _ (List.mem_of_getElem? p1)).1
    rw [← p2.len]; exact this
  refine X_cons ?_
  repeat (first | walk_at "zm" | walk_at "zw")
  refine cw493 R M hd hcop.row hl (by simp; lia) (by rw [hx4]; lia) fun φ1 l1 => ?_
  refine And.intro rfl ?_
  repeat (first | walk_at "zm" | walk_at "zw")
  have hset : (xs.map V.ref ++ v0 :: vs).set i (.ref t) = (xs ++ [t]).map V.ref ++ vs := by
    have : i = (xs.map V.ref).length := by simpa using hi.symm
    rw [this]; simp
  rw [hset]
  exact q φ1 l1
theorem cp_like : ∀ {n : Nat} {φ : Ph} {σ : Sg} {K : CK} {cs : List CP} {gs : List Nat} {cp : CP} {way : Nat} {was : Addr} {x : RowJ} {ρ : Lo} {Q : Fl → Lo → Ph → Sg → Prop} (R : Rt w H0) (hk : CKOk K) (C : CC K φ σ cs gs) (hc : cp ∈ cs) (hp : PAt φ K.rows cp.g way was x) (e1 : ρ "thing" = some (.ref was)) (e2 : ρ "made" = some (.ref K.mkd)) (q : ∀ t φ', Le φ φ' → CThing φ' K.rows K.unb cs (.proc cp.g way) was t → Q .next (setL ρ "thing" (.ref t)) φ' σ), XW w H0 d330.scope (n+9) ((ifB copyI).drop 1) ρ φ σ Q := by
  apply @Mine.hk6; generalize ca1 (cx _) = n, ca2 (cx _) = φ, ca3 (cx _) = σ, ca4 (cx _) = K, ca5 (cx _) = cs, cz6 (cx _) = gs
  refine @Mine.hk6 _ _ _ _ _ _ _ _ _ neRowJ _ _ _ ?_; generalize ca1 (cx _) = cp, ca2 (cx _) = way, ca3 (cx _) = was, ca4 (cx _) = x, ca5 (cx _) = ρ, cz6 (cx _) = Q
  intro R hk C hc hp e1 e2 q
  have W0 := hk.wld.le C.le0
  obtain ⟨j, hj⟩ := List.mem_iff_getElem?.mp hc
  have hcop := C.cop j cp hj
  obtain ⟨y, hy1, hy2, us, hy3, hy4⟩ := hcop.src
  have hxy : y = x := by have := hp.row; rw [hy1] at this; cases this; rfl
  subst hxy
  have hsm : y.ts.length ≤ 4 := by
    obtain ⟨ps, p1, p2⟩ := hk.wld.lot hy1
    have := (hk.lotsOk.each _ (List.mem_of_getElem? p1)).1
    rw [← p2.len]; exact this
  refine X_cons ?_
  repeat walk_at "zw"
  refine pkey R W0 hp fun k φ1 l1 hk1 => ?_
  (with_reducible refine T_item ?_ ?_); (intro _; with_unfolding_all rfl)
  refine ⟨_, _, .ref cp.c, hk1, C.made, madeD_some C.ndg hc, ?_⟩
  repeat walk_at "zw"
  refine cw344 R (wayK_arr way) (hp.prc.le l1) (hy2.le l1) (hcop.row.le l1) (.inl hy3) (by lia) (wayA_ok way).1 (wayA_ok way).2 fun t φ2 l2 ht => ?_
  refine A_local rfl ?_
  refine X_nil ?_
  rw [hy4] at ht
  exact q t φ2 (l1.trans l2) ⟨cp, hc, rfl, y, hy1, ht⟩
structure Nm (K : CK) (root : Addr) (ρ : Lo) : Prop where
  memory : ρ "memory" = some (.ref K.x)
  made : ρ "made" = some (.ref K.mkd)
  waiting : ρ "waiting" = some (.ref K.wl)
  unb : ρ "is_unbound" = some (.bool K.unb)
  proc : ρ "proc" = some (.ref root)
theorem nd_ne {α β : Type} {f : α → β} {l : List α} (nd : (l.map f).Nodup) : ∀ {a b : α}, a ∈ l → b ∈ l → a ≠ b → f a ≠ f b := by
  induction l with
  | nil => intro a b h; cases h
  | cons x r ih =>
    rw [List.map_cons, List.nodup_cons] at nd
    intro a b ha hb hne e
    rcases List.mem_cons.mp ha with e1 | h1 <;> rcases List.mem_cons.mp hb with e2 | h2
    · exact hne (e1.trans e2.symm)
    · subst e1; exact nd.1 (List.mem_map.mpr ⟨b, h2, e.symm⟩)
    · subst e2; exact nd.1 (List.mem_map.mpr ⟨a, h1, e⟩)
    · exact ih nd.2 h1 h2 hne e
theorem cthing_same {φ : Ph} {rows : List RowJ} {unb : Bool} {cs : List CP} {p : Piece} {was : Addr} (hp : p.isProc = false) (h : unb = false ∨ p.isOp = none) : CThing φ rows unb cs p was was := by
  cases p with
  | proc g way => cases hp
  | op b =>
    rcases h with rfl | h
    · rfl
    · cases h
  | _ => rfl
theorem pairs_get {lots : List (List Piece)} {rows : List RowJ} {g : Nat} {x : RowJ} {ps : List Piece} (hx : rows[g]? = some x) (hg : lots[g]? = some ps) : pairs lots rows g = ps.zip x.ts := by
  unfold pairs
  rw [hx]
  simp [List.getD, hg]
theorem cp_in : ∀ {n : Nat} {K : CK} {cp0 : CP} {way : Nat} {here root : Addr} {x0 : RowJ} {ps : List Piece} (R : Rt w H0) (hk : CKOk K) (hg : K.lots[cp0.g]? = some ps), ∀ (cnt : Nat) {i : Nat} {cs : List CP} {gs : List Nat} {xs : List Addr} {vs : List V} {ρ : Lo} {φ : Ph} {σ : Sg} {Q : Fl → Lo → Ph → Sg → Prop},
    CC K φ σ cs gs → cp0 ∈ cs → PAt φ K.rows cp0.g way here x0 → σ cp0.l = some (.list (xs.map .ref ++ vs)) → xs.length = i → vs.length = cnt → i + cnt = x0.ts.length →
    All2 (fun (pw : Piece × Addr) t => CThing φ K.rows K.unb cs pw.1 pw.2 t) ((ps.zip x0.ts).take i) xs → (∀ cp ∈ cs, cp = cp0 ∨ cp.g ∈ gs ∨ Full K φ σ cs cp) →
    Nm K root ρ → ρ "here" = some (.ref here) → ρ "body" = some (.ref cp0.r) →
    (∀ ρ' φ' σ' cs' gs' ex, Le φ φ' → CC K φ' σ' cs' gs' → cs' = cs ++ ex → gs'.length = gs.length + ex.length → (∀ cp ∈ cs', cp.g ∈ gs' ∨ Full K φ' σ' cs' cp) → Nm K root ρ' → Q .next ρ' φ' σ') →
    Lp w H0 d330.scope (n+9) (forT copyF) (forB copyF) ((List.range' i cnt).map fun (j : Nat) => .v (.int (j : Int))) ρ φ σ Q := by
  apply @Mine.hk6; generalize ca1 (cx _) = n, ca2 (cx _) = K, ca3 (cx _) = cp0, ca4 (cx _) = way, ca5 (cx _) = here, cz6 (cx _) = root
  refine @Mine.hk2 _ _ neRowJ _ _ ?_; generalize ca1 (cx _) = x0, cz2 (cx _) = ps
  intro R hk hg
  intro cnt
  induction cnt with
  | zero =>
    intro i cs gs xs vs ρ φ σ Q C hc hp hl hi hv hz ha ho N e1 e2 q
    have hvs : vs = [] := List.eq_nil_of_length_eq_zero hv
    subst hvs
    refine q ρ φ σ cs gs [] (.refl _) C (by simp) (by simp) (fun cp hcp => ?_) N
    rcases ho cp hcp with rfl | h | h
    · refine .inr ⟨xs, by simpa using hl, ?_⟩
      rw [pairs_get hp.row hg]
      have : (ps.zip x0.ts).take i = ps.zip x0.ts := List.take_of_length_le (by rw [List.length_zip]; lia)
      rwa [this] at ha
    · exact .inl h
    · exact .inr h
  | succ cnt ih =>
    intro i cs gs xs vs ρ φ σ Q C hc hp hl hi hv hz ha ho N e1 e2 q
    cases vs with
    | nil => simp at hv
    | cons v0 vs =>
    have W0 := hk.wld.le C.le0
    obtain ⟨s1, hT1, hS1⟩ := id hp.prc
    obtain ⟨hr1, hx1⟩ := W0.row cp0.g x0 hp.row
    obtain ⟨psx, hpsx, hall⟩ := W0.lot hp.row
    rw [hg] at hpsx; cases hpsx
    have hlen1 := hall.len
    have hsmall := (hk.lotsOk.each _ (List.mem_of_getElem? hg)).1
    have hi0 : i < ps.length := by lia
    obtain ⟨was, hwas, hpt⟩ := hall.get (List.getElem?_eq_getElem hi0)
    have hpw : (ps.zip x0.ts)[i]? = some (ps[i], was) := by
      rw [List.getElem?_zip_eq_some]; exact ⟨List.getElem?_eq_getElem hi0, hwas⟩
    generalize hpp : ps[i] = p at *
    obtain ⟨n1, n2, n3, n4, n5⟩ := id N
    have fin : ∀ {ρ1 : Lo} {φ1 : Ph} {σ1 : Sg} {cs1 : List CP} {gs1 : List Nat} {t' : Addr} {ex : List CP}, Le φ φ1 → CC K φ1 σ1 cs1 gs1 → cs1 = cs ++ ex → gs1.length = gs.length + ex.length → σ1 cp0.l = some (.list (xs.map .ref ++ v0 :: vs)) → (∀ cp ∈ cs1, cp = cp0 ∨ cp.g ∈ gs1 ∨ Full K φ1 σ1 cs1 cp) →
        CThing φ1 K.rows K.unb cs1 p was t' → Nm K root ρ1 → ρ1 "here" = some (.ref here) → ρ1 "body" = some (.ref cp0.r) → ρ1 "at" = some (.int i) → ρ1 "thing" = some (.ref t') →
        XW w H0 d330.scope (n+9) ((forB copyF).drop 2) ρ1 φ1 σ1 (fun f ρ2 φ2 σ2 => match f with
          | .next => Le φ φ2 ∧ Lp w H0 d330.scope (n+9) (forT copyF) (forB copyF) ((List.range' (i + 1) cnt).map fun (j : Nat) => .v (.int (j : Int))) ρ2 φ2 σ2 Q
          | .cont => Le φ φ2 ∧ Lp w H0 d330.scope (n+9) (forT copyF) (forB copyF) ((List.range' (i + 1) cnt).map fun (j : Nat) => .v (.int (j : Int))) ρ2 φ2 σ2 Q
          | .brk => Q .next ρ2 φ2 σ2
          | .ret v => Q (.ret v) ρ2 φ2 σ2) := by
      intro ρ1 φ1 σ1 cs1 gs1 t' ex l1 C1 hex hgl hl1 ho1 hct N1 m1 m2 m3 m4
      have hc1 : cp0 ∈ cs1 := by rw [hex]; exact List.mem_append_left _ hc
      refine cp_put R hk C1 hc1 hl1 hi N1.memory m2 m3 m4 fun φ2 l2 => ?_
      refine ⟨l1.trans l2, ?_⟩
      have ls := l1.trans l2
      refine ih (C1.put l2 hc1 hl1 (by simp)) hc1 (hp.le ls) (upd_same _ _ _) (by simp [hi]) (by simpa using hv) (by lia) ?_ (fun cp hcp => ?_) N1 m1 m2 fun ρ' φ' σ' cs' gs' ex' l' C' hex' hgl' hf' N' => ?_
      · have ht : (ps.zip x0.ts).take (i + 1) = (ps.zip x0.ts).take i ++ [(p, was)] := by
          rw [List.take_add_one, hpw]; rfl
        rw [ht]
        exact (ha.mono fun _ _ h => h.le ls fun cp hcp => by rw [hex]; exact List.mem_append_left _ hcp).snoc (hct.le l2 fun _ h => h)
      · by_cases hne : cp = cp0
        · exact .inl hne
        · rcases ho1 cp hcp with h | h | h
          · exact .inl h
          · exact .inr (.inl h)
          · exact .inr (.inr (h.step l2 (upd_other (nd_ne C1.ndl hcp hc1 hne)) fun _ h => h))
      · exact q ρ' φ' σ' cs' gs' (ex ++ ex') (ls.trans l') C' (by rw [hex', hex, List.append_assoc]) (by rw [hgl', hgl, List.length_append]; lia) hf' N'
    rw [List.range'_succ, List.map_cons]
    show AW _ _ _ _ _ _ _ _ _ _
    refine A_local rfl ?_
    refine X_cons ?_
    repeat walk_at "zw"
    refine cw275 R hS1 hr1 (.inr hx1) (by simp) (by lia) (v := .ref was) (by simp [hwas]) ?_
    refine A_local rfl ?_
    refine X_cons ?_
    repeat walk_at "zw"
    refine isproc R hpt ?_
    refine ⟨_, rfl, fun hb => ?_, fun hb => ?_⟩
    · obtain ⟨g2, way2, rfl⟩ : ∃ g2 way2, p = .proc g2 way2 := by
        cases p with
        | proc a b => exact ⟨a, b, rfl⟩
        | _ => cases hb
      obtain ⟨x2, hx2⟩ := pat_of hpt
      have hx2r := hx2.row
      obtain ⟨ps2, q1, q2⟩ := hk.wld.lot hx2r
      have hsm2 : x2.ts.length ≤ 4 := by
        have := (hk.lotsOk.each _ (List.mem_of_getElem? q1)).1
        rw [← q2.len]; exact this
      refine X_cons ?_
      repeat walk_at "zw"
      refine pkey R W0 hx2 fun k φ1 l1 hk1 => ?_
      repeat walk_at "zw"
      refine C_notInT ⟨_, _, hk1, C.made, ?_⟩
      rw [madeD_none]
      refine ⟨_, rfl, fun h => ?_, fun h => ?_⟩
      · have hng : g2 ∉ cs.map (·.g) := by simpa using h
        have csz := C.size hk
        have hsml := hk.lotsOk.small
        have hla := hk.la
        refine X_cons ?_
        refine S_setitem ?_
        repeat walk_at "zw"
        refine mk_copy R (hk.mem.le (C.le0.trans l1)) C.mem (by lia) (hx2.le l1) hsm2 fun c r l t' φ2 σ2 l2 m1 m2 m3 m4 m5 m6 m7 m8 => ?_
        have W2 := hk.wld.le (C.le0.trans (l1.trans l2))
        repeat walk_at "zw"
        refine pkey R W2 ((hx2.le l1).le l2) fun k3 φ3 l3 hk3 => ?_
        have lne : ∀ {a c}, σ a = some c → l ≠ a := fun {a c} e q => by subst q; rw [m3] at e; cases e
        obtain ⟨ws, w1, w2⟩ := C.wait
        have lmk := lne C.made
        have lwl := lne w1
        obtain ⟨u, kxs, hd, hm, _, _⟩ := C.mem
        have ld := lne hd
        have lmd := lne hm
        have s2mk : σ2 K.mkd = some (.tdict (madeD K.rows cs)) := by rw [m8 _ hk.n1 hk.n2 (Ne.symm lmk)]; exact C.made
        have s2wl : σ2 K.wl = some (.list (ws.map .ref)) := by rw [m8 _ hk.n4 hk.n5 (Ne.symm lwl)]; exact w1
        refine G_setT hk3 s2mk (by simp [madeD]; lia) ?_
        rw [madeD_put (cp := ⟨g2, way2, c, r, l⟩) hng]
        have s3wl : upd σ2 K.mkd (.tdict (madeD K.rows (cs ++ [⟨g2, way2, c, r, l⟩]))) K.wl = some (.list (ws.map .ref)) := by rw [upd_other (Ne.symm hk.n3)]; exact s2wl
        have w2l := w2.len
        repeat walk_at "zw"
        refine E_append rfl (fun _ => rfl) ?_
        repeat walk_at "zw"
        refine ⟨K.wl, rfl, ⟨_, .inl s3wl⟩, ?_⟩
        repeat walk_at "zw"
        have hgl := C.gsz
        refine ⟨_, s3wl, by simp; lia, rfl, ?_⟩
        refine X_nil ?_
        have ls := l1.trans (l2.trans l3)
        have old : ∀ a, a ≠ K.d → a ≠ K.md → a ≠ l → a ≠ K.mkd → a ≠ K.wl → upd (upd σ2 K.mkd (.tdict (madeD K.rows (cs ++ [⟨g2, way2, c, r, l⟩])))) K.wl (.list (ws.map V.ref ++ [V.ref was])) a = σ a := fun a a1 a2 a3 a4 a5 => by
          rw [upd_other a5, upd_other a4]; exact m8 a a1 a2 a3
        have lcs : ∀ cp ∈ cs, cp.l ≠ l := fun cp hcp e => by
          obtain ⟨j, hj⟩ := List.mem_iff_getElem?.mp hcp
          obtain ⟨_, _, _, us, h3, _⟩ := (C.cop j cp hj).src
          rw [e, m3] at h3; cases h3
        have oldl : ∀ cp ∈ cs, upd (upd σ2 K.mkd (.tdict (madeD K.rows (cs ++ [⟨g2, way2, c, r, l⟩])))) K.wl (.list (ws.map V.ref ++ [V.ref was])) cp.l = σ cp.l := fun cp hcp => by
          obtain ⟨a1, a2, a3, a4, _⟩ := C.lists cp hcp
          exact old _ a1 a2 (lcs cp hcp) a3 a4
        have C1 : CC K φ3 (upd (upd σ2 K.mkd (.tdict (madeD K.rows (cs ++ [⟨g2, way2, c, r, l⟩])))) K.wl (.list (ws.map V.ref ++ [V.ref was]))) (cs ++ [⟨g2, way2, c, r, l⟩]) (gs ++ [g2]) := by
          refine ⟨C.le0.trans ls, ?_, ?_, fun j cp hj => ?_, ?_, ?_, fun a c' a1 a2 e => ?_, ⟨ws ++ [was], ?_, ?_⟩, fun g hg => ?_, by simp; lia⟩
          · rw [List.length_append]
            exact m1.keep (by rw [upd_other (Ne.symm hk.n4), upd_other (Ne.symm hk.n1)]) (by rw [upd_other (Ne.symm hk.n5), upd_other (Ne.symm hk.n2)])
          · rw [upd_other hk.n3]; exact upd_same _ _ _
          · rcases Nat.lt_trichotomy j cs.length with hj' | hj' | hj'
            · rw [List.getElem?_append_left hj'] at hj
              have kc := C.cop j cp hj
              obtain ⟨y, y1, y2, us, y3, y4⟩ := kc.src
              exact ⟨kc.row.le ls, ⟨y, y1, y2.le ls, us, by rw [oldl cp (List.mem_of_getElem? hj)]; exact y3, y4⟩, kc.n1, kc.n2, kc.n3, kc.n4, kc.f1, kc.f2⟩
            · subst hj'
              rw [List.getElem?_append_right (Nat.le_refl _)] at hj
              simp at hj; subst hj
              refine ⟨m6.le l3, ⟨x2, hx2r, m7.le l3, _, by rw [upd_other lwl, upd_other lmk]; exact m2, by simp⟩, ld, lmd, lmk, lwl, ?_, ?_⟩
              · cases e : K.σ0 l with
                | none => rfl
                | some c' => have := C.out l c' ld lmd e; rw [m3] at this; cases this
              · cases e : K.φ0 r with
                | none => rfl
                | some o => have := l1 _ _ (C.le0 _ _ e); rw [m5] at this; cases this
            · rw [List.getElem?_eq_none (by simp; lia)] at hj; cases hj
          · rw [List.map_append, List.nodup_append]
            exact ⟨C.ndg, by simp, fun a ha b hb e => by simp at hb; subst hb e; exact hng ha⟩
          · rw [List.map_append, List.nodup_append]
            exact ⟨C.ndl, by simp, fun a ha b hb e => by
              simp at hb; subst hb e
              obtain ⟨cp, hcp, e⟩ := List.mem_map.mp ha
              exact lcs cp hcp e⟩
          · have a3 : a ≠ l := fun q => by subst q; have := C.out _ _ a1 a2 e; rw [m3] at this; cases this
            have a4 : a ≠ K.mkd := fun q => by subst q; rw [hk.f1] at e; cases e
            have a5 : a ≠ K.wl := fun q => by subst q; rw [hk.f2] at e; cases e
            rw [old a a1 a2 a3 a4 a5]; exact C.out a c' a1 a2 e
          · rw [upd_same]; simp
          · exact (w2.mono fun _ _ hPt => by obtain ⟨wy, y, p⟩ := hPt; exact ⟨wy, y, p.le ls⟩).snoc ⟨way2, x2, hx2.le ls⟩
          · rcases List.mem_append.mp hg with hg | hg
            · rw [List.map_append]; exact List.mem_append_left _ (C.wsub g hg)
            · simp at hg; subst hg; simp
        have hin : (⟨g2, way2, c, r, l⟩ : CP) ∈ cs ++ [⟨g2, way2, c, r, l⟩] := by simp
        show XW _ _ _ _ _ _ _ _ _
        refine cp_like (x := x2) (way := way2) R hk C1 hin (hx2.le ls) rfl n2 fun t2 φ4 l4 ht2 => ?_
        refine fin (ex := [⟨g2, way2, c, r, l⟩]) (ls.trans l4) (C1.le l4) rfl (by simp) (by rw [oldl cp0 hc]; exact hl) (fun cp hcp => ?_) ht2 ⟨n1, n2, n3, n4, n5⟩ e1 e2 rfl rfl
        rcases List.mem_append.mp hcp with hcp | hcp
        · rcases ho cp hcp with h | h | h
          · exact .inl h
          · exact .inr (.inl (List.mem_append_left _ h))
          · exact .inr (.inr (h.step (ls.trans l4) (oldl cp hcp) fun _ h => List.mem_append_left _ h))
        · simp at hcp; subst hcp; exact .inr (.inl (by simp))
      · have hin : g2 ∈ cs.map (·.g) := by simpa using h
        obtain ⟨cp, hcp, rfl⟩ := List.mem_map.mp hin
        refine X_nil ?_
        show XW _ _ _ _ _ _ _ _ _
        have C1 := C.le l1
        refine cp_like (x := x2) (way := way2) R hk C1 hcp (hx2.le l1) rfl n2 fun t2 φ4 l4 ht2 => ?_
        exact fin (ex := []) (l1.trans l4) (C1.le l4) (by simp) (by simp) hl (fun cp hcp => by
          rcases ho cp hcp with h | h | h
          · exact .inl h
          · exact .inr (.inl h)
          · exact .inr (.inr (h.step (l1.trans l4) rfl fun _ h => h))) ht2 ⟨n1, n2, n3, n4, n5⟩ e1 e2 rfl rfl
    · repeat walk_at "zw"
      have self : (K.unb = false ∨ p.isOp = none) → XW w H0 d330.scope (n+9) ((forB copyF).drop 2) (setL (setL ρ "at" (.int i)) "thing" (.ref was)) φ σ (fun f ρ2 φ2 σ2 => match f with
          | .next => Le φ φ2 ∧ Lp w H0 d330.scope (n+9) (forT copyF) (forB copyF) ((List.range' (i + 1) cnt).map fun (j : Nat) => .v (.int (j : Int))) ρ2 φ2 σ2 Q
          | .cont => Le φ φ2 ∧ Lp w H0 d330.scope (n+9) (forT copyF) (forB copyF) ((List.range' (i + 1) cnt).map fun (j : Nat) => .v (.int (j : Int))) ρ2 φ2 σ2 Q
          | .brk => Q .next ρ2 φ2 σ2
          | .ret v => Q (.ret v) ρ2 φ2 σ2) := fun h => fin (ex := []) (.refl _) C (by simp) (by simp) hl ho (cthing_same hb h) ⟨n1, n2, n3, n4, n5⟩ e1 e2 rfl rfl
      refine ⟨fun hu => ?_, fun hu => ?_⟩
      · obtain ⟨v, e, a, hT⟩ := thg_of hpt
        repeat walk_at "zw"
        cases hop : p.isOp with
        | none =>
          refine ⟨fun h => absurd h (by rw [Piece.kind_ne hop]; decide), fun _ => ?_⟩
          refine X_nil ?_
          refine X_nil ?_
          exact self (.inr hop)
        | some b =>
          obtain rfl : p = .op b := by cases p <;> first | (cases hop; rfl) | cases hop
          have hT2 : Thg φ was "operator" (.bytes b) true 3 := hpt
          clear hT
          refine ⟨fun _ => ?_, fun h => absurd h (show ¬ ((Str.ofString "operator" == Str.ofString "operator") = false) by decide)⟩
          refine X_cons ?_
          repeat walk_at "zw"
          refine cw154_2 R fun t2 φ2 l2 ht2 => ?_
          refine A_local rfl ?_
          refine X_nil ?_
          refine X_nil ?_
          have C1 := C.le l2
          refine fin (ex := []) l2 C1 (by simp) (by simp) hl (fun cp hcp => ?_) ?_ ⟨n1, n2, n3, n4, n5⟩ e1 e2 rfl rfl
          · rcases ho cp hcp with h | h | h
            · exact .inl h
            · exact .inr (.inl h)
            · exact .inr (.inr (h.step l2 rfl fun _ h => h))
          · show (if K.unb = true then _ else _)
            rw [if_pos hu]; exact ht2
      · refine ⟨fun h => Bool.noConfusion h, fun _ => ?_⟩
        refine X_nil ?_
        refine X_nil ?_
        exact self (.inl hu)
end
end
section
variable {n : Nat} {φ : Ph} {σ : Sg} {Q : V → Ph → Sg → Prop}
structure Cpd (φ0 : Ph) (σ0 : Sg) (lots : List (List Piece)) (rows : List RowJ) (unb : Bool) (la0 g way : Nat) (c : Addr) (φ : Ph) (σ : Sg) (cs : List CP) : Prop where
  head : ∃ cp rest, cs = cp :: rest ∧ cp.g = g ∧ cp.way = way ∧ cp.c = c
  row : ∀ (i : Nat) cp, cs[i]? = some cp → Rwi φ cp.r ((la0 + i + 1 : Nat) : Int) cp.l ∧ φ0 cp.r = none ∧ σ0 cp.l = none ∧ ∃ x, rows[cp.g]? = some x ∧ Prc φ cp.c (wayK cp.way) cp.r x.ts.length true (wayA cp.way)
  full : ∀ cp ∈ cs, ∃ ts : List Addr, σ cp.l = some (.list (ts.map .ref)) ∧ All2 (fun (pw : Piece × Addr) t => CThing φ rows unb cs pw.1 pw.2 t) (pairs lots rows cp.g) ts
  ndg : (cs.map (·.g)).Nodup
  ndl : (cs.map (·.l)).Nodup
theorem All2.unsnoc {α β : Type} {P : α → β → Prop} : ∀ {as : List α} {bs : List β} {b : β}, All2 P as (bs ++ [b]) → ∃ as' a, as = as' ++ [a] ∧ All2 P as' bs ∧ P a b
  | [], bs, b, h => by
    have := h.len; simp at this
  | a :: as, [], b, h => by
    cases h with
    | cons h1 h2 => cases h2; exact ⟨[], a, rfl, .nil, h1⟩
  | a :: as, c :: bs, b, h => by
    cases h with
    | cons h1 h2 =>
      obtain ⟨as', a', e, h3, h4⟩ := All2.unsnoc h2
      exact ⟨a :: as', a', by rw [e]; rfl, .cons h1 h3, h4⟩
section
variable {K : CK}
theorem CC.pop {cs : List CP} {gs : List Nat} {g : Nat} (hk : CKOk K) (h : CC K φ σ cs (gs ++ [g])) {ws : List Addr} (hw : All2 (WAt φ K.rows) ws gs) : CC K φ (upd σ K.wl (.list (ws.map .ref))) cs gs where
  le0 := h.le0
  mem := h.mem.keep (upd_other (Ne.symm hk.n4)) (upd_other (Ne.symm hk.n5))
  made := by rw [upd_other hk.n3]; exact h.made
  cop := fun i cp e => by
    have k := h.cop i cp e
    obtain ⟨x, h1, h2, us, h3, h4⟩ := k.src
    exact ⟨k.row, ⟨x, h1, h2, us, by rw [upd_other k.n4]; exact h3, h4⟩, k.n1, k.n2, k.n3, k.n4, k.f1, k.f2⟩
  ndg := h.ndg
  ndl := h.ndl
  out := fun a c n1 n2 e => by rw [upd_other (fun q => by subst q; rw [hk.f2] at e; cases e)]; exact h.out a c n1 n2 e
  wait := ⟨ws, upd_same _ _ _, hw⟩
  wsub := fun g' hg' => h.wsub g' (List.mem_append_left _ hg')
  gsz := by have := h.gsz; simp at this; lia
noncomputable def CI (K : CK) (root : Addr) (cp0 : CP) (m : Nat) (ρ : Lo) (φ : Ph) (σ : Sg) : Prop :=
  ∃ cs gs, m = 2 * (K.lots.length - cs.length) + gs.length ∧ CC K φ σ cs gs ∧ (∀ cp ∈ cs, cp.g ∈ gs ∨ Full K φ σ cs cp) ∧ Nm K root ρ ∧ ∃ rest, cs = cp0 :: rest
theorem cp_while : ∀ {n : Nat} {φ : Ph} {σ : Sg} {K : CK} {root : Addr} {cp0 : CP} {x0 : RowJ} {pos : Pos} {test : PySem.Expr} {body : List Stmt} {Q : Fl → Lo → Ph → Sg → Prop} {m : Nat} {ρ : Lo} (R : Rt w H0) (hk : CKOk K) (hw : (bodyOf (stT 39)).getD 2 (.Pass default) = .While test body [] pos) (hI : CI K root cp0 m ρ φ σ) (q : ∀ ρ' φ' σ' cs, Le φ φ' → CC K φ' σ' cs [] → (∀ cp ∈ cs, Full K φ' σ' cs cp) → Nm K root ρ' → (∃ rest, cs = cp0 :: rest) → Q .next ρ' φ' σ'), SW w H0 d330.scope (n+9) (.While test body [] pos) ρ φ σ Q := by
  apply @Mine.hk6; generalize ca1 (cx _) = n, ca2 (cx _) = φ, ca3 (cx _) = σ, ca4 (cx _) = K, ca5 (cx _) = root, cz6 (cx _) = cp0
  refine @Mine.hk6 _ _ _ _ _ _ neRowJ _ _ _ _ _ _ ?_; generalize ca1 (cx _) = x0, ca2 (cx _) = pos, ca3 (cx _) = test, ca4 (cx _) = body, ca5 (cx _) = Q, cz6 (cx _) = m
  apply @Mine.hk; generalize cx _ = ρ
  intro R hk hw hI q
  have hw' : Stmt.While test body [] pos = (bodyOf (stT 39)).getD 2 (.Pass default) := hw.symm
  have key : SW w H0 d330.scope (n+9) ((bodyOf (stT 39)).getD 2 (.Pass default)) ρ φ σ Q := by
    refine S_whileI (m := m) (fun m ρ φ1 σ => Le φ φ1 ∧ CI K root cp0 m ρ φ1 σ) ?_ ⟨.refl _, hI⟩
    rintro m ρ φ3 σ3 ⟨hle, cs, gs, hm, C, hf, N, hrest⟩
    obtain ⟨n1, n2, n3, n4, n5⟩ := id N
    obtain ⟨ws, w1, w2⟩ := C.wait
    have w2l := w2.len
    have hgs := C.gsz
    have csz := C.size hk
    have hsml := hk.lotsOk.small
    refine T_cmp ?_
    repeat walk_at "zw"
    refine E_list (A_nil ⟨by simp, fun b b1 b2 => Cm_freezeL b1 fun φ4 l4 hb => ?_⟩)
    refine C_neNil (.inl w1) (.inr hb) ?_
    refine ⟨_, rfl, fun h => ?_, fun h => ?_⟩
    · rcases List.eq_nil_or_concat gs with rfl | ⟨gs', g, rfl⟩
      · have : ws = [] := List.eq_nil_of_length_eq_zero (by simpa using w2l)
        subst this; simp at h
      rw [List.concat_eq_append] at *
      obtain ⟨ws', t, rfl, w3, way, x, hp⟩ := All2.unsnoc w2
      have hgin := C.wsub g (by simp)
      obtain ⟨cp, hcp, rfl⟩ := List.mem_map.mp hgin
      have C1 := (C.pop hk w3).le l4
      obtain ⟨j, hj⟩ := List.mem_iff_getElem?.mp hcp
      have hcop := C1.cop j cp hj
      obtain ⟨y, hy1, hy2, us, hy3, hy4⟩ := hcop.src
      have hxy : y = x := by have := hp.row; rw [hy1] at this; cases this; rfl
      subst hxy
      have W4 := hk.wld.le C1.le0
      obtain ⟨ps, p1, p2⟩ := W4.lot hp.row
      have hps4 := (hk.lotsOk.each _ (List.mem_of_getElem? p1)).1
      have hplen := p2.len
      have hp4 := hp.le l4
      obtain ⟨s1, hT1, hS1⟩ := id hp4.prc
      obtain ⟨s2, hT2, hS2⟩ := id hy2
      refine X_cons ?_
      repeat walk_at "zw"
      refine E_pop (fun _ => rfl) ?_
      repeat walk_at "zw"
      refine ⟨K.wl, _, .ref t, rfl, w1, by simp; simp at w2l hgs; lia, by simp, ?_⟩
      rw [show ((ws' ++ [t]).map V.ref).dropLast = ws'.map V.ref by simp]
      refine A_local rfl ?_
      refine X_cons ?_
      repeat walk_at "zw"
      refine pkey R W4 hp4 fun k φ5 l5 hk5 => ?_
      (with_reducible refine T_item ?_ ?_); (intro _; with_unfolding_all rfl)
      refine ⟨_, _, .ref cp.c, hk5, C1.made, madeD_some C1.ndg hcp, ?_⟩
      have hT2 := hT2.le l5
      have hS2 := hS2.le l5
      have hT1 := hT1.le l5
      have hS1 := hS1.le l5
      repeat walk_at "zw"
      refine S_for (fun _ _ => rfl) (It_range ?_)
      repeat walk_at "zw"
      refine B_range fun r o r1 r2 hR => ?_
      refine ⟨r, o, _, y.ts.length, rfl, rfl, r1, hR, by lia, ?_⟩
      rw [List.range_eq_range']
      have C5 := C1.le l5
      refine cp_in R hk (cp0 := cp) (way := way) (here := t) (root := root) (x0 := y) (ps := ps) p1 y.ts.length (xs := []) (vs := us) C5 hcp (hp4.le l5) (by simpa using hy3) rfl hy4 (by lia) (by simpa using All2.nil) (fun cp' hcp' => ?_) ⟨n1, n2, n3, n4, n5⟩ rfl rfl fun ρ' φ' σ' cs' gs2 ex l' C' hex hgl hf' N' => ?_
      · by_cases hne : cp' = cp
        · exact .inl hne
        · rcases hf cp' hcp' with h | h
          · rcases List.mem_append.mp h with h | h
            · exact .inr (.inl h)
            · exact absurd (by simpa using h) (nd_ne C.ndg hcp' hcp hne)
          · exact .inr (.inr (h.step (l4.trans l5) (upd_other (C.lists cp' hcp').2.2.2.1) fun _ h => h))
      · refine X_nil ?_
        have csz' := C'.size hk
        have hexl : cs'.length = cs.length + ex.length := by rw [hex, List.length_append]
        refine ⟨2 * (K.lots.length - cs'.length) + gs2.length, ?_, (hle.trans (l4.trans l5)).trans l', cs', gs2, rfl, C', hf', N', ?_⟩
        · rw [hm, hgl, List.length_append]; simp; lia
        · obtain ⟨rest, hr⟩ := hrest
          exact ⟨rest ++ ex, by rw [hex, hr]; rfl⟩
    · have e0 : ws = [] := by cases ws with
        | nil => rfl
        | cons a r => simp at h
      subst e0
      have hg0 : gs = [] := List.eq_nil_of_length_eq_zero (by simpa using w2l.symm)
      subst hg0
      exact q ρ φ4 σ3 cs (hle.trans l4) (C.le l4) (fun cp hcp => by
        rcases hf cp hcp with h | h
        · cases h
        · exact h.step l4 rfl fun _ h => h) N hrest
  rw [hw] at key
  exact key
theorem cw330 : ∀ {n : Nat} {φ : Ph} {σ : Sg} {Q : V → Ph → Sg → Prop} {lots : List (List Piece)} {rows : List RowJ} {x d lim sv md jr fz : Addr} {la0 g way : Nat} {root : Addr} {x0 : RowJ} {unb : Bool} (R : Rt w H0) (hL : Lots lots) (W0 : Wld φ lots rows) (M : Mem φ x d lim sv md) (hs : MemAt σ d lim sv md jr fz la0) (hla : la0 ≤ 40) (hp : PAt φ rows g way root x0) (q : ∀ c φ' σ' cs, Le φ φ' → Cpd φ σ lots rows unb la0 g way c φ' σ' cs → cs.length ≤ lots.length → MemAt σ' d lim sv md jr fz (la0 + cs.length) → (∀ a c, a ≠ d → a ≠ md → σ a = some c → σ' a = some c) → (∀ cp ∈ cs, cp.l ≠ d ∧ cp.l ≠ md) → Q (.ref c) φ' σ'), CW w H0 (n+10) (.ref 330) [.ref x, .ref root, .bool unb] φ σ Q := by
  apply @Mine.hk6; generalize ca1 (cx _) = n, ca2 (cx _) = φ, ca3 (cx _) = σ, ca4 (cx _) = Q, ca5 (cx _) = lots, cz6 (cx _) = rows
  apply @Mine.hk6; generalize ca1 (cx _) = x, ca2 (cx _) = d, ca3 (cx _) = lim, ca4 (cx _) = sv, ca5 (cx _) = md, cz6 (cx _) = jr
  refine @Mine.hk6 _ _ _ _ _ _ _ _ _ _ _ neRowJ _ ?_; generalize ca1 (cx _) = fz, ca2 (cx _) = la0, ca3 (cx _) = g, ca4 (cx _) = way, ca5 (cx _) = root, cz6 (cx _) = x0
  apply @Mine.hk; generalize cx _ = unb
  intro R hL W0 M hs hla hp q
  obtain ⟨u, kxs, hd, hm, hkx, hu⟩ := id hs
  revert u kxs; (apply @Mine.hk2; generalize ca1 (cx _) = u, cz2 (cx _) = kxs); intros
  have hsm : x0.ts.length ≤ 4 := by
    have hEx := W0.lot hp.row
    (refine Exists.elim hEx ?_; clear hEx; apply @Mine.hk; generalize cx _ = ps; intro hEx)
    obtain ⟨p1, p2⟩ := hEx
    have := (hL.each _ (List.mem_of_getElem? p1)).1
    rw [← p2.len]; exact this
  refine CW.code (n := n + 9) R (k330 R) (b330_3 R) (bk_of rfl) (X_cons ?_)
  repeat walk_at "zw"
  refine E_dictD (c := .tdict []) (.inr (.inr rfl)) rfl rfl (by simp) (by simp) ?_
  (apply @Mine.hk; generalize cx _ = mkd)
  intro g1 g2
  have a1 : mkd ≠ d := fun e => by subst e; rw [hd] at g1; cases g1
  have a2 : mkd ≠ md := fun e => by subst e; rw [hm] at g1; cases g1
  show EW _ _ _ _ _ _ _ _ _
  repeat walk_at "zw"
  refine pkey R W0 hp ?_
  (apply @Mine.hk2; generalize ca1 (cx _) = k, cz2 (cx _) = φ1)
  intro l1 hk
  repeat walk_at "zw"
  refine mk_copy R (M.le l1) (hs.keep (upd_other (Ne.symm a1)) (upd_other (Ne.symm a2))) (by lia) (hp.le l1) hsm ?_
  (apply @Mine.hk6; generalize ca1 (cx _) = c, ca2 (cx _) = r, ca3 (cx _) = l, ca4 (cx _) = t', ca5 (cx _) = φ2, cz6 (cx _) = σ2)
  intro l2 m1 m2 m3 m4 m5 m6 m7 m8
  have lmk : l ≠ mkd := fun e => by subst e; rw [upd_same] at m3; cases m3
  rw [upd_other lmk] at m3
  have s2mk : σ2 mkd = some (.tdict []) := by rw [m8 _ a1 a2 (Ne.symm lmk)]; exact upd_same _ _ _
  repeat walk_at "zw"
  show DsW _ _ _ _ _ _ _ _ _ _ _
  refine DS_t (hk.le l2) s2mk (by simp) ?_
  show AW _ _ _ _ _ _ _ _ _ _
  refine A_local rfl ?_
  repeat walk_at "zw"
  refine E_list ?_
  repeat walk_at "zw"
  refine ⟨by simp, ?_⟩
  (apply @Mine.hk; generalize cx _ = wl)
  intro w1 w2
  have b1 : wl ≠ mkd := fun e => by subst e; rw [upd_same] at w1; cases w1
  rw [upd_other b1] at w1
  have b2 : wl ≠ l := fun e => by subst e; rw [m2] at w1; cases w1
  obtain ⟨u2, kxs2, hd2, hm2, _, _⟩ := id m1
  revert u2 kxs2; (apply @Mine.hk2; generalize ca1 (cx _) = u2, cz2 (cx _) = kxs2); intros
  have b3 : wl ≠ d := fun e => by subst e; rw [hd2] at w1; cases w1
  have b4 : wl ≠ md := fun e => by subst e; rw [hm2] at w1; cases w1
  have w1' : σ wl = none := by
    rw [m8 wl b3 b4 b2, upd_other b1] at w1; exact w1
  have ld : l ≠ d := fun e => by subst e; rw [hd] at m3; cases m3
  have lmd : l ≠ md := fun e => by subst e; rw [hm] at m3; cases m3
  let K : CK := ⟨lots, rows, unb, la0, x, d, lim, sv, md, jr, fz, mkd, wl, φ, σ⟩
  have hkK : CKOk K := ⟨hL, W0, M, hla, a1, a2, Ne.symm b1, b3, b4, g1, w1'⟩
  let cp0 : CP := ⟨g, way, c, r, l⟩
  have ls := l1.trans l2
  have C0 : CC K φ2 (upd (upd σ2 mkd (.tdict (storedV [] (kg rows g) (.ref c)))) wl (.list [.ref root])) [cp0] [g] := by
    refine ⟨ls, m1.keep (by rw [upd_other (Ne.symm b3), upd_other (Ne.symm a1)]) (by rw [upd_other (Ne.symm b4), upd_other (Ne.symm a2)]), ?_, fun i cp hi => ?_, by simp, by simp, fun a v n1 n2 e => ?_, ⟨[root], upd_same _ _ _, .cons ⟨way, x0, hp.le ls⟩ .nil⟩, by simp [cp0], by simp⟩
    ·
      show upd (upd σ2 mkd _) wl _ mkd = _
      rw [upd_other (Ne.symm b1), upd_same]; rfl
    ·
      cases i with
      | succ i => simp at hi
      | zero =>
        simp at hi; subst hi
        refine ⟨m6, ⟨x0, hp.row, m7, List.replicate x0.ts.length (.ref t'), ?_, List.length_replicate⟩, ld, lmd, lmk, Ne.symm b2, m3, ?_⟩
        ·
          show upd (upd σ2 mkd _) wl _ l = _
          rw [upd_other (Ne.symm b2), upd_other lmk]; exact m2
        ·
          show φ r = none
          cases e : φ r with
          | none => rfl
          | some o => have := l1 _ _ e; rw [m5] at this; cases this
    ·
      have n3 : a ≠ mkd := fun q => by subst q; have e' : σ a = some v := e; rw [g1] at e'; cases e'
      have n4 : a ≠ wl := fun q => by subst q; have e' : σ a = some v := e; rw [w1'] at e'; cases e'
      have n5 : a ≠ l := fun q => by subst q; have e' : σ a = some v := e; rw [m3] at e'; cases e'
      show upd (upd σ2 mkd _) wl _ a = _
      rw [upd_other n4, upd_other n3, m8 a n1 n2 n5, upd_other n3]; exact e
  refine A_local rfl ?_
  refine X_cons ?_
  refine cp_while (K := K) (root := root) (cp0 := cp0) (x0 := x0) (m := 2 * (K.lots.length - 1) + 1) R hkK rfl ⟨[cp0], [g], rfl, C0, fun cp hcp => .inl (by rw [List.mem_singleton.mp hcp]; exact List.mem_singleton.mpr rfl), ⟨rfl, rfl, rfl, rfl, rfl⟩, [], rfl⟩ fun ρ' φ3 σ3 cs l3 C hf N hrest => ?_
  obtain ⟨n1, n2, n3, n4, n5⟩ := N
  have W3 := W0.le (ls.trans l3)
  have hin : cp0 ∈ cs := by obtain ⟨rest, e⟩ := hrest; rw [e]; exact .head _
  show XW _ _ _ _ _ _ _ _ _
  repeat walk_at "zw"
  refine pkey R W3 (hp.le (ls.trans l3)) fun k2 φ4 l4 hk4 => ?_
  (with_reducible refine T_item ?_ ?_); (intro _; with_unfolding_all rfl)
  refine ⟨_, _, .ref c, hk4, C.made, madeD_some C.ndg hin, ?_⟩
  have C4 := C.le l4
  refine q c φ4 σ3 cs ((ls.trans l3).trans l4) ⟨?_, fun i cp hi => ?_, fun cp hcp => ?_, C.ndg, C.ndl⟩ (C.size hkK) C.mem (fun a v h1 h2 e => C.out a v h1 h2 e) fun cp hcp => ⟨(C.lists cp hcp).1, (C.lists cp hcp).2.1⟩
  ·
    obtain ⟨rest, e⟩ := hrest
    exact ⟨cp0, rest, e, rfl, rfl, rfl⟩
  ·
    have kc := C4.cop i cp hi
    obtain ⟨y, y1, y2, _⟩ := kc.src
    exact ⟨kc.row, kc.f2, kc.f1, y, y1, y2⟩
  ·
    obtain ⟨ts, t1, t2⟩ := (hf cp hcp).step l4 rfl (fun _ h => h)
    exact ⟨ts, t1, t2⟩
end
end
section
variable {n : Nat} {φ : Ph} {σ : Sg} {Q : V → Ph → Sg → Prop}
theorem b716_5 (R : Rt w H0) {v0 v1 v2 v3 v4 : V} : Bind H0 d716 [v0, v1, v2, v3, v4] [("lots", v0), ("rows", v1), ("whole", v2), ("copy", v3), ("is_unbound", v4)] := by
  intro s xs hx root
  refine VRs.consE hx fun _ _ h0 hx => ?_; refine VRs.consE hx fun _ _ h1 hx => ?_; refine VRs.consE hx fun _ _ h2 hx => ?_; refine VRs.consE hx fun _ _ h3 hx => ?_; refine VRs.consE hx fun _ _ h4 hx => ?_; refine VRs.nilE hx ?_; exact ⟨_, .cons h0 (.cons h1 (.cons h2 (.cons h3 (.cons h4 .nil)))), BindsTo.of_eq rfl⟩
inductive DictP (w : World) (φ : Ph) (d : Addr) (xs : List (Scal × V)) : Prop
  | mk (o : Obj) (kvs : List (Scal × Value)) (h1 : φ d = some o) (h2 : sysModules < d) (h3 : o.IsDictOf (scalKind pw w) kvs) (h4 : KVs xs kvs) : DictP w φ d xs
theorem DictP.le {φ φ' : Ph} (l : Le φ φ') {d xs} (h : DictP w φ d xs) : DictP w φ' d xs := by obtain ⟨o, kvs, h1, h2, h3, h4⟩ := h; exact ⟨o, kvs, l _ _ h1, h2, h3, h4⟩
section
variable {sc : Scope} {ρ : Lo}
theorem W.freezeD {α β : Type} {R : β → α → Prop} {t : Env → Sem α} {Q : β → Lo → Ph → Sg → Prop} {a : Addr} {xs : List (Scal × V)} (e : σ a = some (.sdict xs)) (h : ∀ φ', Le φ φ' → DictP w φ' a xs → W w H0 sc n R t ρ φ' (del σ a) Q) : W w H0 sc n R t ρ φ σ Q := fun τ env A s k => by
  have hh := k.hr.high _ _ (k.full_sg e)
  obtain ⟨o, ⟨kvs, h1, h2⟩, hn, k', l⟩ := k.freeze e
  exact h _ l ⟨o, kvs, updP_same _ _ _, hh, h1, h2⟩ τ env A s k'
theorem D_itemF : ∀ {n : Nat} {φ : Ph} {σ : Sg} {sc : Scope} {ρ : Lo} {Q : V → Lo → Ph → Sg → Prop} {e i : PySem.Expr} {d : Addr} {kv : V} (hs : ∀ y, subscripted i false (.ref d) y = operate [.ref d, y] (getItem (.ref d) y)) (q : ∃ xs k v, kv = scV k ∧ DictP w φ d xs ∧ valV xs k = some v ∧ Q v ρ φ σ), ∀ x y, VR (.ref d) x → VR kv y → W w H0 sc n VR (fun _ => subscriptTail e i x y) ρ φ σ Q := by
  apply @Mine.hk6; generalize ca1 (cx _) = n, ca2 (cx _) = φ, ca3 (cx _) = σ, ca4 (cx _) = sc, ca5 (cx _) = ρ, cz6 (cx _) = Q
  apply @Mine.hk4; generalize ca1 (cx _) = e, ca2 (cx _) = i, ca3 (cx _) = d, cz4 (cx _) = kv
  intro hs q
  intro x y hx hy
  cases hx
  obtain ⟨xs, k, v, rfl, ⟨o, kvs, ho, hh, hd, h2⟩, hv, q⟩ := q
  refine W.leaf (b := v) (fun τ env A s kk => ?_) q
  have h1 : s.heap.DictOf (scalKind pw w) d kvs := Heap.dictOf_iff.mpr ⟨o, kk.hr.keep _ _ ho, hd⟩
  have hr := h2.value k
  rw [hv] at hr
  cases e : valueAt kvs k with
  | none => rw [e] at hr; cases hr
  | some u =>
    rw [e] at hr
    cases hr with
    | some hvu => exact tail_any h1.typeIs slot_dict_getitem.lookup (wpAny_getItem_of (sc_is hy) h1.mapOf e ⟨hvu, rfl, rfl, rfl⟩) (hs _)
theorem It_dictP {K : List Itm → Lo → Ph → Sg → Prop} {e : PySem.Expr} {x : Str} {p : Pos} (h : EW w H0 sc n e ρ φ σ fun v ρ φ σ => ∃ d xs, v = .ref d ∧ DictP w φ d xs ∧ K (xs.map fun kv => .v (scV kv.1)) ρ φ σ) : ItW w H0 sc n e (.Name x p) ρ φ σ K :=
  It_dict (h.mono fun v ρ φ σ hPt => by obtain ⟨d, xs, e1, ⟨o, kvs, h1, h2, h3, h4⟩, hK⟩ := hPt; exact ⟨d, o, xs, kvs, e1, h1, h2, h3, h4, hK⟩)
end
structure CpF (φ : Ph) (lots : List (List Piece)) (rows : List RowJ) (unb : Bool) (la0 g way : Nat) (c : Addr) (cs : List CP) : Prop where
  head : ∃ cp rest, cs = cp :: rest ∧ cp.g = g ∧ cp.way = way ∧ cp.c = c
  row : ∀ (i : Nat) cp, cs[i]? = some cp → Rwi φ cp.r ((la0 + i + 1 : Nat) : Int) cp.l ∧ ∃ x, rows[cp.g]? = some x ∧ Prc φ cp.c (wayK cp.way) cp.r x.ts.length true (wayA cp.way)
  full : ∀ cp ∈ cs, ∃ ts : List Addr, LstP φ cp.l (ts.map .ref) ∧ All2 (fun (pw : Piece × Addr) t => CThing φ rows unb cs pw.1 pw.2 t) (pairs lots rows cp.g) ts
  ndg : (cs.map (·.g)).Nodup
  far : ∀ cp ∈ cs, ∀ x ∈ rows, cp.r ≠ x.r
theorem CpF.le {φ φ' : Ph} (l : Le φ φ') {lots rows unb la0 g way c cs} (h : CpF φ lots rows unb la0 g way c cs) : CpF φ' lots rows unb la0 g way c cs :=
  ⟨h.head, fun i cp e => by obtain ⟨a, x, b, c⟩ := h.row i cp e; exact ⟨a.le l, x, b, c.le l⟩, fun cp hc => by obtain ⟨ts, a, b⟩ := h.full cp hc; exact ⟨ts, a.le l, b.mono fun _ _ h => h.le l fun _ h => h⟩, h.ndg, h.far⟩
noncomputable def bodD (ds : List CP) : List (Scal × V) := ds.map fun cp => (.int (cp.g : Int), .ref cp.r)
theorem bodD_none : ∀ {ds : List CP} {g : Nat}, (valV (bodD ds) (.int (g : Int))).isSome = decide (g ∈ ds.map (·.g)) := by
  apply @Mine.hk2; generalize ca1 (cx _) = ds, cz2 (cx _) = g
  induction ds with
  | nil => rfl
  | cons a r ih =>
    unfold valV bodD at ih ⊢
    rw [List.map_cons, List.find?_cons]
    by_cases h : a.g = g
    · subst h; simp
    · have : ¬ Scal.int (a.g : Int) = Scal.int (g : Int) := fun e => h (by injection e with e; lia)
      simp only [this, decide_false]
      rw [ih]; simp [Ne.symm h]
theorem bodD_some : ∀ {ds : List CP} {cp : CP}, (ds.map (·.g)).Nodup → cp ∈ ds → valV (bodD ds) (.int (cp.g : Int)) = some (.ref cp.r)
  | a :: r, cp, nd, h => by
    rw [List.map_cons, List.nodup_cons] at nd
    have ih := @bodD_some r cp nd.2
    unfold valV bodD at ih ⊢
    rw [List.map_cons, List.find?_cons]
    rcases List.mem_cons.mp h with rfl | h
    · simp
    · have hne : ¬ a.g = cp.g := fun e => nd.1 (List.mem_map.mpr ⟨cp, h, e.symm⟩)
      have : ¬ Scal.int (a.g : Int) = Scal.int (cp.g : Int) := fun e => hne (by injection e with e; lia)
      simp only [this, decide_false]
      exact ih h
theorem bodD_put {ds : List CP} {cp : CP} (h : cp.g ∉ ds.map (·.g)) : storedV (bodD ds) (.int (cp.g : Int)) (.ref cp.r) = bodD (ds ++ [cp]) := by
  unfold storedV
  rw [if_neg]
  · simp [bodD]
  · intro e
    obtain ⟨x, hx, e⟩ := List.any_eq_true.mp e
    obtain ⟨a, ha, rfl⟩ := List.mem_map.mp hx
    have e := of_decide_eq_true e
    exact h (List.mem_map.mpr ⟨a, ha, by injection e with e; lia⟩)
structure IS (φ0 : Ph) (σ0 : Sg) (lots : List (List Piece)) (cs : List CP) (bd wl : Addr) (ll rl : Addr) (unb : Bool) (ds : List CP) (gs : List Nat) (ρ : Lo) (φ : Ph) (σ : Sg) : Prop where
  le : Le φ0 φ
  sub : ∀ cp ∈ ds, cp ∈ cs
  nd : (ds.map (·.g)).Nodup
  gsub : ∀ g ∈ gs, g ∈ ds.map (·.g)
  gsz : gs.length ≤ ds.length
  bod : σ bd = some (.sdict (bodD ds))
  wait : σ wl = some (.list (nats gs))
  out : ∀ a, a ≠ bd → a ≠ wl → σ a = σ0 a
  nb : ρ "bodies" = some (.ref bd)
  nw : ρ "waiting" = some (.ref wl)
  nm : ρ "many" = some (.int ds.length)
  nl : ρ "lots" = some (.ref ll)
  nr : ρ "rows" = some (.ref rl)
  nu : ρ "is_unbound" = some (.bool unb)
noncomputable def isW : Stmt := (bodyOf (stT 62)).getD 2 (.Pass default)
noncomputable def isF : Stmt := (whB isW).getD 3 (.Pass default)
end
section
variable {n : Nat} {φ : Ph} {σ : Sg} {Q : V → Ph → Sg → Prop}
section
variable {lots : List (List Piece)} {rows : List RowJ} {unb : Bool} {la0 g0 way0 : Nat} {c0 : Addr} {cs : List CP} {bd wl ll rl : Addr} {φ0 : Ph} {σ0 : Sg}
theorem is_in : ∀ {n : Nat} {lots : List (List Piece)} {rows : List RowJ} {unb : Bool} {la0 : Nat} {g0 : Nat} {way0 : Nat} {c0 : Addr} {cs : List CP} {bd : Addr} {wl : Addr} {ll : Addr} {rl : Addr} {φ0 : Ph} {σ0 : Sg} (R : Rt w H0) (hL : Lots lots) (W0 : Wld φ0 lots rows) (hll : LotsAt φ0 ll lots) (hrl : LstP φ0 rl (rows.map fun x => V.ref x.r)) (hC : CpF φ0 lots rows unb la0 g0 way0 c0 cs) (hbw : bd ≠ wl) (hcs : cs.length ≤ 4),
    ∀ {ps : List Piece} {tts wss ths : List Addr} {ds : List CP} {gs : List Nat} {ρ : Lo} {φ : Ph} {σ : Sg} {Q : Fl → Lo → Ph → Sg → Prop},
    All2 (fun t (p : Piece) => Tup φ t p.tup) tts ps → All2 (PThing φ (RowJ.rs rows)) ps wss → All2 (fun (pw : Piece × Addr) t => CThing φ rows unb cs pw.1 pw.2 t) (ps.zip wss) ths → (∀ p ∈ ps, p.ok lots.length) →
    IS φ0 σ0 lots cs bd wl ll rl unb ds gs ρ φ σ →
    (∀ ρ' φ' σ' ds' gs' ex, IS φ0 σ0 lots cs bd wl ll rl unb ds' gs' ρ' φ' σ' → Le φ φ' → ds' = ds ++ ex → gs'.length = gs.length + ex.length → Q .next ρ' φ' σ') →
    Lp w H0 d716.scope (n+1) (forT isF) (forB isF) ((zip3V (tts.map V.ref) (wss.map V.ref) (ths.map V.ref)).map .t) ρ φ σ Q := by
  apply @Mine.hk6; generalize ca1 (cx _) = n, ca2 (cx _) = lots, ca3 (cx _) = rows, ca4 (cx _) = unb, ca5 (cx _) = la0, cz6 (cx _) = g0
  apply @Mine.hk6; generalize ca1 (cx _) = way0, ca2 (cx _) = c0, ca3 (cx _) = cs, ca4 (cx _) = bd, ca5 (cx _) = wl, cz6 (cx _) = ll
  apply @Mine.hk3; generalize ca1 (cx _) = rl, ca2 (cx _) = φ0, cz3 (cx _) = σ0
  intro R hL W0 hll hrl hC hbw hcs
  intro ps
  induction ps with
  | nil =>
    intro tts wss ths ds gs ρ φ σ Q ht hw hc hp I q
    cases ht
    exact q ρ φ σ ds gs [] I (.refl _) (by simp) (by simp)
  | cons p ps ih =>
    intro tts wss ths ds gs ρ φ σ Q ht hw hc hp I q
    cases ht with
    | @cons tt _ tts _ ht hts =>
    cases hw with
    | @cons _ wa _ wss hw hws =>
    rw [List.zip_cons_cons] at hc
    cases hc with
    | @cons _ th _ ths hc hcs' =>
    rw [Piece.tup_eq] at ht
    have W1 := W0.le I.le
    have C1 := hC.le I.le
    obtain ⟨n1, n2, n3, n4, n5, n6⟩ : ρ "bodies" = some (.ref bd) ∧ ρ "waiting" = some (.ref wl) ∧ ρ "many" = some (.int ds.length) ∧ ρ "lots" = some (.ref ll) ∧ ρ "rows" = some (.ref rl) ∧ ρ "is_unbound" = some (.bool unb) := ⟨I.nb, I.nw, I.nm, I.nl, I.nr, I.nu⟩
    have hp' : ∀ p ∈ ps, p.ok lots.length := fun p h => hp p (.tail _ h)
    refine Lp_t rfl rfl ?_
    refine A_tup rfl rfl ht (A_local rfl (A_local rfl (A_local rfl ?_)))
    refine A_local rfl (A_local rfl ?_)
    have next : ∀ {φ2 : Ph}, Le φ φ2 → Le φ φ2 ∧ Lp w H0 d716.scope (n+1) (forT isF) (forB isF) ((zip3V (tts.map V.ref) (wss.map V.ref) (ths.map V.ref)).map .t) (setL (setL (setL (setL (setL ρ "word" (.str p.word)) "what" p.what) "way" p.way) "was" (.ref wa)) "thing" (.ref th)) φ2 σ Q := fun {φ2} l2 => by
      refine ⟨l2, ih (hts.mono fun _ _ h => h.le l2) (hws.mono fun _ _ h => h.le l2) (hcs'.mono fun _ _ h => h.le l2 fun _ h => h) hp' ⟨I.le.trans l2, I.sub, I.nd, I.gsub, I.gsz, I.bod, I.wait, I.out, n1, n2, n3, n4, n5, n6⟩ fun ρ' φ' σ' ds' gs' ex I' l' a1 a2 => q ρ' φ' σ' ds' gs' ex I' (l2.trans l') a1 a2⟩
    refine X_cons ?_
    cases p with
    | name b =>
      dsimp only [Piece.word, Piece.what, Piece.way] at next ⊢
      have hT : Thg φ wa "name" (.bytes b) true 3 := hw
      obtain rfl : th = wa := hc
      repeat walk_at "zw"
      refine cw711 R hT hT fun φ2 l2 => ?_
      have hT2 := hT.le l2
      refine ⟨_, rfl, fun h => Bool.noConfusion h, fun _ => ?_⟩
      repeat walk_at "zw"
      refine C_neB ?_
      refine ⟨_, rfl, fun h => Bool.noConfusion h, fun _ => ?_⟩
      repeat walk_at "zw"
      exact next l2
    | lit b =>
      dsimp only [Piece.word, Piece.what, Piece.way] at next ⊢
      have hT : Thg φ wa "name" (.bytes b) false 3 := hw
      obtain rfl : th = wa := hc
      repeat walk_at "zw"
      refine cw711 R hT hT fun φ2 l2 => ?_
      have hT2 := hT.le l2
      refine ⟨_, rfl, fun h => Bool.noConfusion h, fun _ => ?_⟩
      repeat walk_at "zw"
      refine C_neB ?_
      refine ⟨_, rfl, fun h => Bool.noConfusion h, fun _ => ?_⟩
      repeat walk_at "zw"
      exact next l2
    | int i =>
      dsimp only [Piece.word, Piece.what, Piece.way] at next ⊢
      have hT : Thg φ wa "integer" (.int i) false 3 := hw
      obtain rfl : th = wa := hc
      repeat walk_at "zw"
      refine cw711 R hT hT fun φ2 l2 => ?_
      have hT2 := hT.le l2
      refine ⟨_, rfl, fun h => Bool.noConfusion h, fun _ => ?_⟩
      repeat walk_at "zw"
      exact next l2
    | op b =>
      dsimp only [Piece.word, Piece.what, Piece.way] at next ⊢
      have hT : Thg φ wa "operator" (.bytes b) true 3 := hw
      cases unb with
      | false =>
        obtain rfl : th = wa := hc
        repeat walk_at "zw"
        refine cw711 R hT hT fun φ2 l2 => ?_
        have hT2 := hT.le l2
        refine ⟨_, rfl, fun h => Bool.noConfusion h, fun _ => ?_⟩
        repeat walk_at "zw"
        refine C_neB ?_
        refine ⟨_, rfl, fun h => Bool.noConfusion h, fun _ => ?_⟩
        repeat walk_at "zw"
        exact next l2
      | true =>
        have hT2 : Thg φ th "name" (.bytes b) true 3 := hc
        clear hT
        repeat walk_at "zw"
        refine E_tuple ?_
        repeat walk_at "zw"
        refine ⟨by simp, fun t1 φ1 e1 e2 l1 ht1 => ?_⟩
        repeat walk_at "zw"
        refine E_tuple ?_
        repeat walk_at "zw"
        refine ⟨by simp, fun t2 φ2 e1 e2 l2 ht2 => ?_⟩
        refine C_neTup (ht1.le l2) ht2 (.cons (.str _) (.cons (.bool _) (.cons (.bytes _) .nil))) ?_
        refine ⟨_, rfl, fun h => Bool.noConfusion h, fun _ => ?_⟩
        repeat walk_at "zw"
        exact next (l1.trans l2)
    | row g =>
      dsimp only [Piece.word, Piece.what, Piece.way] at next ⊢
      obtain ⟨r, m, hg, s, hT, hS⟩ := hw
      obtain rfl : th = wa := hc
      obtain ⟨x, hx, rfl, rfl⟩ := rs_get hg
      have hgl := (List.getElem?_eq_some_iff.mp hx).1
      have hrl1 := hrl.le I.le
      have hlen := W0.len
      have hsm := hL.small
      repeat walk_at "zw"
      refine cw711 R hT hT fun φ2 l2 => ?_
      have hT2 := hT.le l2
      have hS2 := hS.le l2
      refine ⟨_, rfl, fun h => Bool.noConfusion h, fun _ => ?_⟩
      repeat walk_at "zw"
      (with_reducible refine I_listc ?_ ?_); (intro _; with_unfolding_all rfl)
      refine ⟨_, .ref x.r, .inr (hrl1.le l2), by lia, by lia, by simp [hx], ?_⟩
      refine C_isNotSelf ?_
      refine ⟨_, rfl, fun h => Bool.noConfusion h, fun _ => ?_⟩
      repeat walk_at "zw"
      exact next l2
    | proc g way =>
      dsimp only [Piece.word, Piece.what, Piece.way] at next ⊢
      obtain ⟨cp, hcp, rfl, x, hx, hth⟩ := hc
      obtain ⟨s2, hT2, hS2⟩ := id hth
      obtain ⟨y, hy⟩ := pat_of hw
      have hyx : y = x := by have := hy.row; rw [hx] at this; cases this; rfl
      subst hyx
      obtain ⟨s1, hT1, hS1⟩ := id hy.prc
      repeat walk_at "zw"
      refine cw711 R hT2 hT1 fun φ2 l2 => ?_
      have ps4 := hL.small
      obtain ⟨psx, hpsx, hall⟩ := W0.lot hx
      have hplen := hall.len
      have hp4 := (hL.each _ (List.mem_of_getElem? hpsx)).1
      have hT2 := hT2.le l2
      have hS2 := hS2.le l2
      have hgl : cp.g < lots.length := (List.getElem?_eq_some_iff.mp hpsx).1
      obtain ⟨las, la1, la2⟩ := hll
      obtain ⟨la, la3, tts2, la4, la5⟩ := la2.get2 hpsx
      have lae := la5.len
      refine ⟨_, rfl, fun h => Bool.noConfusion h, fun _ => ?_⟩
      repeat walk_at "zw"
      refine E_tuple ?_
      repeat walk_at "zw"
      refine ⟨by simp, fun t1 φ3 e1 e2 l3 ht1 => ?_⟩
      repeat walk_at "zw"
      refine E_tuple ?_
      repeat walk_at "zw"
      (with_reducible refine I_listc ?_ ?_); (intro _; with_unfolding_all rfl)
      have l03 := I.le.trans (l2.trans l3)
      refine ⟨_, .ref la, .inr (la1.le l03), by lia, by lia, by simp [la3], ?_⟩
      repeat walk_at "zw"
      refine E_lenL (.inr (la4.le l03)) (by simp; lia) ?_
      rw [List.length_map, lae, hplen]
      repeat walk_at "zw"
      refine ⟨by simp, fun t2 φ4 e3 e4 l4 ht2 => ?_⟩
      refine C_neTup (ht1.le l4) ht2 (.cons (.int _) (.cons (.int _) .nil)) ?_
      refine ⟨_, rfl, fun h => Bool.noConfusion h, fun _ => ?_⟩
      have ls := l2.trans (l3.trans l4)
      have hT2 := (hT2.le l3).le l4
      have hS2 := (hS2.le l3).le l4
      have hts' := hts.mono fun _ _ h => Tup.le ls h
      have hws' := hws.mono fun _ _ h => PThing.le ls h
      have hcs2 := hcs'.mono fun _ _ h => CThing.le ls (fun _ h => h) h
      have dsz : ds.length ≤ 4 := by
        have := nodup_bound lots.length _ I.nd fun a ha => by
          obtain ⟨c, hc, rfl⟩ := List.mem_map.mp ha
          obtain ⟨j, hj⟩ := List.mem_iff_getElem?.mp (I.sub c hc)
          obtain ⟨_, z, hz, _⟩ := hC.row j c hj
          rw [← W0.len]; exact (List.getElem?_eq_some_iff.mp hz).1
        simp at this; lia
      have gsz := I.gsz
      refine X_nil ?_
      repeat walk_at "zw"
      refine C_notInD ⟨_, .int (cp.g : Int), rfl, I.bod, ?_⟩
      rw [bodD_none]
      refine ⟨_, rfl, fun h => ?_, fun h => ?_⟩
      · have hng : cp.g ∉ ds.map (·.g) := by simpa using h
        refine X_cons ?_
        refine S_setitem ?_
        repeat walk_at "zw"
        refine G_setD (k := .int (cp.g : Int)) I.bod (by simp [bodD]; lia) ?_
        rw [bodD_put hng]
        have b1 := upd_same σ bd (C.sdict (bodD (ds ++ [cp])))
        have w1 : upd σ bd (C.sdict (bodD (ds ++ [cp]))) wl = some (.list (nats gs)) := by rw [upd_other (Ne.symm hbw)]; exact I.wait
        repeat walk_at "zw"
        refine E_append rfl (fun _ => rfl) ?_
        repeat walk_at "zw"
        refine ⟨wl, rfl, ⟨_, .inl w1⟩, ?_⟩
        repeat walk_at "zw"
        refine ⟨_, w1, by simp [nats]; lia, rfl, ?_⟩
        have eg : nats gs ++ [V.int (cp.g : Int)] = nats (gs ++ [cp.g]) := by simp [nats]
        rw [eg]
        have b2 : upd (upd σ bd (C.sdict (bodD (ds ++ [cp])))) wl (.list (nats (gs ++ [cp.g]))) bd = some (.sdict (bodD (ds ++ [cp]))) := by rw [upd_other hbw]; exact b1
        have nd2 : ((ds ++ [cp]).map (·.g)).Nodup := by
          rw [List.map_append, List.nodup_append]
          exact ⟨I.nd, by simp, fun a ha b hb e => by simp at hb; subst hb e; exact hng ha⟩
        repeat walk_at "zw"
        (with_reducible refine D_item ?_ ?_); (intro _; with_unfolding_all rfl)
        refine ⟨_, .int (cp.g : Int), .ref cp.r, rfl, b2, bodD_some nd2 (by simp), ?_⟩
        refine C_isNotSelf ?_
        refine ⟨_, rfl, fun h => Bool.noConfusion h, fun _ => ?_⟩
        repeat walk_at "zw"
        refine ⟨ls, ?_⟩
        refine ih (ds := ds ++ [cp]) (gs := gs ++ [cp.g]) hts' hws' hcs2 hp' ⟨I.le.trans ls, fun c hc => ?_, nd2, fun g hg => ?_, by simp; lia, b2, upd_same _ _ _, fun a n1 n2 => ?_, n1, n2, ?_, n4, n5, n6⟩ fun ρ' φ' σ' ds' gs' ex I' l' a1 a2 => q ρ' φ' σ' ds' gs' (cp :: ex) I' (ls.trans l') (by rw [a1]; simp) (by rw [a2]; simp; lia)
        · rcases List.mem_append.mp hc with hc | hc
          · exact I.sub c hc
          · simp at hc; subst hc; exact hcp
        · rcases List.mem_append.mp hg with hg | hg
          · rw [List.map_append]; exact List.mem_append_left _ (I.gsub g hg)
          · simp at hg; subst hg; simp
        · rw [upd_other n2, upd_other n1]; exact I.out a n1 n2
        · simp [setL]
      · have hin : cp.g ∈ ds.map (·.g) := by simpa using h
        obtain ⟨cp', hcp', e'⟩ := List.mem_map.mp hin
        have : cp' = cp := Classical.byContradiction fun hne => nd_ne hC.ndg (I.sub cp' hcp') hcp hne e'
        subst this
        refine X_nil ?_
        repeat walk_at "zw"
        (with_reducible refine D_item ?_ ?_); (intro _; with_unfolding_all rfl)
        refine ⟨_, .int (cp'.g : Int), .ref cp'.r, rfl, I.bod, bodD_some I.nd hcp', ?_⟩
        refine C_isNotSelf ?_
        refine ⟨_, rfl, fun h => Bool.noConfusion h, fun _ => ?_⟩
        repeat walk_at "zw"
        exact next ls
end
end
section
variable {n : Nat} {φ : Ph} {σ : Sg} {Q : V → Ph → Sg → Prop}
noncomputable def ifE : Stmt → PySem.Expr
  | .If e _ _ _ => e
  | _ => default
noncomputable def orE : PySem.Expr → PySem.Expr
  | .BoolOp _ [_, b] _ => b
  | _ => default
noncomputable def cmE : PySem.Expr → PySem.Expr
  | .Compare a _ _ _ => a
  | _ => default
noncomputable def arE : PySem.Expr → PySem.Expr
  | .Call _ [a] _ _ => a
  | _ => default
noncomputable def isC1 : PySem.Expr := cmE (orE (ifE ((whB isW).getD 2 (.Pass default))))
noncomputable def isC2 : PySem.Expr := asE ((bodyOf (stT 62)).getD 3 (.Pass default))
noncomputable def isC3 : PySem.Expr := arE (cmE (asE ((bodyOf (stT 62)).getD 4 (.Pass default))))
theorem is_c1 : ∀ {n : Nat} {ρ : Lo} {b : Addr} {num : Int} {l : Addr} (e1 : ρ "body" = some (.ref b)) (e2 : ρ "row" = none), ∀ {xs : List RowJ} {φ : Ph} {σ : Sg} {Q : List V → Ph → Sg → Prop},
    Rwi φ b num l → (∀ x ∈ xs, b ≠ x.r ∧ ∃ i k, Rwi φ x.r i k) → Q [] φ σ →
    Lc w H0 (relab d716.scope (cSc isC1)) n (cTgt isC1) (cIfs isC1) (cElt isC1) ρ ((xs.map fun x => V.ref x.r).map .v) [] φ σ Q := by
  apply @Mine.hk5; generalize ca1 (cx _) = n, ca2 (cx _) = ρ, ca3 (cx _) = b, ca4 (cx _) = num, cz5 (cx _) = l
  intro e1 e2
  intro xs
  induction xs with
  | nil => intro φ σ Q hb hx q; exact q
  | cons x xs ih =>
    intro φ σ Q hb hx q
    obtain ⟨hne, i, k, hr⟩ := hx x (.head _)
    refine ⟨by simp, ?_⟩
    show AW _ _ _ _ _ _ _ _ _ _
    refine A_local rfl ?_
    show TW _ _ _ _ _ _ _ _ _
    repeat walk_at "zw"
    obtain ⟨dd, g1, _⟩ := id hr
    obtain ⟨db, g2, _⟩ := id hb
    refine C_isOther (Ne.symm hne) g1 g2 (by intro h; cases h) ?_
    refine ⟨_, rfl, fun h => Bool.noConfusion h, fun _ => ⟨Sub.set (.refl _) e2, .refl _, ?_⟩⟩
    exact ih hb (fun x hx' => hx x (.tail _ hx')) q
theorem is_c2 : ∀ {n : Nat} {ρ : Lo} {d : Addr} {ds : List CP} {nm : CP → Int} (R : Rt w H0) (e1 : ρ "bodies" = some (.ref d)) (e2 : ρ "at" = none) (nd : (ds.map (·.g)).Nodup), ∀ {xs : List CP} {acc : List V} {φ : Ph} {σ : Sg} {Q : List V → Ph → Sg → Prop},
    DictP w φ d (bodD ds) → (∀ cp ∈ xs, cp ∈ ds) → (∀ cp ∈ xs, ∃ l, Rwi φ cp.r (nm cp) l) → acc.length + xs.length ≤ 100 → Q (acc ++ xs.map fun cp => .int (nm cp)) φ σ →
    Lc w H0 (relab d716.scope (cSc isC2)) n (cTgt isC2) (cIfs isC2) (cElt isC2) ρ ((bodD xs).map fun kv => Itm.v (scV kv.1)) acc φ σ Q := by
  apply @Mine.hk5; generalize ca1 (cx _) = n, ca2 (cx _) = ρ, ca3 (cx _) = d, ca4 (cx _) = ds, cz5 (cx _) = nm
  intro R e1 e2 nd
  intro xs
  induction xs with
  | nil => intro acc φ σ Q hd hx hn hz q; show Q acc φ σ; simpa using q
  | cons x xs ih =>
    intro acc φ σ Q hd hx hn hz q
    simp only [List.length_cons] at hz
    obtain ⟨l, hr⟩ := hn x (.head _)
    refine ⟨by lia, ?_⟩
    show AW _ _ _ _ _ _ _ _ _ _
    refine A_local rfl ?_
    refine ⟨fun _ => ?_, fun h => Bool.noConfusion h⟩
    refine E_attr ?_ ?_
    rotate_left
    · intro _; rfl
    repeat walk_at "zw"
    refine D_itemF (fun _ => by with_unfolding_all rfl) ?_
    refine ⟨_, .int (x.g : Int), .ref x.r, rfl, hd, bodD_some nd (hx x (.head _)), ?_⟩
    repeat walk_at "zw"
    refine ⟨Sub.set (.refl _) e2, .refl _, ?_⟩
    exact ih (acc := acc ++ [.int (nm x)]) hd (fun c hc => hx c (.tail _ hc)) (fun c hc => hn c (.tail _ hc)) (by simp; lia) (by simpa using q)
theorem is_c3 : ∀ {n : Nat} {ρ : Lo} {l : Addr} {is : List Int} (e1 : ρ "numbers" = some (.ref l)) (e2 : ρ "at" = none) (e3 : ρ "number" = none) (nd : is.Nodup) (hz : is.length ≤ 100), ∀ {xs : List Int} {j : Nat} {acc : List V} {φ : Ph} {σ : Sg} {Q : List V → Ph → Sg → Prop},
    LstP φ l (is.map .int) → is.drop j = xs → acc.length = j → Q (acc ++ xs.map .int) φ σ →
    Lc w H0 (relab d716.scope (cSc isC3)) n (cTgt isC3) (cIfs isC3) (cElt isC3) ρ ((enumV j (xs.map .int)).map .t) acc φ σ Q := by
  apply @Mine.hk4; generalize ca1 (cx _) = n, ca2 (cx _) = ρ, ca3 (cx _) = l, cz4 (cx _) = is
  intro e1 e2 e3 nd hz
  intro xs
  induction xs with
  | nil => intro j acc φ σ Q hl hd ha q; show Q acc φ σ; simpa using q
  | cons x xs ih =>
    intro j acc φ σ Q hl hd ha q
    have hj : j < is.length := by
      rcases Nat.lt_or_ge j is.length with h | h
      · exact h
      · rw [List.drop_eq_nil_of_le h] at hd; cases hd
    have hx : is = is.take j ++ x :: xs := by rw [← hd, List.take_append_drop]
    have hnot : (is.take j).any (· == x) = false := by
      rw [Bool.eq_false_iff]
      intro h
      obtain ⟨y, hy, e⟩ := List.any_eq_true.mp h
      have e : y = x := by simpa using e
      subst e
      have nd' := nd
      rw [hx, List.nodup_append] at nd'
      exact nd'.2.2 y hy y (.head _) rfl
    refine ⟨by lia, ?_⟩
    refine ⟨_, _, _, rfl, rfl, rfl, ?_⟩
    refine A_local rfl (A_local rfl ?_)
    show TW _ _ _ _ _ _ _ _ _
    repeat walk_at "zw"
    refine ⟨l, _, j, rfl, rfl, .inr hl, by simpa using by lia, fun sl s1 s2 => ?_⟩
    rw [← List.map_take]
    refine C_notInLI (.inl (upd_same _ _ _)) ?_
    rw [hnot]
    refine ⟨_, rfl, fun _ => W.drop (σ' := σ) (fun a c e => by rw [upd_other (fun q => by subst q; rw [s1] at e; cases e)]; exact e) (N_local rfl rfl ⟨_, rfl, ?_⟩), fun h => Bool.noConfusion h⟩
    refine ⟨?_, .refl _, ?_⟩
    · exact Sub.set (Sub.set (.refl _) e2) e3
    exact ih (j := j + 1) (acc := acc ++ [.int x]) hl (by rw [← List.drop_drop, hd]; rfl) (by simp; lia) (by simpa using q)
theorem pairs_of {lots : List (List Piece)} {rows : List RowJ} {g : Nat} {ps : List Piece} {x : RowJ} (h1 : lots[g]? = some ps) (h2 : rows[g]? = some x) : pairs lots rows g = ps.zip x.ts := by
  unfold pairs
  rw [List.getD_eq_getElem?_getD, h1, h2]; rfl
section
variable {lots : List (List Piece)} {rows : List RowJ} {unb : Bool} {la0 g0 way0 : Nat} {c0 : Addr} {cs : List CP} {bd wl ll rl : Addr} {φ0 : Ph} {σ0 : Sg}
theorem IS.size {ds : List CP} {gs : List Nat} {ρ : Lo} (hC : CpF φ0 lots rows unb la0 g0 way0 c0 cs) (W0 : Wld φ0 lots rows) (I : IS φ0 σ0 lots cs bd wl ll rl unb ds gs ρ φ σ) : ds.length ≤ lots.length := by
  have := nodup_bound lots.length _ I.nd fun a ha => by
    obtain ⟨c, hc, rfl⟩ := List.mem_map.mp ha
    obtain ⟨j, hj⟩ := List.mem_iff_getElem?.mp (I.sub c hc)
    obtain ⟨_, z, hz, _⟩ := hC.row j c hj
    rw [← W0.len]; exact (List.getElem?_eq_some_iff.mp hz).1
  simpa using this
theorem is_while : ∀ {n : Nat} {φ : Ph} {σ : Sg} {lots : List (List Piece)} {rows : List RowJ} {unb : Bool} {la0 : Nat} {g0 : Nat} {way0 : Nat} {c0 : Addr} {cs : List CP} {bd : Addr} {wl : Addr} {ll : Addr} {rl : Addr} {φ0 : Ph} {σ0 : Sg} {pos : Pos} {test : PySem.Expr} {body : List Stmt} {Q : Fl → Lo → Ph → Sg → Prop} {ds : List CP} {gs : List Nat} {ρ : Lo} (R : Rt w H0) (hL : Lots lots) (W0 : Wld φ0 lots rows) (hll : LotsAt φ0 ll lots) (hrl : LstP φ0 rl (rows.map fun x => V.ref x.r)) (hC : CpF φ0 lots rows unb la0 g0 way0 c0 cs) (hbw : bd ≠ wl) (hcs : cs.length ≤ 4) (hw : isW = .While test body [] pos) (hI : IS φ0 σ0 lots cs bd wl ll rl unb ds gs ρ φ σ) (q : ∀ ρ' φ' σ' ds' , Le φ φ' → IS φ0 σ0 lots cs bd wl ll rl unb ds' [] ρ' φ' σ' → Q .next ρ' φ' σ'), SW w H0 d716.scope (n+1) (.While test body [] pos) ρ φ σ Q := by
  apply @Mine.hk6; generalize ca1 (cx _) = n, ca2 (cx _) = φ, ca3 (cx _) = σ, ca4 (cx _) = lots, ca5 (cx _) = rows, cz6 (cx _) = unb
  apply @Mine.hk6; generalize ca1 (cx _) = la0, ca2 (cx _) = g0, ca3 (cx _) = way0, ca4 (cx _) = c0, ca5 (cx _) = cs, cz6 (cx _) = bd
  apply @Mine.hk6; generalize ca1 (cx _) = wl, ca2 (cx _) = ll, ca3 (cx _) = rl, ca4 (cx _) = φ0, ca5 (cx _) = σ0, cz6 (cx _) = pos
  apply @Mine.hk6; generalize ca1 (cx _) = test, ca2 (cx _) = body, ca3 (cx _) = Q, ca4 (cx _) = ds, ca5 (cx _) = gs, cz6 (cx _) = ρ
  intro R hL W0 hll hrl hC hbw hcs hw hI q
  have hw' : Stmt.While test body [] pos = isW := hw.symm
  have key : SW w H0 d716.scope (n+1) isW ρ φ σ Q := by
    refine S_whileI (m := 2 * (lots.length - ds.length) + gs.length) (fun m ρ φ1 σ => Le φ φ1 ∧ ∃ ds gs, m = 2 * (lots.length - ds.length) + gs.length ∧ IS φ0 σ0 lots cs bd wl ll rl unb ds gs ρ φ1 σ) ?_ ⟨.refl _, ds, gs, rfl, hI⟩
    (apply @Mine.hk4; generalize ca1 (cx _) = m, ca2 (cx _) = ρ, ca3 (cx _) = φ3, cz4 (cx _) = σ3)
    intro hEx
    obtain ⟨hle, hEx⟩ := hEx
    (refine Exists.elim hEx ?_; clear hEx; apply @Mine.hk; generalize cx _ = ds; intro hEx; refine Exists.elim hEx ?_; clear hEx; apply @Mine.hk; generalize cx _ = gs; intro hEx)
    obtain ⟨hm, I⟩ := hEx
    obtain ⟨n1, n2, n3, n4, n5, n6⟩ : ρ "bodies" = some (.ref bd) ∧ ρ "waiting" = some (.ref wl) ∧ ρ "many" = some (.int ds.length) ∧ ρ "lots" = some (.ref ll) ∧ ρ "rows" = some (.ref rl) ∧ ρ "is_unbound" = some (.bool unb) := ⟨I.nb, I.nw, I.nm, I.nl, I.nr, I.nu⟩
    have hgz := I.gsz
    have hdz := I.size hC W0
    have hsml := hL.small
    have w1 := I.wait
    refine T_cmp ?_
    repeat walk_at "zw"
    refine E_list (A_nil ⟨by simp, ?_⟩)
    (apply @Mine.hk; generalize cx _ = b)
    intro b1 b2
    refine Cm_freezeL b1 ?_
    (apply @Mine.hk; generalize cx _ = φ4)
    intro l4 hb
    refine C_neNil (.inl w1) (.inr hb) ?_
    refine ⟨_, rfl, fun h => ?_, fun h => ?_⟩
    ·
      rcases List.eq_nil_or_concat gs with rfl | ⟨gs', g, rfl⟩
      ·
        simp [nats] at h
      rw [List.concat_eq_append] at *
      obtain ⟨cp, hcp, rfl⟩ := List.mem_map.mp (I.gsub g (by simp))
      have hcs' := I.sub cp hcp
      obtain ⟨j, hj⟩ := List.mem_iff_getElem?.mp hcs'
      have C4 := (hC.le I.le).le l4
      obtain ⟨hrw, x, hx, hpc⟩ := C4.row j cp hj
      obtain ⟨ts, hts, hfull⟩ := C4.full cp hcs'
      have W4 := (W0.le I.le).le l4
      obtain ⟨ps, hps, hall⟩ := W4.lot hx
      have hrx := W4.row _ _ hx
      rw [pairs_of hps hx] at hfull
      have hp4 := (hL.each _ (List.mem_of_getElem? hps)).1
      have hpok : ∀ p ∈ ps, p.ok lots.length := fun p h => ((hL.each _ (List.mem_of_getElem? hps)).2 p h).1
      have hplen := hall.len
      have hflen := hfull.len
      rw [List.length_zip, hplen, Nat.min_self] at hflen
      obtain ⟨las, la1, la2⟩ := hll
      obtain ⟨la, la3, tts, la4, la5⟩ := la2.get2 hps
      have lae := la5.len
      have lasl := la2.len
      have hgl : cp.g < lots.length := (List.getElem?_eq_some_iff.mp hps).1
      have hrl4 := (hrl.le I.le).le l4
      have l04 := I.le.trans l4
      have hrlen := W0.len
      refine X_cons ?_
      repeat walk_at "zw"
      refine E_pop (fun _ => rfl) ?_
      repeat walk_at "zw"
      refine ⟨wl, _, .int (cp.g : Int), rfl, w1, by simp [nats]; simp at hgz; lia, by simp [nats], ?_⟩
      rw [show (nats (gs' ++ [cp.g])).dropLast = nats gs' by simp [nats]]
      refine A_local rfl ?_
      have b1 : upd σ3 wl (.list (nats gs')) bd = some (.sdict (bodD ds)) := by rw [upd_other hbw]; exact I.bod
      refine X_cons ?_
      repeat walk_at "zw"
      (with_reducible refine D_item ?_ ?_); (intro _; with_unfolding_all rfl)
      refine ⟨_, .int (cp.g : Int), .ref cp.r, rfl, b1, bodD_some I.nd hcp, ?_⟩
      refine A_cell rfl ?_
      refine X_cons ?_
      repeat walk_at "zw"
      refine E_lenL (.inr hts) (by simp; lia) ?_
      repeat walk_at "zw"
      (with_reducible refine I_listc ?_ ?_); (intro _; with_unfolding_all rfl)
      refine ⟨_, .ref la, .inr (la1.le l04), by lia, by lia, by simp [la3], ?_⟩
      repeat walk_at "zw"
      refine E_lenL (.inr (la4.le l04)) (by simp; lia) ?_
      refine C_neI_f (by simp; lia) ?_
      refine ⟨_, rfl, fun h => Bool.noConfusion h, fun _ => ?_⟩
      refine T_cmp ?_
      refine W.fz (E_comp rfl (fun _ _ => rfl) (It_list ?_))
      repeat walk_at "zw"
      refine ⟨rl, _, rfl, hrl4, .inl ⟨_, _, rfl⟩, ?_⟩
      refine is_c1 (xs := rows) ?_ ?_ hrw (fun y hy => ?_) ?_
      ·
        rfl
      ·
        rfl
      ·
        obtain ⟨i, hi⟩ := List.mem_iff_getElem?.mp hy
        exact ⟨C4.far cp hcs' y hy, _, _, (W4.row _ _ hi).1⟩
      intro e e1 e2
      refine ⟨e, _, upd_same _ _ _, fun φ5 l5 he => ?_⟩
      rw [del_upd e1]
      repeat walk_at "zw"
      refine E_list (A_nil ⟨by simp, fun b b3 b4 => Cm_freezeL b3 fun φ6 l6 hb' => ?_⟩)
      refine C_neLst (.inr (he.le l6)) (.inr hb') .nil ?_
      refine ⟨_, rfl, fun h => Bool.noConfusion h, fun _ => ?_⟩
      have l46 := l5.trans l6
      have l06 := l04.trans l46
      have W6 := W4.le l46
      repeat walk_at "zw"
      refine S_for (fun _ _ => rfl) (It_zip3 ?_)
      repeat walk_at "zw"
      (with_reducible refine I_listc ?_ ?_); (intro _; with_unfolding_all rfl)
      refine ⟨_, .ref la, .inr (la1.le l06), by lia, by lia, by simp [la3], ?_⟩
      repeat walk_at "zw"
      (with_reducible refine I_listc ?_ ?_); (intro _; with_unfolding_all rfl)
      refine ⟨_, .ref x.r, .inr (hrl4.le l46), by lia, by lia, by simp [hx], ?_⟩
      have hrx6 := (W6.row _ _ hx)
      have hrxr := hrx6.1
      repeat walk_at "zw"
      have hrw6 := hrw.le l46
      clear hrxr
      repeat walk_at "zw"
      refine B_zip3 (la4.le l06) hrx6.2 (hts.le l46) fun z σ5 hz => ?_
      refine ⟨z, _, _, _, _, _, _, _, rfl, hz, la4.le l06, hrx6.2, hts.le l46, by simp; lia, by simp; lia, ?_⟩
      refine is_in (σ0 := σ0) R hL W0 ⟨las, la1, la2⟩ hrl hC hbw hcs (ps := ps) (la5.mono fun _ _ h => h.le l06) (hall.mono fun _ _ h => h.le l46) (hfull.mono fun _ _ h => h.le l46 fun _ h => h) hpok ⟨I.le.trans (l4.trans l46), I.sub, I.nd, fun g hg => I.gsub g (by simp [hg]), by simp at hgz; lia, b1, upd_same _ _ _, fun a h1 h2 => by rw [upd_other h2]; exact I.out a h1 h2, n1, n2, n3, n4, n5, n6⟩ fun ρ' φ' σ' ds' gs2 ex I' l' hds hgs => ?_
      refine X_nil ?_
      have hdz' := I'.size hC W0
      refine ⟨2 * (lots.length - ds'.length) + gs2.length, ?_, hle.trans ((l4.trans l46).trans l'), ds', gs2, rfl, I'⟩
      rw [hds] at hdz' ⊢
      rw [hm, hgs]; simp at hdz' ⊢; lia
    ·
      have hg0 : gs = [] := by cases gs with
        | nil => rfl
        | cons a r => simp [nats] at h
      subst hg0
      have I4 : IS φ0 σ0 lots cs bd wl ll rl unb ds [] ρ φ4 σ3 := ⟨I.le.trans l4, I.sub, I.nd, I.gsub, I.gsz, I.bod, I.wait, I.out, n1, n2, n3, n4, n5, n6⟩
      exact q ρ φ4 σ3 ds (hle.trans l4) I4
  rw [hw] at key
  exact key
theorem cw716 : ∀ {n : Nat} {φ : Ph} {σ : Sg} {Q : V → Ph → Sg → Prop} {lots : List (List Piece)} {rows : List RowJ} {unb : Bool} {la0 : Nat} {g0 : Nat} {way0 : Nat} {c0 : Addr} {cs : List CP} {ll : Addr} {rl : Addr} {whole : Addr} {x0 : RowJ} (R : Rt w H0) (hL : Lots lots) (W0 : Wld φ lots rows) (hll : LotsAt φ ll lots) (hrl : LstP φ rl (rows.map fun x => V.ref x.r)) (hC : CpF φ lots rows unb la0 g0 way0 c0 cs) (hcs : cs.length ≤ 4) (hg0 : g0 = 0) (hp : PAt φ rows 0 way0 whole x0) (q : ∀ φ', Le φ φ' → Q (.bool true) φ' σ), CW w H0 (n+2) (.ref 716) [.ref ll, .ref rl, .ref whole, .ref c0, .bool unb] φ σ Q := by
  apply @Mine.hk6; generalize ca1 (cx _) = n, ca2 (cx _) = φ, ca3 (cx _) = σ, ca4 (cx _) = Q, ca5 (cx _) = lots, cz6 (cx _) = rows
  apply @Mine.hk6; generalize ca1 (cx _) = unb, ca2 (cx _) = la0, ca3 (cx _) = g0, ca4 (cx _) = way0, ca5 (cx _) = c0, cz6 (cx _) = cs
  refine @Mine.hk4 _ _ _ _ _ _ _ neRowJ _ ?_; generalize ca1 (cx _) = ll, ca2 (cx _) = rl, ca3 (cx _) = whole, cz4 (cx _) = x0
  intro R hL W0 hll hrl hC hcs hg0 hp q
  subst hg0
  obtain ⟨cp0, rest, hc, e1, rfl, rfl⟩ := hC.head
  obtain ⟨hrw0, y, hy, hpc⟩ := hC.row 0 cp0 (by rw [hc]; rfl)
  rw [e1] at hy
  obtain rfl : y = x0 := by have := hp.row; rw [hy] at this; cases this; rfl
  obtain ⟨s1, hT1, hS1⟩ := id hpc
  obtain ⟨s2, hT2, hS2⟩ := id hp.prc
  refine CW.code R (k716 R) (b716_5 R) (bk_of rfl) (X_cons ?_)
  repeat walk_at "zw"
  refine cw711 R hT1 hT2 fun φ1 l1 => ?_
  have hT1 := hT1.le l1
  have hS1 := hS1.le l1
  clear hT2 hS2
  repeat walk_at "zw"
  refine S_tup (fun env h => by cases env; dsimp only at h; subst h; rfl) (fun env h => by cases env; dsimp only at h; subst h; rfl) ?_
  refine E_tuple ?_
  repeat walk_at "zw"
  refine E_dictD (c := .sdict []) (.inl rfl) rfl rfl (by simp) (by simp) fun bd d1 d2 => ?_
  show EW _ _ _ _ _ _ _ _ _
  repeat walk_at "zw"
  show DsW _ _ _ _ _ _ _ _ _ _ _
  refine DS_sc ⟨.int 0, rfl, upd_same _ _ _, by simp, ?_⟩
  rw [upd_upd, show storedV [] (Scal.int 0) (V.ref cp0.r) = bodD [cp0] by simp [storedV, bodD, e1]]
  have hb0 := upd_same σ bd (C.sdict (bodD [cp0]))
  show ArgsW _ _ _ _ _ _ _ _ _ _
  repeat walk_at "zw"
  refine E_list ?_
  repeat walk_at "zw"
  refine ⟨by simp, fun wl w1 w2 => ?_⟩
  have hbw : bd ≠ wl := fun e => by subst e; rw [hb0] at w1; cases w1
  rw [upd_other (Ne.symm hbw)] at w1
  repeat walk_at "zw"
  refine ⟨by simp, fun t φ2 t1 t2 l2 ht => ?_⟩
  refine A_tup rfl rfl ht (A_cell rfl (A_local rfl (A_local rfl ?_)))
  show XW _ _ _ _ _ _ _ _ _
  refine X_cons ?_
  refine is_while (φ0 := φ) (σ0 := σ) (bd := bd) (wl := wl) (ds := [cp0]) (gs := [0]) R hL W0 hll hrl hC hbw hcs rfl ⟨l1.trans l2, fun c h => by simp at h; subst h; rw [hc]; exact .head _, by simp, fun g h => by simp at h; subst h; simp [e1], by simp, by rw [upd_other hbw]; exact hb0, upd_same _ _ _, fun a h1 h2 => by rw [upd_other h2, upd_other h1], rfl, rfl, rfl, rfl, rfl, rfl⟩ fun ρ' φ3 σ3 ds l3 I => ?_
  have hdz := I.size hC W0
  have hsml := hL.small
  obtain ⟨n1, n2, n3, n4, n5, n6⟩ : ρ' "bodies" = some (.ref bd) ∧ ρ' "waiting" = some (.ref wl) ∧ ρ' "many" = some (.int ds.length) ∧ ρ' "lots" = some (.ref ll) ∧ ρ' "rows" = some (.ref rl) ∧ ρ' "is_unbound" = some (.bool unb) := ⟨I.nb, I.nw, I.nm, I.nl, I.nr, I.nu⟩
  show XW _ _ _ _ _ _ _ _ _
  refine X_cons ?_
  repeat walk_at "zw"
  refine W.freezeD I.bod fun φ4 l4 hD => ?_
  refine W.drop (σ' := σ) (fun a c e => ?_) ?_
  · have h1 : a ≠ bd := fun q => by subst q; rw [d1] at e; cases e
    have h2 : a ≠ wl := fun q => by subst q; rw [w1] at e; cases e
    show (if a = bd then none else σ3 a) = some c
    rw [if_neg h1, I.out a h1 h2]; exact e
  have C4 := (hC.le I.le).le l4
  classical
  let nm : CP → Int := fun cp => if h : ∃ i : Nat, cs[i]? = some cp then ((la0 + h.choose + 1 : Nat) : Int) else 0
  have hnm : ∀ cp ∈ cs, ∃ i, cs[i]? = some cp ∧ nm cp = ((la0 + i + 1 : Nat) : Int) := fun cp hcp => by
    have h : ∃ i : Nat, cs[i]? = some cp := List.mem_iff_getElem?.mp hcp
    exact ⟨h.choose, h.choose_spec, dif_pos h⟩
  have hnd : (ds.map nm).Nodup := by
    refine List.pairwise_map.mpr (List.Pairwise.imp_of_mem (fun {a b} ha hb hab e => ?_) (List.pairwise_map.mp I.nd))
    obtain ⟨i, h1, h2⟩ := hnm a (I.sub a ha)
    obtain ⟨j, h3, h4⟩ := hnm b (I.sub b hb)
    rw [h2, h4] at e
    have : i = j := by lia
    subst this
    rw [h1] at h3; cases h3; exact hab rfl
  refine S_assignS (fun env h => by cases env; dsimp only at h; subst h; rfl) ?_
  refine W.fz (E_comp rfl (fun _ _ => rfl) (It_dictP ?_))
  repeat walk_at "zw"
  refine ⟨bd, bodD ds, rfl, hD, ?_⟩
  refine is_c2 (ds := ds) (nm := nm) (acc := []) R ?_ ?_ I.nd (xs := ds) hD (fun _ h => h) (fun cp hcp => ?_) (by simp; lia) ?_
  · exact n1
  · rfl
  · obtain ⟨i, h1, h2⟩ := hnm cp (I.sub cp hcp)
    rw [h2]
    exact ⟨_, (C4.row i cp h1).1⟩
  intro nl nl1 nl2
  refine ⟨nl, _, upd_same _ _ _, fun φ5 l5 hN => ?_⟩
  rw [del_upd nl1]
  rw [List.nil_append, show (ds.map fun cp => V.int (nm cp)) = (ds.map nm).map .int by rw [List.map_map]; rfl] at hN
  refine A_cell rfl ?_
  show XW _ _ _ _ _ _ _ _ _
  refine X_cons ?_
  repeat walk_at "zw"
  refine W.fz (E_comp rfl (fun _ _ => rfl) (It_enum ?_))
  repeat walk_at "zw"
  refine B_enum hN fun ea it σ6 s1 s2 p1 p2 hE hot => ?_
  refine ⟨ea, it, nl, _, σ, rfl, hE, fun a c e => ?_, s1, s2, hN, ?_⟩
  · rw [hot a (fun q => by subst q; rw [s1] at e; cases e) (fun q => by subst q; rw [s2] at e; cases e)]; exact e
  refine is_c3 (is := ds.map nm) (xs := ds.map nm) (j := 0) ?_ ?_ ?_ hnd (by simp; lia) hN rfl rfl ?_
  · rfl
  · rfl
  · rfl
  intro e e1 e2
  refine ⟨e, _, upd_same _ _ _, fun φ6 l6 he => ?_⟩
  rw [del_upd e1]
  repeat walk_at "zw"
  refine E_lenL (.inr he) (by rw [List.nil_append, List.length_map, List.length_map]; lia) ?_
  rw [List.nil_append, List.length_map, List.length_map]
  repeat walk_at "zw"
  exact q φ6 ((I.le.trans l4).trans (l5.trans l6))
end
end
section
variable {n : Nat} {φ : Ph} {σ : Sg} {Q : V → Ph → Sg → Prop}
theorem Go.all {lots : List (List Piece)} {P : Piece → Prop} (hP : ∀ qs ∈ lots, ∀ p ∈ qs, P p) {met ps met' f s} (h : Go lots met ps met' f s) : (∀ p ∈ ps, P p) → ∀ p ∈ f, P p := by
  induction h with
  | nil => intro _ p h; cases h
  | skip _ _ ih =>
    intro h p hp
    rcases List.mem_cons.mp hp with rfl | hp
    · exact h _ (.head _)
    · exact ih (fun p hp => h p (.tail _ hp)) p hp
  | into _ hq _ _ ih1 ih2 =>
    intro h p hp
    rcases List.mem_cons.mp hp with rfl | hp
    · exact h _ (.head _)
    · rcases List.mem_append.mp hp with hp | hp
      · exact ih1 (hP _ (List.mem_of_getElem? hq)) p hp
      · exact ih2 (fun p hp => h p (.tail _ hp)) p hp
noncomputable def fst1 : List (Array UInt8) → List (Array UInt8) → List (Array UInt8)
  | _, [] => []
  | seen, x :: xs => if seen.any (· == x) then fst1 (seen ++ [x]) xs else x :: fst1 (seen ++ [x]) xs
theorem fst1_rep {x : Array UInt8} : ∀ (k : Nat) {seen ys : List (Array UInt8)}, seen.any (· == x) = true → fst1 seen (List.replicate k x ++ ys) = fst1 (seen ++ List.replicate k x) ys
  | 0, seen, ys, h => by simp
  | k + 1, seen, ys, h => by
    rw [List.replicate_succ, List.cons_append, fst1, if_pos h, fst1_rep k (by simp [h])]
    simp
theorem fst1_ops : ∀ (os : List (Array UInt8)), fst1 [] (opsL os) = dueL os := by
  apply @Mine.hk; generalize cx _ = os
  have hne : (absB == negB) = false := by decide
  have two : ∀ (k : Nat) (seen : List (Array UInt8)), seen.any (· == negB) = false → fst1 seen (List.replicate k negB) = if k = 0 then [] else [negB] := by
    intro k seen h
    cases k with
    | zero => rfl
    | succ k =>
      rw [List.replicate_succ]
      unfold fst1
      rw [if_neg (by rw [h]; decide), ← List.append_nil (List.replicate k negB), fst1_rep k (by simp)]
      simp [fst1]
  unfold opsL dueL
  cases ha : os.count absB with
  | zero =>
    rw [List.replicate_zero, List.nil_append, two _ _ rfl]; rfl
  | succ k =>
    rw [List.replicate_succ, List.cons_append]
    unfold fst1
    rw [if_neg (by decide), fst1_rep k (by simp), two _ _ ?_]
    · simp
    · rw [Bool.eq_false_iff]
      intro h
      obtain ⟨y, hy, e⟩ := List.any_eq_true.mp h
      have : y = absB := by
        rcases List.mem_append.mp hy with h | h
        · simpa using h
        · exact (List.mem_replicate.mp h).2
      subst this
      rw [hne] at e; cases e
theorem opsL_count {os : List (Array UInt8)} {b : Array UInt8} (h : b = absB ∨ b = negB) : (opsL os).count b = os.count b := by
  unfold opsL
  rw [List.count_append, List.count_replicate, List.count_replicate]
  have h1 : (absB == negB) = false := by decide
  have h2 : (negB == absB) = false := by decide
  rcases h with rfl | rfl
  · simp [h2]
  · simp [h1]
theorem opsL_mem {os : List (Array UInt8)} : ∀ b ∈ opsL os, b = absB ∨ b = negB := fun b hb => by
  unfold opsL at hb
  rcases List.mem_append.mp hb with h | h
  · exact .inl (List.mem_replicate.mp h).2
  · exact .inr (List.mem_replicate.mp h).2
noncomputable def askC1 : PySem.Expr := arE (asE ((bodyOf (stT 63)).getD 0 (.Pass default)))
noncomputable def askC2 : PySem.Expr := asE ((bodyOf (stT 63)).getD 1 (.Pass default))
noncomputable def andL : PySem.Expr → PySem.Expr
  | .BoolOp _ [a, _] _ => a
  | _ => default
noncomputable def askC3 : PySem.Expr := cmE (andL (asE ((bodyOf (stT 63)).getD 3 (.Pass default))))
theorem ask_c1 : ∀ {n : Nat} {ρ : Lo} (e1 : ρ "word" = none) (e2 : ρ "what" = none), ∀ {f : List Piece} {as : List Addr} {acc : List V} {φ : Ph} {σ : Sg} {Q : List V → Ph → Sg → Prop},
    All2 (fun (p : Piece) a => Tup φ a p.two) f as → acc.length + f.length ≤ 100 → Q (acc ++ (opsOf f).map .bytes) φ σ →
    Lc w H0 (relab d721.scope (cSc askC1)) n (cTgt askC1) (cIfs askC1) (cElt askC1) ρ ((as.map V.ref).map .v) acc φ σ Q := by
  apply @Mine.hk2; generalize ca1 (cx _) = n, cz2 (cx _) = ρ
  intro e1 e2
  intro f
  induction f with
  | nil =>
    intro as acc φ σ Q h hz q
    cases h
    show Q acc φ σ
    simpa [opsOf] using q
  | cons p f ih =>
    intro as acc φ σ Q h hz q
    cases h with
    | @cons _ a _ as hp hs =>
    simp only [List.length_cons] at hz
    refine ⟨by omega, ?_⟩
    refine A_tup rfl rfl hp (A_local rfl (A_local rfl ?_))
    show TW _ _ _ _ _ _ _ _ _
    repeat walk_at "zw"
    cases hop : p.isOp with
    | none =>
      have hw : (p.word == Str.ofString "operator") = false := by cases p <;> first | rfl | cases hop
      refine ⟨fun h => absurd h (by rw [hw]; decide), fun _ => ⟨Sub.set (Sub.set (.refl _) e1) e2, .refl _, ?_⟩⟩
      exact ih hs (by omega) (by simpa [opsOf, hop] using q)
    | some b =>
      obtain rfl : p = .op b := by cases p <;> first | (cases hop; rfl) | cases hop
      refine ⟨fun _ => N_local rfl rfl ⟨_, rfl, ?_⟩, fun h => absurd h (show ¬ ((Str.ofString "operator" == Str.ofString "operator") = false) by decide)⟩
      refine ⟨Sub.set (Sub.set (.refl _) e1) e2, .refl _, ?_⟩
      exact ih (acc := acc ++ [.bytes b]) hs (by simp; omega) (by simpa [opsOf, Piece.isOp] using q)
theorem ask_c3 : ∀ {n : Nat} {φ : Ph} {ρ : Lo} {as : List Addr} (R : Rt w H0) (e1 : ρ "one" = none) (ht : ∀ a ∈ as, ∃ ls, Tup φ a ls), ∀ {xs : List Addr} {acc : List V} {σ : Sg} {Q : List V → Ph → Sg → Prop},
    (∀ a ∈ xs, a ∈ as) → acc.length + xs.length ≤ 100 → Q (acc ++ xs.map .ref) φ σ →
    Lc w H0 (relab d721.scope (cSc askC3)) n (cTgt askC3) (cIfs askC3) (cElt askC3) ρ ((xs.map V.ref).map .v) acc φ σ Q := by
  apply @Mine.hk4; generalize ca1 (cx _) = n, ca2 (cx _) = φ, ca3 (cx _) = ρ, cz4 (cx _) = as
  intro R e1 ht
  intro xs
  induction xs with
  | nil => intro acc σ Q h hz q; show Q acc φ σ; simpa using q
  | cons x xs ih =>
    intro acc σ Q h hz q
    simp only [List.length_cons] at hz
    obtain ⟨ls, hx⟩ := ht x (h x (.head _))
    refine ⟨by omega, ?_⟩
    show AW _ _ _ _ _ _ _ _ _ _
    refine A_local rfl ?_
    refine ⟨fun _ => ?_, fun h => Bool.noConfusion h⟩
    refine E_blt2 R rfl rfl rfl ⟨_, rfl, rfl, ?_⟩
    repeat walk_at "zw"
    refine B_tuple hx ?_
    refine ⟨Sub.set (.refl _) e1, .refl _, ?_⟩
    exact ih (acc := acc ++ [.ref x]) (fun a ha => h a (.tail _ ha)) (by simp; omega) (by simpa using q)
theorem ask_c2 : ∀ {n : Nat} {ρ : Lo} {l : Addr} {is : List (Array UInt8)} (hz : is.length ≤ 100) (e0 : ρ "called" = some (.ref l)) (e1 : ρ "at" = none) (e2 : ρ "what" = none), ∀ {xs : List (Array UInt8)} {j : Nat} {bs : List (Array UInt8)} {as : List Addr} {φ : Ph} {σ : Sg} {Q : List V → Ph → Sg → Prop},
    LstP φ l (is.map .bytes) → is.drop j = xs → as.length ≤ j → All2 (fun b a => Tup φ a [.bytes b, .int (is.count b)]) bs as →
    (∀ σ' φ' as', Le φ φ' → (∀ a c, σ a = some c → σ' a = some c) → All2 (fun b a => Tup φ' a [.bytes b, .int (is.count b)]) (bs ++ fst1 (is.take j) xs) as' → Q (as'.map .ref) φ' σ') →
    Lc w H0 (relab d721.scope (cSc askC2)) n (cTgt askC2) (cIfs askC2) (cElt askC2) ρ ((enumV j (xs.map .bytes)).map .t) (as.map .ref) φ σ Q := by
  apply @Mine.hk4; generalize ca1 (cx _) = n, ca2 (cx _) = ρ, ca3 (cx _) = l, cz4 (cx _) = is
  intro hz e0 e1 e2
  intro xs
  induction xs with
  | nil => intro j bs as φ σ Q hl hd ha hh q; exact q σ φ as (.refl _) (fun _ _ e => e) (by simpa [fst1] using hh)
  | cons x xs ih =>
    intro j bs as φ σ Q hl hd ha hh q
    have hj : j < is.length := by
      rcases Nat.lt_or_ge j is.length with h | h
      · exact h
      · rw [List.drop_eq_nil_of_le h] at hd; cases hd
    have hx : is = is.take j ++ x :: xs := by rw [← hd, List.take_append_drop]
    have htake : is.take (j + 1) = is.take j ++ [x] := by
      rw [List.take_add_one]
      have : is[j]? = some x := by
        have := congrArg (fun l => l[0]?) hd
        simpa using this
      rw [this]; rfl
    refine ⟨by simp; omega, ?_⟩
    refine ⟨_, _, _, rfl, rfl, rfl, ?_⟩
    refine A_local rfl (A_local rfl ?_)
    show TW _ _ _ _ _ _ _ _ _
    repeat walk_at "zw"
    refine ⟨l, _, j, rfl, rfl, .inr hl, by simpa using by omega, fun sl s1 s2 => ?_⟩
    rw [← List.map_take]
    refine C_notInLB (.inl (upd_same _ _ _)) ?_
    refine ⟨_, rfl, fun hc => ?_, fun hc => ?_⟩
    · have hc : (is.take j).any (· == x) = false := by simpa using hc
      refine W.drop (σ' := σ) (fun a c e => by rw [upd_other (fun q => by subst q; rw [s1] at e; cases e)]; exact e) ?_
      refine E_tuple ?_
      repeat walk_at "zw"
      refine E_countB rfl (fun _ => rfl) ?_
      repeat walk_at "zw"
      refine ⟨l, is, rfl, hl, ?_⟩
      repeat walk_at "zw"
      refine ⟨x, rfl, hl, ?_⟩
      repeat walk_at "zw"
      refine ⟨by simp, fun ta φ1 t1 t2 l1 ht => ?_⟩
      refine ⟨Sub.set (Sub.set (.refl _) e1) e2, l1, ?_⟩
      have ih := ih (j := j + 1) (bs := bs ++ [x]) (as := as ++ [ta]) (φ := φ1) (σ := σ) (Q := Q) (hl.le l1) (by rw [← List.drop_drop, hd]; rfl) (by simp; omega) ((hh.mono fun _ _ h => h.le l1).snoc ht) fun σ' φ' as' l' hs h => q σ' φ' as' (l1.trans l') hs (by
        unfold fst1; rw [hc]; rw [htake] at h; simpa using h)
      simpa using ih
    · have hc : (is.take j).any (· == x) = true := by simpa using hc
      refine ⟨Sub.set (Sub.set (.refl _) e1) e2, .refl _, ?_⟩
      exact ih (j := j + 1) (bs := bs) (as := as) hl (by rw [← List.drop_drop, hd]; rfl) (by omega) hh fun σ' φ' as' l' hs h => q σ' φ' as' l' (fun a c e => hs a c (by rw [upd_other (fun q => by subst q; rw [s1] at e; cases e)]; exact e)) (by
        unfold fst1; rw [if_pos hc]; rw [htake] at h; exact h)
theorem walk_any (R : Rt w H0) {lots : List (List Piece)} {met : List Nat} {g : Nat} {ps : List Piece} {met' : List Nat} {f : List Piece} {s N : Nat} (hN : s + 1 ≤ N) (hg : lots[g]? = some ps) (hl4 : lots.length ≤ 4) (hgo : Go lots (met ++ [g]) ps met' f s)
    {ll ml : Addr} (hL : LotsAt φ ll lots) (hm : σ ml = some (.list (intsV met))) (hf : f.length ≤ 400) (hz : met'.length ≤ 400) (hz2 : met.length ≤ 400)
    (q : ∀ fl fas φ', Le φ φ' → LstP φ' fl (fas.map .ref) → All2 (fun (p : Piece) a => Tup φ' a p.two) f fas → Q (.ref fl) φ' (upd σ ml (.list (intsV met')))) : CW w H0 N (.ref 699) [.ref ll, .int g, .ref ml] φ σ Q := by
  obtain ⟨m, rfl⟩ : ∃ m, N = m + s + 1 := ⟨N - s - 1, by omega⟩
  exact walk_fn R hg hl4 (walk_lp R hl4 hgo m) hL hm hf hz hz2 q
theorem b721_2 (R : Rt w H0) {v0 v1 : V} : Bind H0 d721 [v0, v1] [("lots", v0), ("whole", v1)] := by
  intro s xs hx root
  refine VRs.consE hx fun _ _ h0 hx => ?_; refine VRs.consE hx fun _ _ h1 hx => ?_; refine VRs.nilE hx ?_; exact ⟨_, .cons h0 (.cons h1 .nil), BindsTo.of_eq rfl⟩
theorem cw721 : ∀ {n : Nat} {φ : Ph} {σ : Sg} {Q : V → Ph → Sg → Prop} {lots : List (List Piece)} {rows : List RowJ} {ll whole : Addr} {x0 : RowJ} {way0 : Nat} (R : Rt w H0) (hL : Lots lots) (W0 : Wld φ lots rows) (hll : LotsAt φ ll lots) (hp : PAt φ rows 0 way0 whole x0) (q : ∀ φ', Le φ φ' → Q (.bool true) φ' σ), CW w H0 (n+40) (.ref 721) [.ref ll, .ref whole] φ σ Q := by
  apply @Mine.hk6; generalize ca1 (cx _) = n, ca2 (cx _) = φ, ca3 (cx _) = σ, ca4 (cx _) = Q, ca5 (cx _) = lots, cz6 (cx _) = rows
  refine @Mine.hk4 _ _ _ _ _ _ neRowJ _ _ ?_; generalize ca1 (cx _) = ll, ca2 (cx _) = whole, ca3 (cx _) = x0, cz4 (cx _) = way0
  intro R hL W0 hll hp q
  obtain ⟨ps0, hps, hall⟩ := W0.lot hp.row
  have hsm := hL.small
  have hgl : 0 < lots.length := (List.getElem?_eq_some_iff.mp hps).1
  have hpl := (hL.each _ (List.mem_of_getElem? hps)).1
  have hpok : ∀ p ∈ ps0, p.ok lots.length := fun p h => ((hL.each _ (List.mem_of_getElem? hps)).2 p h).1
  obtain ⟨met', f, s, hgo, nd, hlt, _, hml, hs⟩ := go_ends hL 4 [0] ps0 (by simp; omega) (by simp) (fun g h => by simp at h; subst h; exact hgl) hpok
  have hm4 := nodup_bound _ _ nd hlt
  have hs20 : s ≤ 20 := by simp at hs hml; omega
  have hfl := hgo.grow.2.1
  have hfo : ∀ p ∈ f, p.opk := hgo.all (fun qs hqs p hp => ((hL.each qs hqs).2 p hp).2) fun p h => ((hL.each _ (List.mem_of_getElem? hps)).2 p h).2
  have hops : ∀ b ∈ opsOf f, b = absB ∨ b = negB := fun b hb => by
    obtain ⟨p, hp, e⟩ := List.mem_filterMap.mp hb
    have := hfo p hp
    cases p <;> cases e
    exact this
  have hol : (opsOf f).length ≤ 20 := by
    have : (opsOf f).length ≤ f.length := List.length_filterMap_le _ _
    omega
  obtain ⟨r, s', hdp, hs'⟩ := dp_ends hL 3 [0] ps0 [] 1 (by simp; omega) (by simp) (fun g h => by simp at h; subst h; exact hgl) hpok
  have hs'7 : s' ≤ 700 := by
    have h3 : stepsB 3 = 105 := by decide
    rw [h3] at hs'
    have : ps0.length * 106 ≤ 4 * 106 := Nat.mul_le_mul_right _ hpl
    omega
  have hmeet := hdp.meets hL hps (k := 5) (by omega)
  have hdr : DR lots [] 0 ps0 1 [] (r.map (·.2)) 700 := DR_iff.mpr ⟨r, s', 0, by omega, hdp, by cases r <;> rfl⟩
  refine CW.code (n := n + 39) R (k721 R) (b721_2 R) (bk_of rfl) (X_cons ?_)
  repeat walk_at "zw"
  refine W.fz (W.dp (E_comp rfl (fun _ _ => rfl) (It_list ?_)))
  repeat walk_at "zw"
  refine E_list (A_nil ⟨by simp, fun ml m1 m2 => ?_⟩)
  repeat walk_at "zw"
  refine walk_any (met := []) R (by omega) hps hsm hgo hll (upd_same _ _ _) (by omega) (by omega) (by simp) fun fl fas φ1 l1 hfl hfas => ?_
  rw [upd_upd]
  refine ⟨fl, fas.map .ref, rfl, hfl, .inr ⟨⟨_, _, _, rfl⟩, fun u hu => by obtain ⟨t, _, rfl⟩ := List.mem_map.mp hu; exact ⟨t, rfl⟩⟩, ?_⟩
  refine ask_c1 (acc := []) ?_ ?_ hfas (by simp; omega) ?_
  · rfl
  · rfl
  intro cl c1 c2
  have hcm : cl ≠ ml := fun e => by subst e; rw [upd_same] at c1; cases c1
  rw [upd_other hcm] at c1
  refine ⟨upd σ cl (.list ((opsOf f).map .bytes)), fun a c e => ?_, cl, _, upd_same _ _ _, fun φ2 l2 hcl => ?_⟩
  · by_cases h1 : a = cl
    · subst h1; rw [upd_same] at e ⊢; exact e
    · rw [upd_other h1] at e ⊢
      rw [upd_other (fun q => by subst q; rw [m1] at e; cases e)]; exact e
  rw [del_upd c1]
  repeat walk_at "zw"
  refine B_sortL (.inr hcl) (by omega) hops fun sl s1 s2 => ?_
  refine A_cell rfl ?_
  show XW _ _ _ _ _ _ _ _ _
  refine X_cons ?_
  refine W.freezeM (upd_same _ _ _) fun φ3 l3 hsl => ?_
  rw [del_upd s1]
  have holn : (opsL (opsOf f)).length ≤ 20 := by rw [← ops_len hops]; exact hol
  refine S_comp rfl (fun _ _ => rfl) (fun env h => by cases env; dsimp only at h; subst h; rfl) rfl (It_enum ?_)
  repeat walk_at "zw"
  refine B_enum hsl fun ea it σ6 e1 e2 p1 p2 hE hot => ?_
  refine ⟨ea, it, sl, _, σ, rfl, hE, fun a c e => ?_, e1, e2, hsl, ?_⟩
  · rw [hot a (fun q => by subst q; rw [e1] at e; cases e) (fun q => by subst q; rw [e2] at e; cases e)]; exact e
  refine ask_c2 (is := opsL (opsOf f)) (xs := opsL (opsOf f)) (j := 0) (bs := []) (as := []) (by omega) ?_ ?_ ?_ hsl rfl (by simp) .nil fun σ4 φ4 ds l4 hs4 hds => ?_
  · rfl
  · rfl
  · rfl
  rw [List.take_zero, List.nil_append, fst1_ops] at hds
  intro dl d1 d2
  show XW _ _ _ _ _ _ _ _ _
  refine X_cons ?_
  refine W.freezeM (upd_same _ _ _) fun φ5 l5 hdl => ?_
  rw [del_upd d1]
  refine W.drop (σ' := σ) hs4 ?_
  repeat walk_at "zw"
  refine W.fz (E_list (A_nil ⟨by simp, fun b b1 b2 => ⟨b, _, upd_same _ _ _, fun φ6 l6 hb => ?_⟩⟩))
  rw [del_upd b1]
  repeat walk_at "zw"
  have l02 := l1.trans l2
  have l06 := l02.trans (l3.trans (l4.trans (l5.trans l6)))
  refine cw704 (n := n + 34) R hL 5 (path := []) (hll.le l06) hb .nil (fun a h => (nomatch h)) hgl (by simp; omega) fun φ7 l7 => ?_
  have l07 := l06.trans l7
  refine A_local rfl ?_
  show XW _ _ _ _ _ _ _ _ _
  refine X_cons ?_
  repeat walk_at "zw"
  refine W.fz (E_comp rfl (fun _ _ => rfl) (It_list ?_))
  repeat walk_at "zw"
  refine cw315 (n := n + 35) R hL (W0.le l07) (hp.le l07) hps hgo (by omega) hfo fun ol oas φ8 l8 hol2 hoas => ?_
  have holz := hoas.len
  have hd2 := dueL_len (os := opsOf f)
  refine ⟨ol, oas.map .ref, rfl, hol2, .inl ⟨_, _, rfl⟩, ?_⟩
  refine ask_c3 R (as := oas) (xs := oas) (acc := []) ?_ (fun a ha => ?_) (fun _ h => h) (by simp; omega) ?_
  · rfl
  · obtain ⟨b, _, hb⟩ := hoas.flip.memL a ha
    exact ⟨_, hb⟩
  intro tl t1 t2
  refine ⟨tl, _, upd_same _ _ _, fun φ9 l9 htl => ?_⟩
  rw [del_upd t1]
  rw [List.nil_append] at htl
  repeat walk_at "zw"
  have l59 := l6.trans (l7.trans (l8.trans l9))
  refine C_eqLst (.inr htl) (.inr (hdl.le l59)) ?_ ?_
  · have hA := hoas.mono fun _ _ h => Tup.le l9 h
    have hB := hds.mono fun _ _ h => Tup.le (l5.trans l59) h
    refine ⟨by simp [← hA.len, ← hB.len], fun i v u hv hu => ?_⟩
    rw [List.getElem?_map] at hv hu
    cases ea : oas[i]? with
    | none => rw [ea] at hv; cases hv
    | some a =>
    cases eb : ds[i]? with
    | none => rw [eb] at hu; cases hu
    | some b =>
    rw [ea] at hv; rw [eb] at hu
    cases hv; cases hu
    obtain ⟨x, gx, hx⟩ := hA.get2 ea
    obtain ⟨y, gy, hy⟩ := hB.get2 eb
    rw [gx] at gy; cases gy
    have hxm := (dueL_ok x (List.mem_of_getElem? gx)).1
    rw [opsL_count hxm] at hy
    exact EqV.tup hx hy (.cons (.bytes _) (.cons (.int _) .nil))
  refine ⟨_, rfl, fun _ => ?_, fun h => Bool.noConfusion h⟩
  have l09 := l07.trans (l8.trans l9)
  repeat walk_at "zw"
  refine cw322 (n := n + 36) R hL (W0.le l09) (hp.le l09) hps hdr (Nat.le_refl _) fun φa la => ?_
  cases r with
  | none =>
    have h99 : 99 ≤ LD lots 5 [] 0 := hmeet
    repeat walk_at "zw"
    refine C_eqNone ?_
    exact q _ (l09.trans la)
  | some kc =>
    obtain ⟨k, c⟩ := kc
    have h4 : LD lots 5 [] 0 = c ∧ c ≤ 4 := hmeet
    repeat walk_at "zw"
    refine C_eqI_t (show ((c : Nat) : Int) = ((LD lots 5 [] 0 : Nat) : Int) by rw [h4.1]) ?_
    exact q _ (l09.trans la)
end
section
variable {n : Nat} {φ : Ph} {σ : Sg} {Q : V → Ph → Sg → Prop}
noncomputable def dctV : PySem.Expr → List PySem.Expr
  | .Dict _ vs _ => vs
  | _ => []
noncomputable def cellC : PySem.Expr := (dctV (asE ((bodyOf (stT 64)).getD 0 (.Pass default)))).getD 0 default
noncomputable def lotC : PySem.Expr := asE ((bodyOf (stT 64)).getD 3 (.Pass default))
noncomputable def lotI : PySem.Expr := cElt lotC
theorem cell_c : ∀ {n : Nat} {ρ : Lo} (e1 : ρ "cell" = none), ∀ {is : List Int} {acc : List Int} {φ : Ph} {σ : Sg} {Q : List V → Ph → Sg → Prop},
    acc.length + is.length ≤ 100 → (∀ acc' : List Int, acc'.length = acc.length + is.length → Q (acc'.map .int) φ σ) →
    Lc w H0 (relab d726.scope (cSc cellC)) n (cTgt cellC) (cIfs cellC) (cElt cellC) ρ ((is.map V.int).map .v) (acc.map .int) φ σ Q := by
  apply @Mine.hk2; generalize ca1 (cx _) = n, cz2 (cx _) = ρ
  intro e1
  intro is
  induction is with
  | nil => intro acc φ σ Q hz q; show Q (acc.map .int) φ σ; exact q acc rfl
  | cons i is ih =>
    intro acc φ σ Q hz q
    simp only [List.length_cons] at hz
    refine ⟨by simp; lia, ?_⟩
    show AW _ _ _ _ _ _ _ _ _ _
    refine A_local rfl ?_
    refine ⟨fun _ => ?_, fun h => Bool.noConfusion h⟩
    refine E_binop ?_
    repeat walk_at "zw"
    refine O_modI (by decide) ?_
    refine ⟨Sub.set (.refl _) e1, .refl _, ?_⟩
    have ih := ih (acc := acc ++ [i.fmod 1000003]) (φ := φ) (σ := σ) (Q := Q) (by simp; lia) fun acc' h => q acc' (by rw [h]; simp; lia)
    simpa using ih
section
variable {dk cl : Addr} {cells : List Int} {many : Nat}
theorem lot_in : ∀ {n : Nat} {dk : Addr} {cl : Addr} {cells : List Int} {many : Nat} {at_ : Nat} {ρ : Lo} (R : Rt w H0) (hat : at_ < many) (hm : many ≤ 4) (hz : cells.length ≤ 48) (e1 : ρ "deck" = some (.ref dk)) (e2 : ρ "at" = some (.int at_)) (e3 : ρ "many" = some (.int many)) (e4 : ρ "turn" = none),
    ∀ {xs : List Nat} {ts : List Addr} {ps : List Piece} {a : Nat} {st : Int} {φ : Ph} {σ : Sg} {Q : List V → Ph → Sg → Prop},
    σ dk = some (.sdict (deckL cl a st)) → LstP φ cl (cells.map .int) → All2 (fun t (p : Piece) => Tup φ t p.tup) ts ps → (∀ p ∈ ps, p.ok many ∧ p.opk) → ts.length + xs.length ≤ 4 →
    (∀ φ' ts' ps' (a' : Nat) st', Le φ φ' → All2 (fun t (p : Piece) => Tup φ' t p.tup) ts' ps' → (∀ p ∈ ps', p.ok many ∧ p.opk) → ts'.length ≤ 4 → Q (ts'.map .ref) φ' (upd σ dk (.sdict (deckL cl a' st')))) →
    Lc w H0 (relab (relab d726.scope (cSc lotC)) (cSc lotI)) (n+2) (cTgt lotI) (cIfs lotI) (cElt lotI) ρ (xs.map fun (i : Nat) => .v (.int (i : Int))) (ts.map .ref) φ σ Q := by
  apply @Mine.hk6; generalize ca1 (cx _) = n, ca2 (cx _) = dk, ca3 (cx _) = cl, ca4 (cx _) = cells, ca5 (cx _) = many, cz6 (cx _) = at_
  apply @Mine.hk; generalize cx _ = ρ
  intro R hat hm hz e1 e2 e3 e4
  intro xs
  induction xs with
  | nil =>
    intro ts ps a st φ σ Q hd hcl ha hp hl q
    have := q φ ts ps a st (.refl _) ha hp (by simpa using hl)
    rw [show upd σ dk (.sdict (deckL cl a st)) = σ from by
      funext b
      by_cases hb : b = dk
      · subst hb; rw [upd_same, hd]
      · rw [upd_other hb]] at this
    exact this
  | cons x xs ih =>
    intro ts ps a st φ σ Q hd hcl ha hp hl q
    simp only [List.length_cons] at hl
    refine ⟨by simp; lia, ?_⟩
    show AW _ _ _ _ _ _ _ _ _ _
    refine A_local rfl ?_
    refine ⟨fun _ => ?_, fun h => Bool.noConfusion h⟩
    refine E_own R rfl rfl rfl ⟨_, rfl, ?_⟩
    repeat walk_at "zw"
    refine cw673 R hd hcl hz hat hm fun t p φ1 a1 st1 l1 ht hok hop => ?_
    refine ⟨Sub.set (.refl _) e4, l1, ?_⟩
    have ih := ih (ts := ts ++ [t]) (ps := ps ++ [p]) (φ := φ1) (Q := Q) (upd_same σ dk (C.sdict (deckL cl a1 st1))) (hcl.le l1) ((ha.mono fun _ _ h => h.le l1).snoc ht) (fun p' hp' => by
      rcases List.mem_append.mp hp' with h | h
      · exact hp p' h
      · simp at h; subst h; exact ⟨hok, hop⟩) (by simp; lia) fun φ' ts' ps' a' st' l' h1 h2 h3 => by
        rw [upd_upd]; exact q φ' ts' ps' a' st' (l1.trans l') h1 h2 h3
    simpa using ih
theorem lot_out : ∀ {n : Nat} {dk : Addr} {cl : Addr} {cells : List Int} {many : Nat} {ρ : Lo} (R : Rt w H0) (hm : many ≤ 4) (hz : cells.length ≤ 48) (e1 : ρ "deck" = some (.ref dk)) (e3 : ρ "many" = some (.int many)) (e4 : ρ "at" = none),
    ∀ {xs : List Nat} {las : List Addr} {lots : List (List Piece)} {a : Nat} {st : Int} {φ : Ph} {σ : Sg} {Q : List V → Ph → Sg → Prop},
    σ dk = some (.sdict (deckL cl a st)) → LstP φ cl (cells.map .int) → All2 (LotAt φ) las lots → (∀ ps ∈ lots, ps.length ≤ 4 ∧ ∀ p ∈ ps, p.ok many ∧ p.opk) → (∀ x ∈ xs, x < many) → las.length + xs.length ≤ 4 →
    (∀ φ' las' lots' (a' : Nat) st', Le φ φ' → All2 (LotAt φ') las' lots' → (∀ ps ∈ lots', ps.length ≤ 4 ∧ ∀ p ∈ ps, p.ok many ∧ p.opk) → las'.length = las.length + xs.length → Q (las'.map .ref) φ' (upd σ dk (.sdict (deckL cl a' st')))) →
    Lc w H0 (relab d726.scope (cSc lotC)) (n+2) (cTgt lotC) (cIfs lotC) (cElt lotC) ρ (xs.map fun (i : Nat) => .v (.int (i : Int))) (las.map .ref) φ σ Q := by
  apply @Mine.hk6; generalize ca1 (cx _) = n, ca2 (cx _) = dk, ca3 (cx _) = cl, ca4 (cx _) = cells, ca5 (cx _) = many, cz6 (cx _) = ρ
  intro R hm hz e1 e3 e4
  intro xs
  induction xs with
  | nil =>
    intro las lots a st φ σ Q hd hcl ha hp hx hl q
    have := q φ las lots a st (.refl _) ha hp rfl
    rw [show upd σ dk (.sdict (deckL cl a st)) = σ from by
      funext b
      by_cases hb : b = dk
      · subst hb; rw [upd_same, hd]
      · rw [upd_other hb]] at this
    exact this
  | cons x xs ih =>
    intro las lots a st φ σ Q hd hcl ha hp hx hl q
    simp only [List.length_cons] at hl
    refine ⟨by simp; lia, ?_⟩
    show AW _ _ _ _ _ _ _ _ _ _
    refine A_cell rfl ?_
    refine ⟨fun _ => ?_, fun h => Bool.noConfusion h⟩
    refine W.fz (E_comp rfl (fun _ _ => rfl) (It_range ?_))
    repeat walk_at "zw"
    refine cw666 R hd hcl hz (by decide) fun φ1 a1 st1 k l1 hk => ?_
    have hk : k < 5 := hk
    have hd1 := upd_same σ dk (C.sdict (deckL cl a1 st1))
    repeat walk_at "zw"
    refine B_range fun r o r1 r2 hR => ?_
    refine ⟨r, o, _, k, rfl, rfl, r1, hR, by lia, ?_⟩
    refine lot_in R (ts := []) (ps := []) (hx x (.head _)) hm hz ?_ ?_ ?_ ?_ hd1 (hcl.le l1) .nil (fun p h => (nomatch h)) (by simp; lia) fun φ2 ts ps a2 st2 l2 h1 h2 h3 => ?_
    · exact e1
    · rfl
    · exact e3
    · rfl
    rw [upd_upd]
    intro la la1 la2
    refine ⟨la, _, upd_same _ _ _, fun φ3 l3 hla => ?_⟩
    rw [del_upd la1]
    refine ⟨Sub.set (.refl _) e4, l1.trans (l2.trans l3), ?_⟩
    have ih := ih (las := las ++ [la]) (lots := lots ++ [ps]) (φ := φ3) (Q := Q) (upd_same σ dk (C.sdict (deckL cl a2 st2))) (hcl.le (l1.trans (l2.trans l3))) ((ha.mono fun _ _ h => h.le (l1.trans (l2.trans l3))).snoc ⟨ts, hla, h1.mono fun _ _ h => h.le l3⟩) (fun p' hp' => by
      rcases List.mem_append.mp hp' with h | h
      · exact hp p' h
      · simp at h; subst h; exact ⟨by rw [← h1.len]; exact h3, h2⟩) (fun y hy => hx y (.tail _ hy)) (by simp; lia) fun φ' las' lots' a' st' l' g1 g2 g3 => by
        rw [upd_upd]; exact q φ' las' lots' a' st' (l1.trans (l2.trans (l3.trans l'))) g1 g2 (by rw [g3]; simp; lia)
    simpa using ih
end
end
section
variable {n : Nat} {φ : Ph} {σ : Sg} {Q : V → Ph → Sg → Prop}
theorem b726_1 (R : Rt w H0) {v0 : V} : Bind H0 d726 [v0] [("script", v0)] := by
  intro s xs hx root
  refine VRs.consE hx fun _ _ h0 hx => ?_; refine VRs.nilE hx ?_; exact ⟨_, .cons h0 .nil, BindsTo.of_eq rfl⟩
noncomputable def lawTail (k : Nat) : List Stmt := (bodyOf (stT 64)).drop k
theorem law_a : ∀ {n : Nat} {φ : Ph} {σ : Sg} {sl : Addr} {is : List Int} {Q : Fl → Lo → Ph → Sg → Prop} (R : Rt w H0) (hsl : LstP φ sl (is.map .int)) (hz : is.length ≤ 63) (q : ∀ ρ φ' σ' (dk cl : Addr) (cells : List Int) (a : Nat) st x d lim sv md jr fz ll lots, ρ "deck" = some (.ref dk) → ρ "memory" = some (.ref x) → ρ "lots" = some (.ref ll) →
      Le φ φ' → LstP φ' cl (cells.map .int) → cells.length ≤ 48 → σ' dk = some (.sdict (deckL cl a st)) → Mem φ' x d lim sv md → MemAt σ' d lim sv md jr fz 0 → LotsAt φ' ll lots → Lots lots → 0 < lots.length → (∀ a c, σ a = some c → σ' a = some c) → dk ≠ d → dk ≠ md →
      XW w H0 d726.scope (n+59) (lawTail 4) ρ φ' σ' Q),
    XW w H0 d726.scope (n+59) (bodyOf (stT 64)) (ofL [("script", .ref sl)] noLo) φ σ Q := by
  apply @Mine.hk6; generalize ca1 (cx _) = n, ca2 (cx _) = φ, ca3 (cx _) = σ, ca4 (cx _) = sl, ca5 (cx _) = is, cz6 (cx _) = Q
  intro R hsl hz q
  refine X_cons ?_
  repeat walk_at "zw"
  refine E_dictD (c := .sdict []) (.inl rfl) rfl rfl (by simp) (by simp) fun dk k1 k2 => ?_
  show EW _ _ _ _ _ _ _ _ _
  repeat walk_at "zw"
  refine W.fz (E_comp rfl (fun _ _ => rfl) (It_list (W.fz (E_sliceTo ?_))))
  repeat walk_at "zw"
  refine ⟨sl, _, 48, rfl, rfl, .inr hsl, by simp; lia, fun b b1 b2 => ⟨b, _, upd_same _ _ _, fun φ1 l1 hb => ?_⟩⟩
  rw [del_upd b1]
  rw [← List.map_take] at hb
  refine ⟨b, _, rfl, hb, .inl ⟨_, _, rfl⟩, ?_⟩
  refine cell_c (acc := []) ?_ (by simp; lia) fun cells hcz => ?_
  · rfl
  have hcz : cells.length ≤ 48 := by rw [hcz]; simp; lia
  intro cl c1 c2
  refine ⟨cl, _, upd_same _ _ _, fun φ2 l2 hcl => ?_⟩
  rw [del_upd c1]
  show EW _ _ _ _ _ _ _ _ _
  repeat walk_at "zw"
  show EW _ _ _ _ _ _ _ _ _
  repeat walk_at "zw"
  have hd0 := upd_same σ dk (C.sdict [])
  show DsW _ _ _ _ _ _ _ _ _ _ _
  refine DS_sc ⟨.str "cells", rfl, hd0, by simp, ?_⟩
  rw [upd_upd]
  show DsW _ _ _ _ _ _ _ _ _ _ _
  refine DS_sc ⟨.str "at", rfl, upd_same _ _ _, show (1 : Nat) ≤ 900 by decide, ?_⟩
  rw [upd_upd]
  show DsW _ _ _ _ _ _ _ _ _ _ _
  refine DS_sc ⟨.str "stir", rfl, upd_same _ _ _, show (2 : Nat) ≤ 900 by decide, ?_⟩
  rw [upd_upd]
  show AW _ _ _ _ _ _ _ _ _ _
  refine A_cell rfl ?_
  have hd1 : upd σ dk (C.sdict (deckL cl (0 : Nat) 97)) dk = some (.sdict (deckL cl (0 : Nat) 97)) := upd_same _ _ _
  show XW w H0 d726.scope (n+59) _ _ φ2 (upd σ dk (C.sdict (deckL cl (0 : Nat) 97))) _
  refine X_cons ?_
  repeat walk_at "zw"
  refine cw362 R fun lim φ3 l3 hlim => ?_
  repeat walk_at "zw"
  refine cw643 R hlim fun x d sv md jr fz φ4 l4 M g1 g2 => ?_
  have n1 : dk ≠ d := fun e => by subst e; rw [hd1] at g1; cases g1
  have n2 : dk ≠ md := fun e => by subst e; rw [hd1] at g2; cases g2
  refine A_cell rfl ?_
  show XW _ _ _ _ _ _ _ _ _
  refine X_cons ?_
  repeat walk_at "zw"
  have l24 := l3.trans l4
  refine cw666 R (by rw [upd_other n1, upd_other n2]; exact hd1) (hcl.le l24) hcz (by decide) fun φ5 a1 st1 k l5 hk => ?_
  have hk : k < 4 := hk
  refine O_addI ?_
  rw [show ((1 : Int) + (k : Int)) = ((k + 1 : Nat) : Int) by lia]
  refine A_cell rfl ?_
  show XW _ _ _ _ _ _ _ _ _
  refine X_cons ?_
  refine S_comp rfl (fun _ _ => rfl) (fun env h => by cases env; dsimp only at h; subst h; rfl) rfl (It_range ?_)
  repeat walk_at "zw"
  refine B_range fun r o r1 r2 hR => ?_
  refine ⟨r, o, _, k + 1, rfl, rfl, r1, hR, by lia, ?_⟩
  refine lot_out (n := n + 57) R (many := k + 1) (las := []) (lots := []) (by lia) hcz ?_ ?_ ?_ (upd_same _ dk _) (hcl.le (l24.trans l5)) .nil (fun p h => (nomatch h)) (fun x hx => by simpa using hx) (by simp; lia) fun φ6 las lots a2 st2 l6 h1 h2 h3 => ?_
  · rfl
  · rfl
  · rfl
  rw [upd_upd]
  intro ll ll1 ll2
  show XW _ _ _ _ _ _ _ _ _
  refine W.freezeM (upd_same _ _ _) fun φ7 l7 hll => ?_
  rw [del_upd ll1]
  have hlen := h1.len
  have l27 := (l24.trans l5).trans (l6.trans l7)
  have M' := M.le (l5.trans (l6.trans l7))
  have hll2 : las.length = k + 1 := by simpa using h3
  refine q _ φ7 _ dk cl cells a2 st2 x d lim sv md jr fz ll lots rfl rfl rfl ((l1.trans l2).trans l27) (hcl.le l27) hcz (upd_same _ _ _) M' ⟨0, [], ?_, ?_, by simp, by simp⟩ ⟨las, hll, h1.mono fun _ _ h => h.le l7⟩ ⟨by lia, fun ps hps => ?_⟩ (by lia) (fun a c e => ?_) n1 n2
  · rw [upd_other (Ne.symm n1), upd_same]; rfl
  · rw [upd_other (Ne.symm n2), upd_other M.ne.symm, upd_same]
  · have := h2 ps hps
    rw [← hlen, hll2]; exact this
  · have a1 : a ≠ dk := fun q => by subst q; rw [k1] at e; cases e
    have a2 : a ≠ d := fun q => by subst q; rw [upd_other (Ne.symm n1), e] at g1; cases g1
    have a3 : a ≠ md := fun q => by subst q; rw [upd_other (Ne.symm n2), e] at g2; cases g2
    rw [upd_other a1, upd_other a2, upd_other a3, upd_other a1]; exact e
end
section
variable {n : Nat} {φ : Ph} {σ : Sg} {Q : V → Ph → Sg → Prop}
noncomputable def dels (σ : Sg) (ls : List Addr) : Sg := fun a => if a ∈ ls then none else σ a
theorem dels_out {σ : Sg} {ls : List Addr} {a : Addr} (h : a ∉ ls) : dels σ ls a = σ a := if_neg h
theorem W.freezeAll {α β : Type} {R : β → α → Prop} {sc : Scope} {ρ : Lo} {t : Env → Sem α} {Q : β → Lo → Ph → Sg → Prop} : ∀ {xs : List (Addr × List V)} {φ : Ph} {σ : Sg}, (∀ p ∈ xs, σ p.1 = some (.list p.2)) → (xs.map (·.1)).Nodup →
    (∀ φ', Le φ φ' → (∀ p ∈ xs, LstP φ' p.1 p.2) → W w H0 sc n R t ρ φ' (dels σ (xs.map (·.1))) Q) → W w H0 sc n R t ρ φ σ Q
  | [], φ, σ, _, _, h => by
    have := h φ (.refl _) fun p hp => (nomatch hp)
    rw [show dels σ (([] : List (Addr × List V)).map (·.1)) = σ from funext fun a => by simp [dels]] at this
    exact this
  | (a, vs) :: r, φ, σ, he, nd, h => by
    rw [List.map_cons, List.nodup_cons] at nd
    refine W.freezeM (he (a, vs) (.head _)) fun φ1 l1 ha => ?_
    refine W.freezeAll (xs := r) (fun p hp => ?_) nd.2 fun φ2 l2 hr => ?_
    · have : p.1 ≠ a := fun e => nd.1 (List.mem_map.mpr ⟨p, hp, e⟩)
      show (if p.1 = a then none else σ p.1) = _
      rw [if_neg this]; exact he p (.tail _ hp)
    · have := h φ2 (l1.trans l2) fun p hp => by
        rcases List.mem_cons.mp hp with rfl | hp
        · exact ha.le l2
        · exact hr p hp
      rw [show dels σ (((a, vs) :: r).map (·.1)) = dels (del σ a) (r.map (·.1)) from funext fun b => by
        show (if b ∈ a :: r.map (·.1) then none else σ b) = if b ∈ r.map (·.1) then none else if b = a then none else σ b
        by_cases h1 : b = a
        · simp [h1]
        · by_cases h2 : b ∈ r.map (·.1)
          · rw [if_pos (.tail _ h2), if_pos h2]
          · rw [if_neg (fun h => (List.mem_cons.mp h).elim h1 h2), if_neg h2, if_neg h1]] at this
      exact this
noncomputable def tupE : PySem.Expr → List PySem.Expr
  | .Tuple es _ _ => es
  | _ => []
noncomputable def keptC : PySem.Expr := (tupE (asE ((bodyOf (stT 64)).getD 5 (.Pass default)))).getD 1 default
theorem kept_c : ∀ {n : Nat} {ρ : Lo} (R : Rt w H0) (e1 : ρ "row" = none), ∀ {xs : List RowJ} {ys : List RowJ} {ks : List Addr} {φ : Ph} {σ : Sg} {Q : List V → Ph → Sg → Prop},
    (∀ x ∈ xs, (∃ i, Rwi φ x.r i x.l) ∧ LstP φ x.l (x.ts.map .ref) ∧ x.ts.length ≤ 4) → All2 (fun (x : RowJ) k => LstP φ k (x.ts.map .ref)) ys ks → ks.length + xs.length ≤ 4 →
    (∀ φ' ks', Le φ φ' → All2 (fun (x : RowJ) k => LstP φ' k (x.ts.map .ref)) (ys ++ xs) ks' → Q (ks'.map .ref) φ' σ) →
    Lc w H0 (relab d726.scope (cSc keptC)) n (cTgt keptC) (cIfs keptC) (cElt keptC) ρ ((xs.map fun x => V.ref x.r).map .v) (ks.map .ref) φ σ Q := by
  apply @Mine.hk2; generalize ca1 (cx _) = n, cz2 (cx _) = ρ
  intro R e1
  intro xs
  induction xs with
  | nil => intro ys ks φ σ Q hx ha hl q; exact q φ ks (.refl _) (by simpa using ha)
  | cons x xs ih =>
    intro ys ks φ σ Q hx ha hl q
    simp only [List.length_cons] at hl
    obtain ⟨⟨i, hr⟩, hxl, hx4⟩ := hx x (.head _)
    refine ⟨by simp; lia, ?_⟩
    show AW _ _ _ _ _ _ _ _ _ _
    refine A_local rfl ?_
    refine ⟨fun _ => ?_, fun h => Bool.noConfusion h⟩
    refine W.fz (E_blt2 R rfl rfl rfl ⟨_, rfl, rfl, ?_⟩)
    repeat walk_at "zw"
    refine B_list (.inr hxl) (by simp; lia) fun k k1 k2 => ?_
    refine ⟨k, _, upd_same _ _ _, fun φ1 l1 hk => ?_⟩
    rw [del_upd k1]
    refine ⟨Sub.set (.refl _) e1, l1, ?_⟩
    have ih := ih (ys := ys ++ [x]) (ks := ks ++ [k]) (φ := φ1) (σ := σ) (Q := Q) (fun y hy => by obtain ⟨⟨i, a⟩, b, c⟩ := hx y (.tail _ hy); exact ⟨⟨i, a.le l1⟩, b.le l1, c⟩) ((ha.mono fun _ _ h => h.le l1).snoc hk) (by simp; lia) fun φ' ks' l' h => q φ' ks' (l1.trans l') (by simpa using h)
    simpa using ih
section
variable {dk cl x d lim sv md jr fz ll : Addr} {cells : List Int} {lots : List (List Piece)}
theorem law_b : ∀ {n : Nat} {φ : Ph} {σ : Sg} {dk : Addr} {cl : Addr} {x : Addr} {d : Addr} {lim : Addr} {sv : Addr} {md : Addr} {jr : Addr} {fz : Addr} {ll : Addr} {cells : List Int} {lots : List (List Piece)} {a : Nat} {st : Int} {ρ : Lo} {Q : Fl → Lo → Ph → Sg → Prop} (R : Rt w H0) (e1 : ρ "deck" = some (.ref dk)) (e2 : ρ "memory" = some (.ref x)) (e3 : ρ "lots" = some (.ref ll)) (hcl : LstP φ cl (cells.map .int)) (hcz : cells.length ≤ 48) (hd : σ dk = some (.sdict (deckL cl a st))) (M : Mem φ x d lim sv md) (hs : MemAt σ d lim sv md jr fz 0) (hll : LotsAt φ ll lots) (hL : Lots lots) (hpos : 0 < lots.length) (n1 : dk ≠ d) (n2 : dk ≠ md) (q : ∀ ρ φ' σ' (a : Nat) st rl kl whole rows kls way x0, ρ "deck" = some (.ref dk) → ρ "memory" = some (.ref x) → ρ "lots" = some (.ref ll) → ρ "rows" = some (.ref rl) → ρ "whole" = some (.ref whole) → ρ "kept" = some (.ref kl) → Le φ φ' →
      σ' dk = some (.sdict (deckL cl a st)) → MemAt σ' d lim sv md jr fz lots.length → Wld φ' lots rows → LstP φ' rl (rows.map fun x => V.ref x.r) → PAt φ' rows 0 way whole x0 → way ≤ 2 → LstP φ' kl (kls.map .ref) → All2 (fun (x : RowJ) k => LstP φ' k (x.ts.map .ref)) rows kls →
      XW w H0 d726.scope (n+59) (lawTail 7) ρ φ' σ' Q),
    XW w H0 d726.scope (n+59) (lawTail 4) ρ φ σ Q := by
  apply @Mine.hk6; generalize ca1 (cx _) = n, ca2 (cx _) = φ, ca3 (cx _) = σ, ca4 (cx _) = dk, ca5 (cx _) = cl, cz6 (cx _) = x
  apply @Mine.hk6; generalize ca1 (cx _) = d, ca2 (cx _) = lim, ca3 (cx _) = sv, ca4 (cx _) = md, ca5 (cx _) = jr, cz6 (cx _) = fz
  apply @Mine.hk6; generalize ca1 (cx _) = ll, ca2 (cx _) = cells, ca3 (cx _) = lots, ca4 (cx _) = a, ca5 (cx _) = st, cz6 (cx _) = ρ
  apply @Mine.hk; generalize cx _ = Q
  intro R e1 e2 e3 hcl hcz hd M hs hll hL hpos n1 n2 q
  refine X_cons ?_
  refine S_tupSw (names := ["rows", "way"]) (fun env h => rfl) (fun env h => by cases env; dsimp only at h; subst h; rfl) rfl ?_
  refine E_tuple ?_
  repeat walk_at "zw"
  refine cw692 (n := n + 51) R M hs hll hL ?_
  (apply @Mine.hk4; generalize ca1 (cx _) = rl, ca2 (cx _) = rows, ca3 (cx _) = φ1, cz4 (cx _) = σ1)
  intro l1 hrl WS hne hs1 hkeep
  have hd1 := hkeep dk _ n1 n2 hd
  repeat walk_at "zw"
  refine cw666 R hd1 (hcl.le l1) hcz (by decide) ?_
  (apply @Mine.hk4; generalize ca1 (cx _) = φ2, ca2 (cx _) = a2, ca3 (cx _) = st2, cz4 (cx _) = way)
  intro l2 hway
  have hway : way < 3 := hway
  repeat walk_at "zw"
  refine ⟨by simp, fun t φ3 t1 t2 l3 ht => ⟨t, _, rfl, ht, rfl, ?_⟩⟩
  have hrlen := WS.len
  have hsm := hL.small
  have hdl : ∀ y ∈ rows, y.l ≠ dk := fun y hy e => by
    have hEx := List.mem_iff_getElem?.mp hy
    (refine Exists.elim hEx ?_; clear hEx; apply @Mine.hk; generalize cx _ = g; intro hEx)
    have hg := hEx
    have := (WS.row g y hg).2
    rw [e, hd1] at this; cases this
  show XW _ _ _ _ _ _ _ _ _
  refine X_cons ?_
  refine W.freezeAll (xs := rows.map fun y => (y.l, y.ts.map .ref)) (fun p hp => ?_) (by rw [List.map_map]; exact WS.nd) fun φ4 l4 hfz => ?_
  ·
    have hEx := List.mem_map.mp hp
    (refine Exists.elim hEx ?_; clear hEx; refine @Mine.hk _ neRowJ _ ?_; generalize cx _ = y; intro hEx)
    obtain ⟨hy, rfl⟩ := hEx
    have hEx := List.mem_iff_getElem?.mp hy
    (refine Exists.elim hEx ?_; clear hEx; apply @Mine.hk; generalize cx _ = g; intro hEx)
    have hg := hEx
    show upd σ1 dk _ y.l = _
    rw [upd_other (hdl y hy)]; exact (WS.row g y hg).2
  have hmem : ∀ b, b ∈ (rows.map fun y => (y.l, y.ts.map V.ref)).map (·.1) → ∃ y ∈ rows, y.l = b := fun b hb => by
    rw [List.map_map] at hb
    obtain ⟨y, hy, rfl⟩ := List.mem_map.mp hb; exact ⟨y, hy, rfl⟩
  have l04 := l1.trans (l2.trans (l3.trans l4))
  have l14 := l2.trans (l3.trans l4)
  generalize hσ4 : dels (upd σ1 dk (C.sdict (deckL cl a2 st2))) ((rows.map fun y => (y.l, y.ts.map V.ref)).map (·.1)) = σ4
  have hd4 : σ4 dk = some (.sdict (deckL cl a2 st2)) := by
    rw [← hσ4, dels_out fun h => by obtain ⟨y, hy, e⟩ := hmem _ h; exact hdl y hy e]; exact upd_same _ _ _
  have hs4 : MemAt σ4 d lim sv md jr fz lots.length := hs1.keep
    (by rw [← hσ4, dels_out fun h => by obtain ⟨y, hy, e⟩ := hmem _ h; exact (hne y hy).1 e]; exact upd_other (Ne.symm n1))
    (by rw [← hσ4, dels_out fun h => by obtain ⟨y, hy, e⟩ := hmem _ h; exact (hne y hy).2 e]; exact upd_other (Ne.symm n2))
  have W4 : Wld φ4 lots rows := ⟨WS.len, fun g y hg => ⟨(WS.row g y hg).1.le l14, hfz (y.l, y.ts.map .ref) (List.mem_map.mpr ⟨y, List.mem_of_getElem? hg, rfl⟩)⟩, WS.things.mono fun _ _ h => h.mono fun _ _ h => h.le l14⟩
  have hts : ∀ y ∈ rows, y.ts.length ≤ 4 := fun y hy => by
    obtain ⟨g, hg⟩ := List.mem_iff_getElem?.mp hy
    obtain ⟨ps, hp1, hp2⟩ := W4.lot hg
    rw [← hp2.len]; exact (hL.each _ (List.mem_of_getElem? hp1)).1
  obtain ⟨x0, hx0⟩ : ∃ x0, rows[0]? = some x0 := ⟨rows[0]'(by lia), by simp⟩
  have hx0r := W4.row 0 x0 hx0
  refine S_tup (fun env h => by cases env; dsimp only at h; subst h; rfl) (fun env h => by cases env; dsimp only at h; subst h; rfl) ?_
  refine E_tuple ?_
  repeat walk_at "zw"
  (with_reducible refine I_listc ?_ ?_); (intro _; with_unfolding_all rfl)
  refine ⟨_, .ref x0.r, .inr (hrl.le l14), by lia, by first | lia | (simp; done) | (simp; omega), by simp [hx0], ?_⟩
  repeat walk_at "zw"
  refine cw687 (n := n + 55) (way := way) R hx0r.1 (.inr hx0r.2) (by simp; have := hts x0 (List.mem_of_getElem? hx0); lia) (by lia) fun whole φ5 l5 hwh => ?_
  rw [List.length_map] at hwh
  have W5 := W4.le l5
  repeat walk_at "zw"
  refine W.fz (E_comp rfl (fun _ _ => rfl) (It_list ?_))
  repeat walk_at "zw"
  refine ⟨rl, _, rfl, hrl.le (l14.trans l5), .inl ⟨_, _, rfl⟩, ?_⟩
  refine kept_c R ?_ (ys := []) (ks := []) (xs := rows) (fun y hy => ?_) .nil (by simp; lia) fun φ6 kls l6 hk => ?_
  ·
    rfl
  ·
    obtain ⟨g, hg⟩ := List.mem_iff_getElem?.mp hy
    exact ⟨⟨_, (W5.row g y hg).1⟩, (W5.row g y hg).2, hts y hy⟩
  intro kl kl1 kl2
  refine ⟨kl, _, upd_same _ _ _, fun φ7 l7 hkl => ?_⟩
  rw [del_upd kl1]
  rw [List.nil_append] at hk
  repeat walk_at "zw"
  refine ⟨by simp, fun t2 φ8 t3 t4 l8 ht2 => ?_⟩
  refine A_tup rfl rfl ht2 (A_cell rfl (A_local rfl ?_))
  show XW _ _ _ _ _ _ _ _ _
  refine X_cons ?_
  have l58 := l6.trans (l7.trans l8)
  have P8 : PAt φ8 rows 0 way whole x0 := ⟨hx0, hwh.le l58⟩
  have l08 := l04.trans (l5.trans l58)
  have W8 := W5.le l58
  repeat walk_at "zw"
  refine cw721 (n := n + 19) R hL W8 (hll.le l08) P8 fun φ9 l9 => ?_
  refine ⟨_, rfl, fun h => Bool.noConfusion h, fun _ => X_nil ?_⟩
  refine q _ φ9 σ4 a2 st2 rl kl whole rows kls way x0 ?_ ?_ ?_ ?_ ?_ ?_ (l08.trans l9) hd4 hs4 (W8.le l9) (hrl.le (l14.trans (l5.trans (l58.trans l9)))) (P8.le l9) (by lia) (hkl.le (l8.trans l9)) (hk.mono fun _ _ h => h.le (l7.trans (l8.trans l9)))
  ·
    exact e1
  ·
    exact e2
  ·
    exact e3
  ·
    rfl
  ·
    rfl
  ·
    rfl
end
end
section
variable {n : Nat} {φ : Ph} {σ : Sg} {Q : V → Ph → Sg → Prop}
noncomputable def copC : PySem.Expr := asE ((bodyOf (stT 64)).getD 7 (.Pass default))
noncomputable def ctV (σ : Sg) (l : Addr) : List V := match σ l with
  | some (.list vs) => vs
  | _ => []
theorem ctV_eq {σ : Sg} {l : Addr} {vs : List V} (h : σ l = some (.list vs)) : ctV σ l = vs := by unfold ctV; rw [h]
theorem upd_del {σ : Sg} {a : Addr} {c : C} (h : σ a = some c) : upd (del σ a) a c = σ := by
  funext b
  by_cases hb : b = a
  · subst hb; rw [upd_same, h]
  · rw [upd_other hb]; exact if_neg hb
theorem le_updP {φ : Ph} {a : Addr} {o : Obj} (h : φ a = none) : Le φ (updP φ a o) := fun b ob e => by
  have hb : b ≠ a := fun q => by subst q; rw [h] at e; cases e
  unfold updP; rw [if_neg hb]; exact e
section
variable {dk cl x d lim sv md jr fz ll : Addr} {cells : List Int} {lots : List (List Piece)} {rows : List RowJ}
theorem cop_c : ∀ {n : Nat} {φ : Ph} {σ : Sg} {x : Addr} {d : Addr} {lim : Addr} {sv : Addr} {md : Addr} {jr : Addr} {fz : Addr} {lots : List (List Piece)} {rows : List RowJ} {way : Nat} {whole : Addr} {x0 : RowJ} {ρ : Lo} {Q : List V → Ph → Sg → Prop} (R : Rt w H0) (hL : Lots lots) (W0 : Wld φ lots rows) (M : Mem φ x d lim sv md) (hs : MemAt σ d lim sv md jr fz lots.length) (hp : PAt φ rows 0 way whole x0) (e2 : ρ "memory" = some (.ref x)) (e4 : ρ "whole" = some (.ref whole)) (e5 : ρ "is_unbound" = none) (q : ∀ c1 c2 φ1 σ1 cs1 φ2 σ2 cs2, Le φ φ1 → Cpd φ σ lots rows false lots.length 0 way c1 φ1 σ1 cs1 → Le φ1 φ2 → Cpd φ1 σ1 lots rows true (lots.length + cs1.length) 0 way c2 φ2 σ2 cs2 → cs1.length ≤ lots.length → cs2.length ≤ lots.length →
      MemAt σ2 d lim sv md jr fz (lots.length + cs1.length + cs2.length) → (∀ a c, a ≠ d → a ≠ md → σ a = some c → σ1 a = some c) → (∀ a c, a ≠ d → a ≠ md → σ1 a = some c → σ2 a = some c) → (∀ cp ∈ cs1, cp.l ≠ d ∧ cp.l ≠ md) → (∀ cp ∈ cs2, cp.l ≠ d ∧ cp.l ≠ md) → Q [.ref c1, .ref c2] φ2 σ2),
    Lc w H0 (relab d726.scope (cSc copC)) (n+59) (cTgt copC) (cIfs copC) (cElt copC) ρ ([V.bool false, V.bool true].map .v) [] φ σ Q := by
  apply @Mine.hk6; generalize ca1 (cx _) = n, ca2 (cx _) = φ, ca3 (cx _) = σ, ca4 (cx _) = x, ca5 (cx _) = d, cz6 (cx _) = lim
  apply @Mine.hk6; generalize ca1 (cx _) = sv, ca2 (cx _) = md, ca3 (cx _) = jr, ca4 (cx _) = fz, ca5 (cx _) = lots, cz6 (cx _) = rows
  refine @Mine.hk5 _ _ _ _ _ _ _ neRowJ _ _ _ ?_; generalize ca1 (cx _) = way, ca2 (cx _) = whole, ca3 (cx _) = x0, ca4 (cx _) = ρ, cz5 (cx _) = Q
  intro R hL W0 M hs hp e2 e4 e5 q
  have hsm := hL.small
  refine ⟨by simp, ?_⟩
  show AW _ _ _ _ _ _ _ _ _ _
  refine A_local rfl ?_
  refine ⟨fun _ => ?_, fun h => Bool.noConfusion h⟩
  refine E_own R rfl rfl rfl ⟨_, rfl, ?_⟩
  repeat walk_at "zw"
  refine cw330 (n := n + 49) R hL W0 M hs (by lia) hp fun c1 φ1 σ1 cs1 l1 C1 z1 m1 k1 d1 => ?_
  refine ⟨Sub.set (.refl _) e5, l1, ?_⟩
  refine ⟨by simp, ?_⟩
  show AW _ _ _ _ _ _ _ _ _ _
  refine A_local rfl ?_
  refine ⟨fun _ => ?_, fun h => Bool.noConfusion h⟩
  refine E_own R rfl rfl rfl ⟨_, rfl, ?_⟩
  repeat walk_at "zw"
  refine cw330 (n := n + 49) R hL (W0.le l1) (M.le l1) m1 (by lia) (hp.le l1) fun c2 φ2 σ2 cs2 l2 C2 z2 m2 k2 d2 => ?_
  refine ⟨Sub.set (.refl _) e5, l2, ?_⟩
  exact q c1 c2 φ1 σ1 cs1 φ2 σ2 cs2 l1 C1 l2 C2 z1 z2 m2 k1 k2 d1 d2
theorem cpf_of {φ0 φ1 φ2 : Ph} {σ0 σ1 : Sg} {unb : Bool} {la0 way : Nat} {c : Addr} {cs : List CP} (W0 : Wld φ0 lots rows) (C : Cpd φ0 σ0 lots rows unb la0 0 way c φ1 σ1 cs) (l : Le φ1 φ2) (hf : ∀ cp ∈ cs, LstP φ2 cp.l (ctV σ1 cp.l)) : CpF φ2 lots rows unb la0 0 way c cs where
  head := C.head
  row := fun i cp e => by obtain ⟨a, _, _, y, b, p⟩ := C.row i cp e; exact ⟨a.le l, y, b, p.le l⟩
  full := fun cp hcp => by
    obtain ⟨ts, h1, h2⟩ := C.full cp hcp
    have := hf cp hcp
    rw [ctV_eq h1] at this
    exact ⟨ts, this, h2.mono fun _ _ h => h.le l fun _ h => h⟩
  ndg := C.ndg
  far := fun cp hcp y hy e => by
    obtain ⟨i, hi⟩ := List.mem_iff_getElem?.mp hcp
    obtain ⟨_, h1, _⟩ := C.row i cp hi
    obtain ⟨g, hg⟩ := List.mem_iff_getElem?.mp hy
    obtain ⟨dd, h2, _⟩ := (W0.row g y hg).1
    rw [e, h2] at h1; cases h1
theorem law_c : ∀ {n : Nat} {φ : Ph} {σ : Sg} {dk : Addr} {cl : Addr} {x : Addr} {d : Addr} {lim : Addr} {sv : Addr} {md : Addr} {jr : Addr} {fz : Addr} {ll : Addr} {lots : List (List Piece)} {rows : List RowJ} {a : Nat} {st : Int} {ρ : Lo} {rl kl whole : Addr} {way : Nat} {x0 : RowJ} {Q : Fl → Lo → Ph → Sg → Prop} (R : Rt w H0) (hL : Lots lots) (e1 : ρ "deck" = some (.ref dk)) (e2 : ρ "memory" = some (.ref x)) (e3 : ρ "lots" = some (.ref ll)) (e4 : ρ "rows" = some (.ref rl)) (e5 : ρ "whole" = some (.ref whole)) (e6 : ρ "kept" = some (.ref kl)) (hd : σ dk = some (.sdict (deckL cl a st))) (n1 : dk ≠ d) (n2 : dk ≠ md) (M : Mem φ x d lim sv md) (hs : MemAt σ d lim sv md jr fz lots.length) (W0 : Wld φ lots rows) (hll : LotsAt φ ll lots) (hrl : LstP φ rl (rows.map fun x => V.ref x.r)) (hp : PAt φ rows 0 way whole x0) (q : ∀ ρ φ' σ' cpl c1 c2 r0 l0 num us la, ρ "deck" = some (.ref dk) → ρ "memory" = some (.ref x) → ρ "lots" = some (.ref ll) → ρ "rows" = some (.ref rl) → ρ "kept" = some (.ref kl) → ρ "copies" = some (.ref cpl) → Le φ φ' →
      σ' dk = some (.sdict (deckL cl a st)) → MemAt σ' d lim sv md jr fz la → LstP φ' cpl [.ref c1, .ref c2] → Prc φ' c1 (wayK way) r0 x0.ts.length true (wayA way) → Rwi φ' r0 num l0 → σ' l0 = some (.list us) → us.length = x0.ts.length → l0 ≠ dk → 
      XW w H0 d726.scope (n+59) (lawTail 9) ρ φ' σ' Q),
    XW w H0 d726.scope (n+59) (lawTail 7) ρ φ σ Q := by
  apply @Mine.hk6; generalize ca1 (cx _) = n, ca2 (cx _) = φ, ca3 (cx _) = σ, ca4 (cx _) = dk, ca5 (cx _) = cl, cz6 (cx _) = x
  apply @Mine.hk6; generalize ca1 (cx _) = d, ca2 (cx _) = lim, ca3 (cx _) = sv, ca4 (cx _) = md, ca5 (cx _) = jr, cz6 (cx _) = fz
  apply @Mine.hk6; generalize ca1 (cx _) = ll, ca2 (cx _) = lots, ca3 (cx _) = rows, ca4 (cx _) = a, ca5 (cx _) = st, cz6 (cx _) = ρ
  refine @Mine.hk6 _ _ _ _ _ _ _ _ _ _ neRowJ _ _ ?_; generalize ca1 (cx _) = rl, ca2 (cx _) = kl, ca3 (cx _) = whole, ca4 (cx _) = way, ca5 (cx _) = x0, cz6 (cx _) = Q
  intro R hL e1 e2 e3 e4 e5 e6 hd n1 n2 M hs W0 hll hrl hp q
  have hsm := hL.small
  refine X_cons ?_
  refine S_comp rfl (fun _ _ => rfl) (fun env h => by cases env; dsimp only at h; subst h; rfl) rfl (It_tup ?_)
  repeat walk_at "zw"
  refine E_tuple ?_
  repeat walk_at "zw"
  refine ⟨by simp, fun tt φ0 t1 t2 l0' htt => ?_⟩
  refine ⟨tt, _, rfl, htt, ?_⟩
  refine cop_c R hL (W0.le l0') (M.le l0') hs (hp.le l0') ?_ ?_ ?_ fun c1 c2 φ1 σ1 cs1 φ2 σ2 cs2 l1 C1 l2 C2 z1 z2 m2 k1 k2 d1 d2 => ?_
  · exact e2
  · exact e5
  · rfl
  intro cpl p1 p2
  show XW _ _ _ _ _ _ _ _ _
  refine X_cons ?_
  refine W.freezeM (upd_same _ _ _) fun φ3 l3 hcpl => ?_
  rw [del_upd p1]
  obtain ⟨cp0, rest, hc, g1, g2, g3⟩ := C1.head
  have full1 : ∀ cp ∈ cs1, ∃ ts : List Addr, σ2 cp.l = some (.list (ts.map .ref)) ∧ All2 (fun (pw : Piece × Addr) t => CThing φ1 rows false cs1 pw.1 pw.2 t) (pairs lots rows cp.g) ts := fun cp hcp => by
    obtain ⟨ts, h1, h2⟩ := C1.full cp hcp
    exact ⟨ts, k2 _ _ (d1 cp hcp).1 (d1 cp hcp).2 h1, h2⟩
  have hsub : ∀ cp ∈ rest, cp ∈ cs1 := fun cp h => by rw [hc]; exact .tail _ h
  have hin0 : cp0 ∈ cs1 := by rw [hc]; exact .head _
  have nd1 := C1.ndl
  rw [hc, List.map_cons, List.nodup_cons] at nd1
  have dis : ∀ cp ∈ cs1, ∀ cp' ∈ cs2, cp.l ≠ cp'.l := fun cp hcp cp' hcp' e => by
    obtain ⟨ts, h1, _⟩ := C1.full cp hcp
    obtain ⟨i, hi⟩ := List.mem_iff_getElem?.mp hcp'
    obtain ⟨_, _, h2, _⟩ := C2.row i cp' hi
    rw [← e, h1] at h2; cases h2
  let xs : List (Addr × List V) := (rest ++ cs2).map fun cp => (cp.l, ctV σ2 cp.l)
  have hxs : xs.map (·.1) = rest.map (·.l) ++ cs2.map (·.l) := by
    show ((rest ++ cs2).map fun cp => (cp.l, ctV σ2 cp.l)).map (·.1) = _
    rw [List.map_map, ← List.map_append]; rfl
  refine W.freezeAll (xs := xs) (fun p hp => ?_) ?_ fun φ4 l4 hfz => ?_
  · obtain ⟨cp, hcp, rfl⟩ := List.mem_map.mp hp
    show σ2 cp.l = some (.list (ctV σ2 cp.l))
    rcases List.mem_append.mp hcp with h | h
    · obtain ⟨ts, h1, _⟩ := full1 cp (hsub cp h); rw [ctV_eq h1]; exact h1
    · obtain ⟨ts, h1, _⟩ := C2.full cp h; rw [ctV_eq h1]; exact h1
  · rw [hxs, List.nodup_append]
    refine ⟨nd1.2, C2.ndl, fun a ha b hb e => ?_⟩
    obtain ⟨cp, hcp, rfl⟩ := List.mem_map.mp ha
    obtain ⟨cp', hcp', rfl⟩ := List.mem_map.mp hb
    exact dis cp (hsub cp hcp) cp' hcp' e
  have hmem : ∀ b, b ∈ xs.map (·.1) → (∃ cp ∈ rest, cp.l = b) ∨ ∃ cp ∈ cs2, cp.l = b := fun b hb => by
    rw [hxs] at hb
    rcases List.mem_append.mp hb with h | h
    · obtain ⟨cp, h1, h2⟩ := List.mem_map.mp h; exact .inl ⟨cp, h1, h2⟩
    · obtain ⟨cp, h1, h2⟩ := List.mem_map.mp h; exact .inr ⟨cp, h1, h2⟩
  obtain ⟨us0, hus, hfull0⟩ := full1 cp0 hin0
  have h0out : cp0.l ∉ xs.map (·.1) := fun h => by
    rcases hmem _ h with ⟨cp, h1, h2⟩ | ⟨cp, h1, h2⟩
    · exact nd1.1 (List.mem_map.mpr ⟨cp, h1, h2⟩)
    · exact dis cp0 hin0 cp h1 h2.symm
  have hout : ∀ b, (∀ cp ∈ cs1, cp.l ≠ b) → (∀ cp ∈ cs2, cp.l ≠ b) → b ∉ xs.map (·.1) := fun b h1 h2 h => by
    rcases hmem _ h with ⟨cp, h3, h4⟩ | ⟨cp, h3, h4⟩
    · exact h1 cp (hsub cp h3) h4
    · exact h2 cp h3 h4
  have hdk1 := k1 dk _ n1 n2 hd
  have hdk2 := k2 dk _ n1 n2 hdk1
  have ldk1 : ∀ cp ∈ cs1, cp.l ≠ dk := fun cp hcp e => by
    obtain ⟨i, hi⟩ := List.mem_iff_getElem?.mp hcp
    obtain ⟨_, _, h2, _⟩ := C1.row i cp hi
    rw [e, hd] at h2; cases h2
  have ldk2 : ∀ cp ∈ cs2, cp.l ≠ dk := fun cp hcp e => by
    obtain ⟨i, hi⟩ := List.mem_iff_getElem?.mp hcp
    obtain ⟨_, _, h2, _⟩ := C2.row i cp hi
    rw [e, hdk1] at h2; cases h2
  generalize hσ4 : dels σ2 (xs.map (·.1)) = σ4
  have s4l0 : σ4 cp0.l = some (.list (us0.map .ref)) := by rw [← hσ4, dels_out h0out]; exact hus
  have s4dk : σ4 dk = some (.sdict (deckL cl a st)) := by rw [← hσ4, dels_out (hout dk ldk1 ldk2)]; exact hdk2
  have s4m : MemAt σ4 d lim sv md jr fz (lots.length + cs1.length + cs2.length) := m2.keep
    (by rw [← hσ4, dels_out (hout d (fun cp h => (d1 cp h).1) (fun cp h => (d2 cp h).1))])
    (by rw [← hσ4, dels_out (hout md (fun cp h => (d1 cp h).2) (fun cp h => (d2 cp h).2))])
  obtain ⟨r1, r2, r3, y, r4, r5⟩ := C1.row 0 cp0 (by rw [hc]; rfl)
  rw [g1] at r4
  obtain rfl : y = x0 := by have := hp.row; rw [r4] at this; cases this; rfl
  have hlen0 : us0.length = y.ts.length := by
    rw [← hfull0.len, g1]
    obtain ⟨ps, p3, p4⟩ := W0.lot r4
    rw [pairs_of p3 r4, List.length_zip, p4.len, Nat.min_self]
  have l24 := l3.trans l4
  have l04 := l0'.trans (l1.trans (l2.trans l24))
  have W4 := W0.le l04
  have P4 := hp.le l04
  refine S_ifc ?_
  refine T_orc ?_
  refine T_not ?_
  refine T_plain ?_ ?_
  rotate_left
  · intro _; rfl
  refine W.lend s4l0 fun o o1 o2 => ?_
  have l5 : Le φ4 (updP φ4 cp0.l o) := le_updP o1
  have hcpl5 := (hcpl.le l4).le l5
  repeat walk_at "zw"
  (with_reducible refine I_listc ?_ ?_); (intro _; with_unfolding_all rfl)
  refine ⟨_, .ref c1, .inr hcpl5, by lia, by first | lia | (simp; done), rfl, ?_⟩
  repeat walk_at "zw"
  have F1 : CpF (updP φ4 cp0.l o) lots rows false lots.length 0 way c1 cs1 := by
    refine cpf_of (σ0 := σ) (σ1 := σ2) (φ0 := φ0) (φ1 := φ1) (W0.le l0') ⟨C1.head, C1.row, full1, C1.ndg, C1.ndl⟩ (l2.trans (l24.trans l5)) fun cp hcp => ?_
    rw [hc] at hcp
    rcases List.mem_cons.mp hcp with rfl | h
    · rw [ctV_eq hus]; exact o2
    · exact (hfz (cp.l, ctV σ2 cp.l) (List.mem_map.mpr ⟨cp, List.mem_append_left _ h, rfl⟩)).le l5
  refine cw716 (n := n + 57) R hL (W4.le l5) ((hll.le l04).le l5) ((hrl.le l04).le l5) F1 (by lia) rfl (P4.le l5) fun φ6 l6 => ⟨l6, ?_⟩
  have l46 : Le φ4 (dropP φ6 cp0.l) := dropP_le o1 l6
  rw [upd_del s4l0]
  refine ⟨_, rfl, fun h => Bool.noConfusion h, fun _ => ?_⟩
  generalize dropP φ6 cp0.l = φ7 at l46
  have hcpl7 := (hcpl.le l4).le l46
  repeat walk_at "zw"
  (with_reducible refine I_listc ?_ ?_); (intro _; with_unfolding_all rfl)
  refine ⟨_, .ref c2, .inr hcpl7, by lia, by first | lia | (simp; done), rfl, ?_⟩
  repeat walk_at "zw"
  have F2 : CpF φ7 lots rows true (lots.length + cs1.length) 0 way c2 cs2 :=
    cpf_of (σ0 := σ1) (σ1 := σ2) (φ0 := φ1) (φ1 := φ2) (W0.le (l0'.trans l1)) C2 (l24.trans l46) fun cp hcp => (hfz (cp.l, ctV σ2 cp.l) (List.mem_map.mpr ⟨cp, List.mem_append_right _ hcp, rfl⟩)).le l46
  refine cw716 (n := n + 57) R hL (W4.le l46) ((hll.le l04).le l46) ((hrl.le l04).le l46) F2 (by lia) rfl (P4.le l46) fun φ8 l8 => ?_
  refine ⟨_, rfl, fun h => Bool.noConfusion h, fun _ => X_nil ?_⟩
  have l28 := l24.trans (l46.trans l8)
  refine q _ φ8 σ4 cpl c1 c2 cp0.r cp0.l _ _ _ ?_ ?_ ?_ ?_ ?_ ?_ (l04.trans (l46.trans l8)) s4dk s4m (hcpl7.le l8) ?_ (r1.le (l2.trans l28)) s4l0 (by simpa using hlen0) (ldk1 cp0 hin0)
  · exact e1
  · exact e2
  · exact e3
  · exact e4
  · exact e6
  · rfl
  · rw [← g2, ← g3]; exact r5.le (l2.trans l28)
end
end
section
variable {n : Nat} {φ : Ph} {σ : Sg} {Q : V → Ph → Sg → Prop}
section
variable {dk cl x d lim sv md jr fz ll : Addr} {cells : List Int} {lots : List (List Piece)} {rows : List RowJ}
theorem law_d : ∀ {n : Nat} {φ : Ph} {σ : Sg} {dk : Addr} {cl : Addr} {x : Addr} {d : Addr} {lim : Addr} {sv : Addr} {md : Addr} {jr : Addr} {fz : Addr} {ll : Addr} {cells : List Int} {lots : List (List Piece)} {rows : List RowJ} {a la : Nat} {st : Int} {ρ : Lo} {rl kl cpl c1 c2 r0 l0 : Addr} {num : Int} {us : List V} {way : Nat} {x0 : RowJ} {Q : Fl → Lo → Ph → Sg → Prop} (R : Rt w H0) (hL : Lots lots) (e1 : ρ "deck" = some (.ref dk)) (e2 : ρ "memory" = some (.ref x)) (e3 : ρ "lots" = some (.ref ll)) (e4 : ρ "rows" = some (.ref rl)) (e5 : ρ "kept" = some (.ref kl)) (e6 : ρ "copies" = some (.ref cpl)) (hcl : LstP φ cl (cells.map .int)) (hcz : cells.length ≤ 48) (hd : σ dk = some (.sdict (deckL cl a st))) (n1 : dk ≠ d) (n2 : dk ≠ md) (M : Mem φ x d lim sv md) (hs : MemAt σ d lim sv md jr fz la) (W0 : Wld φ lots rows) (hll : LotsAt φ ll lots) (hrl : LstP φ rl (rows.map fun x => V.ref x.r)) (hx0 : rows[0]? = some x0) (hcpl : LstP φ cpl [.ref c1, .ref c2]) (hp : Prc φ c1 (wayK way) r0 x0.ts.length true (wayA way)) (hr0 : Rwi φ r0 num l0) (hl0 : σ l0 = some (.list us)) (hus : us.length = x0.ts.length) (n3 : l0 ≠ dk) (q : ∀ ρ φ' σ', ρ "lots" = some (.ref ll) → ρ "rows" = some (.ref rl) → ρ "kept" = some (.ref kl) → Le φ φ' → XW w H0 d726.scope (n+59) (lawTail 14) ρ φ' σ' Q),
    XW w H0 d726.scope (n+59) (lawTail 9) ρ φ σ Q := by
  apply @Mine.hk6; generalize ca1 (cx _) = n, ca2 (cx _) = φ, ca3 (cx _) = σ, ca4 (cx _) = dk, ca5 (cx _) = cl, cz6 (cx _) = x
  apply @Mine.hk6; generalize ca1 (cx _) = d, ca2 (cx _) = lim, ca3 (cx _) = sv, ca4 (cx _) = md, ca5 (cx _) = jr, cz6 (cx _) = fz
  apply @Mine.hk6; generalize ca1 (cx _) = ll, ca2 (cx _) = cells, ca3 (cx _) = lots, ca4 (cx _) = rows, ca5 (cx _) = a, cz6 (cx _) = la
  apply @Mine.hk6; generalize ca1 (cx _) = st, ca2 (cx _) = ρ, ca3 (cx _) = rl, ca4 (cx _) = kl, ca5 (cx _) = cpl, cz6 (cx _) = c1
  apply @Mine.hk6; generalize ca1 (cx _) = c2, ca2 (cx _) = r0, ca3 (cx _) = l0, ca4 (cx _) = num, ca5 (cx _) = us, cz6 (cx _) = way
  refine @Mine.hk2 _ _ neRowJ _ _ ?_; generalize ca1 (cx _) = x0, cz2 (cx _) = Q
  intro R hL e1 e2 e3 e4 e5 e6 hcl hcz hd n1 n2 M hs W0 hll hrl hx0 hcpl hp hr0 hl0 hus n3 q
  have hsm := hL.small
  have hrlen := W0.len
  obtain ⟨ps0, hps, hall⟩ := W0.lot hx0
  have hplen := hall.len
  have hps4 := (hL.each _ (List.mem_of_getElem? hps)).1
  have hgl : 0 < lots.length := (List.getElem?_eq_some_iff.mp hps).1
  obtain ⟨xl, hxl⟩ : ∃ xl, rows.getLast? = some xl := by
    cases h : rows.getLast? with
    | none => rw [List.getLast?_eq_none_iff] at h; rw [h] at hx0; cases hx0
    | some y => exact ⟨y, rfl⟩
  have hxl2 := hxl
  rw [List.getLast?_eq_getElem?] at hxl2
  have hxr := W0.row _ _ hxl2
  have hxs : xl.ts.length ≤ 4 := by
    obtain ⟨ps, h1, h2⟩ := W0.lot hxl2
    rw [← h2.len]; exact (hL.each _ (List.mem_of_getElem? h1)).1
  obtain ⟨las, la1, la2⟩ := hll
  obtain ⟨la0, la3, tts, la4, la5⟩ := la2.get2 hps
  have lae := la5.len
  have lasl := la2.len
  refine X_cons ?_
  repeat walk_at "zw"
  refine E_neg1 ?_
  (with_reducible refine I_lastc ?_ ?_); (intro _; with_unfolding_all rfl)
  refine ⟨_, .ref xl.r, .inr hrl, by first | omega | (simp; lia), by simp [List.getLast?_map, hxl], ?_⟩
  repeat walk_at "zw"
  refine cw666 (n := n + 58) R hd hcl hcz (by decide) fun φ1 a1 st1 way2 l1 hway2 => ?_
  have hway2 : way2 < 3 := hway2
  repeat walk_at "zw"
  refine cw687 (n := n + 55) (way := way2) R (hxr.1.le l1) (.inr (hxr.2.le l1)) (by simp; lia) (by lia) fun like φ2 l2 hlk => ?_
  rw [List.length_map] at hlk
  refine A_local rfl ?_
  have l02 := l1.trans l2
  have hl0' : upd σ dk (C.sdict (deckL cl a1 st1)) l0 = some (.list us) := by rw [upd_other n3]; exact hl0
  show XW _ _ _ _ _ _ _ _ _
  refine X_cons ?_
  repeat walk_at "zw"
  (with_reducible refine I_listc ?_ ?_); (intro _; with_unfolding_all rfl)
  refine ⟨_, .ref c1, .inr (hcpl.le l02), by lia, by first | lia | (simp; done), rfl, ?_⟩
  repeat walk_at "zw"
  refine cw344 (n := n + 54) R (wayK_arr way2) hlk (hp.le l02) (hr0.le l02) (.inl hl0') (by lia) (wayA_ok way2).1 (wayA_ok way2).2 fun other φ3 l3 hot => ?_
  refine A_local rfl ?_
  have l03 := l02.trans l3
  have hlk3 := hlk.le l3
  obtain ⟨so, ho1, ho2⟩ := id hot
  obtain ⟨s1, hc1, hc2⟩ := id (hp.le l03)
  obtain ⟨sk, hk1, hk2⟩ := id hlk3
  show XW _ _ _ _ _ _ _ _ _
  refine X_cons ?_
  repeat walk_at "zw"
  (with_reducible refine I_listc ?_ ?_); (intro _; with_unfolding_all rfl)
  refine ⟨_, .ref c1, .inr (hcpl.le l03), by lia, by first | lia | (simp; done), rfl, ?_⟩
  repeat walk_at "zw"
  refine C_isNotSelf ?_
  refine ⟨_, rfl, fun h => Bool.noConfusion h, fun _ => ?_⟩
  repeat walk_at "zw"
  refine cw289 (n := n + 58) R ho2 (hr0.le l03) (.inl hl0') rfl (by lia) fun tl t1 t2 => ?_
  repeat walk_at "zw"
  refine E_lenL (.inl (upd_same _ _ _)) (by lia) ?_
  repeat walk_at "zw"
  (with_reducible refine I_listc ?_ ?_); (intro _; with_unfolding_all rfl)
  refine ⟨_, .ref la0, .inr (la1.le l03), by lia, by first | lia | (simp; omega), by simp [la3], ?_⟩
  repeat walk_at "zw"
  refine E_lenL (.inr (la4.le l03)) (by simp; lia) ?_
  refine C_neI_f (by simp; lia) ?_
  refine ⟨_, rfl, fun h => Bool.noConfusion h, fun _ => X_nil ?_⟩
  have hl0'' : upd (upd σ dk (C.sdict (deckL cl a1 st1))) tl (.list us) l0 = some (.list us) := by rw [upd_other (fun q => by subst q; rw [hl0'] at t1; cases t1)]; exact hl0'
  have hs1 : MemAt (upd (upd σ dk (C.sdict (deckL cl a1 st1))) tl (.list us)) d lim sv md jr fz la := by
    obtain ⟨u, kxs, h1, h2, h3, h4⟩ := hs
    have e1 : upd σ dk (C.sdict (deckL cl a1 st1)) d = some (.ns (memLo lim sv md jr fz u la) 10) := by rw [upd_other (Ne.symm n1)]; exact h1
    have e2 : upd σ dk (C.sdict (deckL cl a1 st1)) md = some (.sdict kxs) := by rw [upd_other (Ne.symm n2)]; exact h2
    refine ⟨u, kxs, ?_, ?_, h3, h4⟩
    · rw [upd_other (fun q => by subst q; rw [e1] at t1; cases t1)]; exact e1
    · rw [upd_other (fun q => by subst q; rw [e2] at t1; cases t1)]; exact e2
  generalize upd (upd σ dk (C.sdict (deckL cl a1 st1))) tl (.list us) = σ3 at hl0'' hs1
  refine X_cons ?_
  repeat walk_at "zw"
  refine cw711 (n := n + 58) R ho1 hk1 fun φ4 l4 => ?_
  refine ⟨_, rfl, fun h => Bool.noConfusion h, fun _ => X_nil ?_⟩
  have l04 := l03.trans l4
  refine X_cons ?_
  repeat walk_at "zw"
  (with_reducible refine I_listc ?_ ?_); (intro _; with_unfolding_all rfl)
  refine ⟨_, .ref la0, .inr (la1.le l04), by lia, by first | lia | (simp; omega), by simp [la3], ?_⟩
  repeat walk_at "zw"
  refine E_list (A_nil ⟨by simp, fun b b1 b2 => Cm_freezeL b1 fun φ5 l5 hb => ?_⟩)
  have l05 := l04.trans l5
  refine C_neNil (.inr (la4.le l05)) (.inr hb) ?_
  refine ⟨_, rfl, fun h => ?_, fun _ => X_nil ?_⟩
  · have htt : tts ≠ [] := fun e => by subst e; simp at h
    have hpos : 0 < us.length := by
      cases tts with
      | nil => exact absurd rfl htt
      | cons t r => simp at lae; lia
    obtain ⟨u, kxs, h1, h2, h3, h4⟩ := id hs1
    have M5 := M.le l05
    have hr5 := hr0.le l05
    have hc1 := hc1.le (l4.trans l5)
    have hc2 := hc2.le (l4.trans l5)
    clear hot ho1 ho2 hk1 hk2 hlk3 hlk
    refine X_cons ?_
    repeat (first | walk_at "zm" | walk_at "zw")
    (with_reducible refine I_listc ?_ ?_); (intro _; with_unfolding_all rfl)
    refine ⟨_, .ref c1, .inr (hcpl.le l05), by lia, by first | lia | (simp; done), rfl, ?_⟩
    repeat (first | walk_at "zm" | walk_at "zw")
    refine cw146 (n := n + 56) R fun i77 φ6 l6 h77 => ?_
    repeat (first | walk_at "zm" | walk_at "zw")
    refine cw493 (n := n + 53) (i := 0) R (M5.le l6) h1 (hr5.le l6) hl0'' hpos (by lia) fun φ7 l7 => ?_
    repeat walk_at "zw"
    refine ⟨rfl, X_nil ?_⟩
    refine q _ φ7 _ ?_ ?_ ?_ (l05.trans (l6.trans l7))
    · exact e3
    · exact e4
    · exact e5
  · refine q _ φ5 σ3 ?_ ?_ ?_ l05
    · exact e3
    · exact e4
    · exact e5
end
end
section
variable {n : Nat} {φ : Ph} {σ : Sg} {Q : V → Ph → Sg → Prop}
noncomputable def cmR : PySem.Expr → PySem.Expr
  | .Compare _ _ [b] _ => b
  | _ => default
noncomputable def retE : PySem.Expr := asE ((bodyOf (stT 64)).getD 14 (.Pass default))
noncomputable def retL : PySem.Expr := cmE retE
noncomputable def retI : PySem.Expr := cElt retL
noncomputable def retR : PySem.Expr := cmR retE
noncomputable def trues (k : Nat) : List V := List.replicate k (.bool true)
theorem trues_snoc (k : Nat) : trues k ++ [.bool true] = trues (k + 1) := by
  unfold trues; rw [List.replicate_succ']
theorem EqVs.trues (k : Nat) {d : Nat} : EqVs w H0 φ σ d (trues k) (trues k) := ⟨rfl, fun i v u hv hu => by
  rw [hv] at hu; cases hu
  have := List.mem_of_getElem? hv
  rw [(List.mem_replicate.mp this).2]; exact .bool _⟩
theorem ret_in : ∀ {n : Nat} {ρ : Lo} {sc : Scope} (e1 : ρ "one" = none) (e2 : ρ "was" = none) (hsc : sc = relab (relab d726.scope (cSc retL)) (cSc retI)), ∀ {ts : List Addr} {k : Nat} {φ : Ph} {σ : Sg} {Q : List V → Ph → Sg → Prop},
    k + ts.length ≤ 100 → Q (trues (k + ts.length)) φ σ → Lc w H0 sc n (cTgt retI) (cIfs retI) (cElt retI) ρ ((zipV (ts.map V.ref) (ts.map V.ref)).map .t) (trues k) φ σ Q := by
  apply @Mine.hk3; generalize ca1 (cx _) = n, ca2 (cx _) = ρ, cz3 (cx _) = sc
  intro e1 e2 hsc
  subst hsc
  (apply @Mine.hk; generalize cx _ = ts)
  induction ts with
  | nil => intro k φ σ Q hz q; exact q
  | cons t ts ih =>
    intro k φ σ Q hz q
    simp only [List.length_cons] at hz
    refine ⟨by simp [trues]; lia, ?_⟩
    refine ⟨_, _, _, rfl, rfl, rfl, ?_⟩
    refine A_local rfl (A_local rfl ?_)
    refine ⟨fun _ => ?_, fun h => Bool.noConfusion h⟩
    refine E_cmp ?_ ?_
    rotate_left
    ·
      with_unfolding_all rfl
    repeat walk_at "zw"
    refine C_isSelf ?_
    refine ⟨Sub.set (Sub.set (.refl _) e1) e2, .refl _, ?_⟩
    have ih := ih (k := k + 1) (φ := φ) (σ := σ) (Q := Q) (by lia) (by simpa [Nat.add_assoc, Nat.add_comm 1] using q)
    rw [← trues_snoc] at ih
    exact ih
theorem ret_out : ∀ {n : Nat} {ρ : Lo} (R : Rt w H0) (e1 : ρ "row" = none) (e2 : ρ "some" = none), ∀ {xs : List RowJ} {ks : List Addr} {ys : List RowJ} {as : List Addr} {φ : Ph} {σ : Sg} {Q : List V → Ph → Sg → Prop},
    (∀ x ∈ xs, (∃ i, Rwi φ x.r i x.l) ∧ LstP φ x.l (x.ts.map .ref) ∧ x.ts.length ≤ 4) → All2 (fun (x : RowJ) k => LstP φ k (x.ts.map .ref)) xs ks → All2 (fun (x : RowJ) a => LstP φ a (trues x.ts.length)) ys as → as.length + xs.length ≤ 4 →
    (∀ φ' as', Le φ φ' → All2 (fun (x : RowJ) a => LstP φ' a (trues x.ts.length)) (ys ++ xs) as' → Q (as'.map .ref) φ' σ) →
    Lc w H0 (relab d726.scope (cSc retL)) n (cTgt retL) (cIfs retL) (cElt retL) ρ ((zipV (xs.map fun x => V.ref x.r) (ks.map V.ref)).map .t) (as.map .ref) φ σ Q := by
  apply @Mine.hk2; generalize ca1 (cx _) = n, cz2 (cx _) = ρ
  intro R e1 e2
  intro xs
  induction xs with
  | nil =>
    intro ks ys as φ σ Q hx hk ha hl q
    cases hk
    exact q φ as (.refl _) (by simpa using ha)
  | cons x xs ih =>
    intro ks ys as φ σ Q hx hk ha hl q
    simp only [List.length_cons] at hl
    cases hk with
    | @cons _ k _ ks hk hks =>
    obtain ⟨⟨i, hr⟩, hxl, hx4⟩ := hx x (.head _)
    refine ⟨by simp; lia, ?_⟩
    refine ⟨_, _, _, rfl, rfl, rfl, ?_⟩
    refine A_local rfl (A_local rfl ?_)
    refine ⟨fun _ => ?_, fun h => Bool.noConfusion h⟩
    refine W.fz (E_comp rfl (fun _ _ => rfl) (It_zip ?_))
    repeat walk_at "zw"
    refine B_zip hxl hk fun z σ2 hz => ?_
    refine ⟨z, _, _, _, _, _, rfl, hz, hxl, hk, ?_⟩
    refine ret_in (k := 0) ?_ ?_ rfl (by lia) ?_
    · rfl
    · rfl
    intro a a1 a2
    refine ⟨a, _, upd_same _ _ _, fun φ1 l1 hla => ?_⟩
    rw [del_upd a1]
    rw [Nat.zero_add] at hla
    refine ⟨Sub.set (Sub.set (.refl _) e1) e2, l1, ?_⟩
    have ih := ih (ks := ks) (ys := ys ++ [x]) (as := as ++ [a]) (φ := φ1) (σ := σ) (Q := Q) (fun y hy => by obtain ⟨⟨i, a⟩, b, c⟩ := hx y (.tail _ hy); exact ⟨⟨i, a.le l1⟩, b.le l1, c⟩) (hks.mono fun _ _ h => h.le l1) ((ha.mono fun _ _ h => h.le l1).snoc hla) (by simp; lia) fun φ' as' l' h => q φ' as' (l1.trans l') (by simpa using h)
    simpa using ih
theorem ret_r : ∀ {n : Nat} {ρ : Lo} (R : Rt w H0) (e1 : ρ "lot" = none), ∀ {xs : List (List Piece)} {las : List Addr} {ys : List (List Piece)} {as : List Addr} {φ : Ph} {σ : Sg} {Q : List V → Ph → Sg → Prop},
    All2 (LotAt φ) las xs → (∀ ps ∈ xs, ps.length ≤ 4) → All2 (fun (ps : List Piece) a => LstP φ a (trues ps.length)) ys as → as.length + xs.length ≤ 4 →
    (∀ φ' as', Le φ φ' → All2 (fun (ps : List Piece) a => LstP φ' a (trues ps.length)) (ys ++ xs) as' → Q (as'.map .ref) φ' σ) →
    Lc w H0 (relab d726.scope (cSc retR)) n (cTgt retR) (cIfs retR) (cElt retR) ρ ((las.map V.ref).map .v) (as.map .ref) φ σ Q := by
  apply @Mine.hk2; generalize ca1 (cx _) = n, cz2 (cx _) = ρ
  intro R e1
  intro xs
  induction xs with
  | nil =>
    intro las ys as φ σ Q hk hx ha hl q
    cases hk
    exact q φ as (.refl _) (by simpa using ha)
  | cons ps xs ih =>
    intro las ys as φ σ Q hk hx ha hl q
    simp only [List.length_cons] at hl
    cases hk with
    | @cons la _ las _ hk hks =>
    obtain ⟨ts, h1, h2⟩ := id hk
    have h4 := hx ps (.head _)
    have hlen := h2.len
    refine ⟨by simp; lia, ?_⟩
    show AW _ _ _ _ _ _ _ _ _ _
    refine A_local rfl ?_
    refine ⟨fun _ => ?_, fun h => Bool.noConfusion h⟩
    refine W.fz (W.dp (E_binop ?_))
    refine E_list ?_
    repeat walk_at "zw"
    refine ⟨by simp, fun b b1 b2 => ?_⟩
    repeat walk_at "zw"
    refine E_lenL (.inr h1) (by simp; lia) ?_
    rw [List.length_map, hlen]
    refine O_mulL (.inl (upd_same _ _ _)) (by lia) fun a a1 a2 => ?_
    have hab : a ≠ b := fun e => by subst e; rw [upd_same] at a1; cases a1
    rw [upd_other hab] at a1
    refine ⟨upd σ a (.list (trues ps.length)), fun c v e => ?_, a, _, upd_same _ _ _, fun φ1 l1 hla => ?_⟩
    · by_cases h1 : c = a
      · subst h1; rw [upd_same] at e ⊢; exact e
      · rw [upd_other h1] at e ⊢
        rw [upd_other (fun q => by subst q; rw [b1] at e; cases e)]; exact e
    rw [del_upd a1]
    refine ⟨Sub.set (.refl _) e1, l1, ?_⟩
    have ih := ih (las := las) (ys := ys ++ [ps]) (as := as ++ [a]) (φ := φ1) (σ := σ) (Q := Q) (hks.mono fun _ _ h => h.le l1) (fun p hp => hx p (.tail _ hp)) ((ha.mono fun _ _ h => h.le l1).snoc hla) (by simp; lia) fun φ' as' l' h => q φ' as' (l1.trans l') (by simpa using h)
    simpa using ih
section
variable {dk cl x d lim sv md jr fz ll : Addr} {cells : List Int} {lots : List (List Piece)} {rows : List RowJ}
theorem law_e : ∀ {n : Nat} {φ : Ph} {σ : Sg} {ll : Addr} {lots : List (List Piece)} {rows : List RowJ} {ρ : Lo} {rl kl : Addr} {kls : List Addr} {Q : Fl → Lo → Ph → Sg → Prop} (R : Rt w H0) (hL : Lots lots) (e3 : ρ "lots" = some (.ref ll)) (e4 : ρ "rows" = some (.ref rl)) (e5 : ρ "kept" = some (.ref kl)) (W0 : Wld φ lots rows) (hll : LotsAt φ ll lots) (hrl : LstP φ rl (rows.map fun x => V.ref x.r)) (hkl : LstP φ kl (kls.map .ref)) (hk : All2 (fun (x : RowJ) k => LstP φ k (x.ts.map .ref)) rows kls) (q : ∀ ρ φ' σ', Le φ φ' → Q (.ret (.bool true)) ρ φ' σ'), XW w H0 d726.scope (n+59) (lawTail 14) ρ φ σ Q := by
  apply @Mine.hk6; generalize ca1 (cx _) = n, ca2 (cx _) = φ, ca3 (cx _) = σ, ca4 (cx _) = ll, ca5 (cx _) = lots, cz6 (cx _) = rows
  apply @Mine.hk5; generalize ca1 (cx _) = ρ, ca2 (cx _) = rl, ca3 (cx _) = kl, ca4 (cx _) = kls, cz5 (cx _) = Q
  intro R hL e3 e4 e5 W0 hll hrl hkl hk q
  have hsm := hL.small
  have hrlen := W0.len
  have hts : ∀ y ∈ rows, (∃ i, Rwi φ y.r i y.l) ∧ LstP φ y.l (y.ts.map .ref) ∧ y.ts.length ≤ 4 := fun y hy => by
    obtain ⟨g, hg⟩ := List.mem_iff_getElem?.mp hy
    obtain ⟨ps, hp1, hp2⟩ := W0.lot hg
    refine ⟨⟨_, (W0.row g y hg).1⟩, (W0.row g y hg).2, ?_⟩
    rw [← hp2.len]; exact (hL.each _ (List.mem_of_getElem? hp1)).1
  obtain ⟨las, la1, la2⟩ := hll
  refine X_cons ?_
  repeat walk_at "zw"
  refine W.fz (E_comp rfl (fun _ _ => rfl) (It_zip ?_))
  repeat walk_at "zw"
  refine B_zip hrl hkl fun z σ2 hz => ?_
  refine ⟨z, _, _, _, _, _, rfl, hz, hrl, hkl, ?_⟩
  refine ret_out R ?_ ?_ (ys := []) (as := []) hts hk .nil (by simp; lia) fun φ1 as l1 ha => ?_
  · rfl
  · rfl
  intro al a1 a2
  refine ⟨al, _, upd_same _ _ _, fun φ2 l2 hal => ?_⟩
  rw [del_upd a1]
  rw [List.nil_append] at ha
  repeat walk_at "zw"
  refine W.fz (E_comp rfl (fun _ _ => rfl) (It_list ?_))
  repeat walk_at "zw"
  have l02 := l1.trans l2
  refine ⟨ll, _, rfl, la1.le l02, .inl ⟨_, _, rfl⟩, ?_⟩
  refine ret_r R ?_ (ys := []) (as := []) (la2.mono fun _ _ h => h.le l02) (fun ps hps => (hL.each ps hps).1) .nil (by simp; lia) fun φ3 bs l3 hb => ?_
  · rfl
  intro bl b1 b2
  refine ⟨bl, _, upd_same _ _ _, fun φ4 l4 hbl => ?_⟩
  rw [del_upd b1]
  rw [List.nil_append] at hb
  refine C_eqLst (.inr (hal.le (l3.trans l4))) (.inr hbl) ?_ (q _ _ _ (l02.trans (l3.trans l4)))
  have hA := ha.mono fun _ _ h => LstP.le (l2.trans (l3.trans l4)) h
  have hB := hb.mono fun _ _ h => LstP.le l4 h
  have alen := hA.len
  have blen := hB.len
  refine ⟨by simp; lia, fun i v u hv hu => ?_⟩
  rw [List.getElem?_map] at hv hu
  cases ea : as[i]? with
  | none => rw [ea] at hv; cases hv
  | some a =>
  cases eb : bs[i]? with
  | none => rw [eb] at hu; cases hu
  | some b =>
  rw [ea] at hv; rw [eb] at hu
  cases hv; cases hu
  obtain ⟨y, gy, hy⟩ := hA.get2 ea
  obtain ⟨ps, gp, hp⟩ := hB.get2 eb
  obtain ⟨ps', gp', hp'⟩ := W0.lot gy
  rw [gp] at gp'; cases gp'
  rw [hp'.len] at hp
  exact EqV.lst (.inr hy) (.inr hp) (EqVs.trues _)
theorem cw726 : ∀ {n : Nat} {φ : Ph} {σ : Sg} {Q : V → Ph → Sg → Prop} {sl : Addr} {is : List Int} (R : Rt w H0) (hsl : LstP φ sl (is.map .int)) (hz : is.length ≤ 63) (q : ∀ φ' σ', Q (.bool true) φ' σ'), CW w H0 (n+60) (.ref 726) [.ref sl] φ σ Q := by
  apply @Mine.hk6; generalize ca1 (cx _) = n, ca2 (cx _) = φ, ca3 (cx _) = σ, ca4 (cx _) = Q, ca5 (cx _) = sl, cz6 (cx _) = is
  intro R hsl hz q
  refine CW.code (n := n + 59) R (k726 R) (b726_1 R) (bk_of rfl) ?_
  refine law_a R hsl hz fun ρ φ1 σ1 dk cl cells a st x d lim sv md jr fz ll lots e1 e2 e3 l1 hcl hcz hd M hs hll hL hpos hkeep n1 n2 => ?_
  refine law_b R e1 e2 e3 hcl hcz hd M hs hll hL hpos n1 n2 fun ρ φ2 σ2 a st rl kl whole rows kls way x0 f1 f2 f3 f4 f5 f6 l2 hd hs W2 hrl hp hway hkl hk => ?_
  refine law_c R hL f1 f2 f3 f4 f5 f6 hd n1 n2 (M.le l2) hs W2 (hll.le l2) hrl hp fun ρ φ3 σ3 cpl c1 c2 r0 l0 num us la g1 g2 g3 g4 g5 g6 l3 hd hs hcpl hpc hr0 hl0 hus n3 => ?_
  have l23 := l2.trans l3
  refine law_d R hL g1 g2 g3 g4 g5 g6 (hcl.le l23) hcz hd n1 n2 (M.le l23) hs (W2.le l3) (hll.le l23) (hrl.le l3) hp.row hcpl hpc hr0 hl0 hus n3 fun ρ φ4 σ4 h3 h4 h5 l4 => ?_
  have l34 := l3.trans l4
  exact law_e R hL h3 h4 h5 (W2.le l34) (hll.le (l23.trans l4)) (hrl.le l34) (hkl.le l34) (hk.mono fun _ _ h => h.le l34) fun ρ φ5 σ5 l5 => q φ5 σ5
end
end
section
theorem ints_of_items {R : WRecords} : ∀ {xs : List WData}, WShape.hasItems R xs .int = true → ∃ is : List Int, xs = is.map .int
  | [], _ => ⟨[], rfl⟩
  | d :: r, h => by
    have h2 : WShape.has R d .int = true ∧ WShape.hasItems R r .int = true := by simpa [WShape.hasItems] using h
    obtain ⟨i, rfl⟩ := hasW_int h2.1
    obtain ⟨is, rfl⟩ := ints_of_items h2.2
    exact ⟨i :: is, rfl⟩
theorem well_ints {P : Params} {h : Heap} : ∀ {is : List Int} {vs : List Value}, WellAll P h vs (is.map .int) → VRs (is.map V.int) vs
  | [], _, x => by cases x; exact .nil
  | i :: is, _, x => by
    cases x with
    | cons x1 x2 => cases x1; exact .cons (.int _ _) (well_ints x2)
theorem rt_of {w : World} {h : Heap} {loose : List Str} {mean : ExcName → Option Value} {mg mb : Str → Option Value} (T : Top q loose mean mg mb h) (Y : (KK w.params).In h) : Rt w h :=
  ⟨Y, ⟨mg, T.g, fun x r e => by
    cases r with
    | none => exact ns_none_of Y T.g e
    | some v => exact mg_of Y T.g e⟩, ⟨mb, T.b, T.builtins⟩, T.nolimit⟩
theorem law_in (P : Params) : nsIn (KK P) mainGlobals (Str.ofString "law") = some (some (.ref 726)) := by kernel_rfl
theorem law_asked : ∀ p : World × Heap, Asked p := asked_all fun R sl is s hl hz hs => by
  obtain ⟨items, m, ho, hv⟩ := hl
  have K : (KK w.params).In H0 := R.K
  have key := cw726 (n := 0) (φ := H0.get?) (σ := fun _ => none) (Q := fun v _ _ => v = .bool true) R (sl := sl) (is := is) ⟨items, m, ho, hv⟩ hz fun _ _ => rfl
  have hr : HR w H0 H0.get? (jn (fun _ => none) (fun _ => none)) s.heap := by
    rw [show s.heap = H0 from hs]
    refine ⟨fun _ _ e => e, fun _ _ e => e, fun a c e => ?_, fun a c e => ?_, ?_⟩
    · cases e
    · cases e
    · obtain ⟨o, ho⟩ : ∃ o, (KK w.params).lookup 726 = some o := Option.isSome_iff_exists.mp (by kernel_rfl)
      exact ⟨726, o, K _ _ ho, by decide⟩
  refine wpAny_mono (key (fun _ => none) callerA s [.ref sl] (by unfold Room callerA; exact ⟨by decide, by decide, rfl⟩) (.cons (.ref _) .nil) (fun a h => by cases h) hr) (fun x s' hPt => ?_) fun _ _ h => h.elim
  obtain ⟨v, φ', σ', k1, k2, k3, k4, k5⟩ := hPt
  subst k5
  refine VR.boolE k1 ?_
  exact ⟨rfl, fun b o e => k3.keep _ _ (k3.root _ _ e), k4⟩
theorem law_walks : WalkO q otherNames (XL q []) (kHook KK KAs KAs_ok).says rr.toRowW lawD.1 lawD.2 fun f vs => PySem.call f vs := by
  intro w s₀ s₁ mg mb G Y a o pm cd doc dV kV hget hdata hcode hdfl hmg hgens args vals as hpre hlay hrd hwell has
  have K : (KK w.params).In s₁.heap := kIn_of Y
  have R : Rt w s₁.heap := rt_of G.T K
  have ha : a = 726 := by
    have h : mg (Str.ofString "law") = some (.ref 726) := mg_of K G.T.g (law_in _)
    have h2 : mg (Str.ofString "law") = some (.ref a) := hmg
    rw [h] at h2
    injection h2 with h2
    injection h2 with h2
    exact h2.symm
  subst ha
  obtain ⟨hsh, hcond⟩ := pre_splitW hpre
  obtain ⟨d, r, rfl, h1, h2⟩ := hasAllW_cons hsh
  have := hasAllW_nil h2
  subst this
  obtain ⟨xs, rfl, h3⟩ := hasW_list h1
  obtain ⟨is, rfl⟩ := ints_of_items h3
  have hz : is.length ≤ 63 := by
    have hc : (WTm.and (.not (.lt (.lit (.int 63)) (.len (.arg 0)))) (.lit (.bool true))).holds [] { args := [.list (is.map .int)] } = true := hcond
    unfold WTm.holds at hc
    simp [WTm.value, less?, Num.less?] at hc
    by_cases h : is.length ≤ 63
    · exact h
    · have h' : (63 : Int) < (is.length : Int) := by omega
      simp [h'] at hc
  obtain ⟨v, vs', rfl, w1, w2⟩ := wellAll_cons_inv hwell
  cases w2
  cases w1 with
  | @list sl vs _ hl hv =>
  have hV := well_ints hv
  refine wpAny_mono (law_asked (w, s₁.heap) R sl is s₁ ⟨vs.toArray, _, hl, hV⟩ hz rfl) (fun x s' hPt => ?_) fun _ _ h => h.elim
  obtain ⟨k1, k3, k4⟩ := hPt
  subst k1
  refine ⟨.inl ⟨_, .bool true, [], rfl, fun _ => rfl, .bool true, ?_, fun _ => ⟨.nil, fun a h => by cases h⟩⟩, .of_keep k3, k4.2, .of_eq (k4.1.trans hgens)⟩
  refine postW_of (r := rr.toRowW) (X := true) (by rfl) ?_ rfl
  show WTm.value [] (.eq .res (.lit (.bool true))) { args := [.list (is.map .int)], res := some (.bool true), after := [.list (is.map .int)] } = _
  simp [WTm.value, same, same_self]
theorem holds : PySem.Challenge.rw_pb0516_01.Holds := of_walk law_walks
end
end Mine
theorem PySem.Challenge.cw_pb0516_01_holds : PySem.Challenge.rw_pb0516_01.Holds :=
  Mine.holds
