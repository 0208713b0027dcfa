import PyProof.Rows.All
import Wide.All
import OpenK.AllK
import Wide.FinOn
import Lean
import PySem.Challenge.RW_np0279_01
set_option Elab.async false
section
open PySem PySem.W PyProof.Rows
set_option maxRecDepth 1000000
set_option maxHeartbeats 0
namespace Mine
/-! the top's run on a heap that is a tree -/
noncomputable def runT (stp : SharedT → Thread → Option (SharedT × Thread)) (n₀ : Nat) (ann : Option Value) : Nat → SharedT → Thread → Option SharedT
  | 0, _, _ => none
  | n + 1, s, t => match through t with
    | true => some s
    | false => match stepOk n₀ ann t with
      | false => none
      | true => match stp s t with
        | some (s', t') => runT stp n₀ ann n s' t'
        | none => none
theorem runT_of {tb : String → Option Builtin} {p : Program} {w : World} {n₀ : Nat} {ann : Option Value} : ∀ {n : Nat} {s s' : SharedT} {t : Thread}, runT (stepT (denote tb) p w) n₀ ann n s t = some s' → topRun tb p w n₀ ann n s.abs t = some s'.abs
  | 0, _, _, _, h => by cases h
  | n + 1, s, s', t, h => by
    unfold runT at h
    unfold topRun
    cases he : through t with
    | true => rw [he] at h; cases h; rfl
    | false =>
      rw [he] at h
      cases hk : stepOk n₀ ann t with
      | false => rw [hk] at h; cases h
      | true =>
        rw [hk] at h
        cases hs : stepT (denote tb) p w s t with
        | none => rw [hs] at h; cases h
        | some r => obtain ⟨s₂, t₂⟩ := r; rw [hs] at h; rw [stepT_spec hs]; exact runT_of h
theorem left_of_tree {p q : Program} {loose : List Str} {Xt : Shared → Bool} {α : Type} {Yf : Shared → α} {Ya : World → α} {N : Nat} {g0 : Bool} {H₀ : Params → Heap} {gs₀ : Array GenState} {d₀ : Drawn} {k₀ m₀ n₀ : Nat} {ann : Option Value} {T₀ : Params → BT} {life : Life}
    (open_ : ∀ w : World, (fencedOpening treeTable p w N).map (fun s => (s.heap, s.gens, s.drawn, s.toks)) = some (H₀ w.params, gs₀, d₀, k₀))
    (size : ∀ w : World, ((H₀ w.params).isNs mainGlobals && gs₀.size == 0, (H₀ w.params).objs.size, (H₀ w.params).nsMap mainGlobals "__annotations__") = (true, m₀, ann))
    (tree : ∀ P : Params, absHeap (T₀ P) n₀ life = H₀ P)
    (run : ∀ w : World, (fun os => (runT (stepT (denote treeTable) p w) m₀ ann N ⟨T₀ w.params, n₀, life, gs₀, d₀, k₀, os⟩ (topStub p)).map (fun s =>
      (staticsOk (importedModules p.main.body) (H₀ w.params) s.abs.heap && namesBound p s.abs.heap && gensDone s.abs && laidKept (H₀ w.params) s.abs.heap, openSeen q loose (importedModules p.main.body) Xt g0 s.abs, Yf s.abs))) = fun _ => some (true, openGood q loose, Ya w)) :
    LeftO p q loose Xt Yf Ya N g0 := fun w => by
  obtain ⟨⟨h, gs, d, k, os⟩, e, e'⟩ := Option.map_eq_some_iff.mp (open_ w)
  obtain ⟨rfl, rfl, rfl, rfl⟩ : h = H₀ w.params ∧ gs = gs₀ ∧ d = d₀ ∧ k = k₀ := by simpa using e'
  obtain ⟨z1, z2, z3⟩ : _ ∧ _ ∧ _ := by simpa only [Prod.mk.injEq] using size w
  obtain ⟨s, hs, hv⟩ := Option.map_eq_some_iff.mp (congrFun (run w) os)
  obtain ⟨l1, l2, l3⟩ : _ ∧ _ ∧ _ := by simpa only [Prod.mk.injEq] using hv
  have r := runT_of hs
  unfold SharedT.abs at r
  rw [tree] at r
  have t : topFrom treeTable p w N ⟨H₀ w.params, gs, d, k, os⟩ = some s.abs := by
    unfold topFrom
    dsimp only
    rw [z1, z2, z3, r]
    show (match staticsOk (importedModules p.main.body) (H₀ w.params) s.abs.heap && namesBound p s.abs.heap && gensDone s.abs && laidKept (H₀ w.params) s.abs.heap with | true => some s.abs | false => none) = _
    rw [l1]
  unfold openEnds
  rw [e]
  show (topFrom treeTable p w N _).map _ = _
  rw [t]
  exact congrArg some (Prod.ext l2 l3)
noncomputable def insL : BT → Nat → List Obj → BT
  | t, _, [] => t
  | t, n, o :: os => insL (t.ins n o) (n + 1) os
noncomputable def bootT (P : Params) : BT := insL .nil 0 (boot_heap P).objs.toList
theorem bootT_abs (P : Params) : absHeap (bootT P) 11 {} = boot_heap P := by kernel_rfl
end Mine
end
section
open PySem PySem.W PyProof.Rows
set_option maxRecDepth 1000000
set_option linter.unusedVariables false
namespace Mine
/-- params, body and scope of a def -/
noncomputable def fO : Option Stmt → Arguments × FuncBody × Scope
  | some (.FunctionDef _ a b _ _ _ sc _ _ _) => (a, .stmts b, sc)
  | _ => (⟨[], [], none, [], [], none, []⟩, .stmts [], ⟨.function, [], false, false, []⟩)
/-- the def at a place of the given program's text; the def at a place in a class of it -/
noncomputable def fT (i : Nat) : Arguments × FuncBody × Scope := fO PySem.Challenge.rw_np0279_01.row.prog.main.body[i]?
noncomputable def fM (i j : Nat) : Arguments × FuncBody × Scope := fO (match PySem.Challenge.rw_np0279_01.row.prog.main.body[i]? with
  | some (.ClassDef _ _ _ b _ _ _ _ _ _ _) => b[j]?
  | _ => none)
noncomputable def cO (n q : String) (t : Nat) (l a : Nat) (r : Nat) (x : Nat) : Obj := Obj.mk (Value.type "code") none (Data.fields #[Value.str (Str.ofString n) t, Value.str (Str.ofString q) (t + 1), Value.str (Str.ofString "/claim/cut.py") (t + 2), Value.int (Int.ofNat l) 0, Value.int (Int.ofNat a) 0, Value.int 0 0, Value.int 0 0, Value.int 3 0, Value.ref r, Value.bool true, Value.int 181 0, Value.ref (r + 1), Value.none, Value.ref (r + 2), Value.ref (r + 3), Value.ref (r + 4), Value.int (Int.ofNat x) 0, Value.int (Int.ofNat l) 0, Value.str (Str.ofString "/claim/cut.py") (x + 1)]) #[]
noncomputable def fN (n q : String) (f : Arguments × FuncBody × Scope) (d : Value) (m : String) (t c : Nat) : Obj := Obj.mk (Value.type "function") none (Data.func (FuncData.mk (Str.ofString n) (Str.ofString q) f.1 f.2.1 f.2.2 3 [] d Value.none Value.none (Value.str (Str.ofString m) t) none (Value.ref c) Value.none 0)) #[]
noncomputable def dE (P : Params) (n : String) (t : Nat) (v : Value) : DictEntry := DictEntry.mk (PyData.keyHash P (Str.ofString n)) (Value.str (Str.ofString n) t) v
noncomputable def o2 (P : Params) : Obj := Obj.mk Value.none none (Data.dict #[dE P "type.__subclasses__.Exception.0" (nat_lit 229) (Value.int (Int.ofNat (nat_lit 40)) (nat_lit 0)), dE P "type.__subclasses__.Exception.n" (nat_lit 230) (Value.int (Int.ofNat (nat_lit 1)) (nat_lit 0))] (nat_lit 2)) #[]
noncomputable def o3 (P : Params) : Obj := Obj.mk (Value.type "dict") none (Data.dict #[dE P "__name__" (nat_lit 165) (Value.str (Str.ofString "law_np0279_01") (nat_lit 976)), dE P "__doc__" (nat_lit 166) Value.none, dE P "__package__" (nat_lit 167) Value.none, dE P "__loader__" (nat_lit 168) (Value.builtin "__main__.__loader__#opaque"), dE P "__spec__" (nat_lit 169) Value.none, dE P "__annotations__" (nat_lit 170) (Value.ref (nat_lit 6)), dE P "__builtins__" (nat_lit 171) (Value.ref (nat_lit 4)), dE P "__file__" (nat_lit 173) (Value.str (Str.ofString "/claim/cut.py") (nat_lit 172)), dE P "__cached__" (nat_lit 174) Value.none, dE P "_wall" (nat_lit 193) (Value.ref (nat_lit 21)), dE P "NO_COLOUR" (nat_lit 198) (Value.int (-1) (nat_lit 197)), dE P "PLAIN" (nat_lit 201) (Value.ref (nat_lit 22)), dE P "BACK" (nat_lit 203) (Value.int (Int.ofNat (nat_lit 2)) (nat_lit 202)), dE P "TermError" (nat_lit 232) (Value.ref (nat_lit 40)), dE P "BadSize" (nat_lit 248) (Value.ref (nat_lit 53)), dE P "clamp" (nat_lit 257) (Value.ref (nat_lit 62)), dE P "erased_pen" (nat_lit 264) (Value.ref (nat_lit 69)), dE P "blank_cell" (nat_lit 271) (Value.ref (nat_lit 76)), dE P "is_blank" (nat_lit 278) (Value.ref (nat_lit 83)), dE P "LINE_SIZES" (nat_lit 285) (Value.ref (nat_lit 84)), dE P "line_blanks" (nat_lit 293) (Value.ref (nat_lit 91)), dE P "right_half" (nat_lit 300) (Value.ref (nat_lit 98)), dE P "line_part" (nat_lit 308) (Value.ref (nat_lit 105)), dE P "line_slice" (nat_lit 318) (Value.ref (nat_lit 112)), dE P "line_codes" (nat_lit 328) (Value.ref (nat_lit 119)), dE P "Line" (nat_lit 500) (Value.ref (nat_lit 244)), dE P "Grid" (nat_lit 719) (Value.ref (nat_lit 393)), dE P "grid_cut" (nat_lit 726) (Value.ref (nat_lit 404)), dE P "grid_mended" (nat_lit 734) (Value.ref (nat_lit 411)), dE P "Cursor" (nat_lit 800) (Value.ref (nat_lit 456)), dE P "Margins" (nat_lit 963) (Value.ref (nat_lit 589)), dE P "moved" (nat_lit 975) (Value.ref (nat_lit 600)), dE P "_law_deck" (nat_lit 983) (Value.ref (nat_lit 605)), dE P "_law_draw" (nat_lit 993) (Value.ref (nat_lit 612)), dE P "_law_pick" (nat_lit 1001) (Value.ref (nat_lit 619)), dE P "_law_pen" (nat_lit 1008) (Value.ref (nat_lit 626)), dE P "_law_written" (nat_lit 1025) (Value.ref (nat_lit 633)), dE P "_law_cut" (nat_lit 1034) (Value.ref (nat_lit 640)), dE P "_law_scrolled" (nat_lit 1040) (Value.ref (nat_lit 645)), dE P "_law_told" (nat_lit 1046) (Value.ref (nat_lit 650)), dE P "_law_set" (nat_lit 1067) (Value.ref (nat_lit 657)), dE P "_law_steps_right" (nat_lit 1091) (Value.ref (nat_lit 664)), dE P "law" (nat_lit 1097) (Value.ref (nat_lit 669))] (nat_lit 43)) #[]
noncomputable def o22 (P : Params) : Obj := Obj.mk (Value.type "tuple") none (Data.seq #[Value.int (Int.ofNat (nat_lit 0)) (nat_lit 199), Value.int (-1) (nat_lit 197), Value.int (-1) (nat_lit 197), Value.int (-1) (nat_lit 197), Value.int (Int.ofNat (nat_lit 0)) (nat_lit 200)]) #[]
noncomputable def o39 (P : Params) : Obj := Obj.mk (Value.type "dict") none (Data.dict #[dE P "__module__" (nat_lit 211) (Value.str (Str.ofString "termcore.base") (nat_lit 194)), dE P "__firstlineno__" (nat_lit 215) (Value.int (Int.ofNat (nat_lit 8)) (nat_lit 214)), dE P "__init__" (nat_lit 223) (Value.ref (nat_lit 37)), dE P "__static_attributes__" (nat_lit 225) (Value.ref (nat_lit 38)), dE P "__weakref__" (nat_lit 227) (Value.ref (nat_lit 41)), dE P "__doc__" (nat_lit 228) Value.none] (nat_lit 3)) #[]
noncomputable def o40 (P : Params) : Obj := Obj.mk (Value.type "type") none (Data.cls (ClassData.mk (Str.ofString "TermError") [Value.type "Exception"] [Value.ref (nat_lit 40), Value.type "Exception", Value.type "BaseException", Value.type "object"] (nat_lit 39) (Str.ofString "TermError") true [] [Value.ref (nat_lit 53)] false none false)) #[some (Value.ref (nat_lit 23)), none, some (Value.str (Str.ofString "TermError") (nat_lit 204)), some (Value.str (Str.ofString "TermError") (nat_lit 212)), some (Value.builtin "Exception.__new__"), some (Value.bool true)]
noncomputable def o52 (P : Params) : Obj := Obj.mk (Value.type "dict") none (Data.dict #[dE P "__module__" (nat_lit 240) (Value.str (Str.ofString "termcore.base") (nat_lit 194)), dE P "__firstlineno__" (nat_lit 244) (Value.int (Int.ofNat (nat_lit 12)) (nat_lit 243)), dE P "__static_attributes__" (nat_lit 245) (Value.ref (nat_lit 51)), dE P "__doc__" (nat_lit 246) Value.none] (nat_lit 2)) #[]
noncomputable def o53 (P : Params) : Obj := Obj.mk (Value.type "type") none (Data.cls (ClassData.mk (Str.ofString "BadSize") [Value.ref (nat_lit 40)] [Value.ref (nat_lit 53), Value.ref (nat_lit 40), Value.type "Exception", Value.type "BaseException", Value.type "object"] (nat_lit 52) (Str.ofString "BadSize") true [] [] false none false)) #[some (Value.ref (nat_lit 44)), none, some (Value.str (Str.ofString "BadSize") (nat_lit 233)), some (Value.str (Str.ofString "BadSize") (nat_lit 241)), some (Value.builtin "Exception.__new__"), some (Value.bool true)]
noncomputable def o61 (P : Params) : Obj := cO "clamp" "clamp" (nat_lit 249) (nat_lit 14) (nat_lit 3) (nat_lit 56) (nat_lit 255)
noncomputable def o62 (P : Params) : Obj := fN "clamp" "clamp" (fT (nat_lit 7)) Value.none "termcore.base" (nat_lit 194) (nat_lit 61)
noncomputable def o68 (P : Params) : Obj := cO "erased_pen" "erased_pen" (nat_lit 258) (nat_lit 16) (nat_lit 1) (nat_lit 63) (nat_lit 262)
noncomputable def o69 (P : Params) : Obj := fN "erased_pen" "erased_pen" (fT (nat_lit 8)) Value.none "termcore.base" (nat_lit 194) (nat_lit 68)
noncomputable def o75 (P : Params) : Obj := cO "blank_cell" "blank_cell" (nat_lit 265) (nat_lit 18) (nat_lit 1) (nat_lit 70) (nat_lit 269)
noncomputable def o76 (P : Params) : Obj := fN "blank_cell" "blank_cell" (fT (nat_lit 9)) Value.none "termcore.base" (nat_lit 194) (nat_lit 75)
noncomputable def o84 (P : Params) : Obj := Obj.mk (Value.type "tuple") none (Data.seq #[Value.str (Str.ofString "single") (nat_lit 281), Value.str (Str.ofString "wide") (nat_lit 282), Value.str (Str.ofString "top") (nat_lit 283), Value.str (Str.ofString "bottom") (nat_lit 284)]) #[]
noncomputable def o90 (P : Params) : Obj := cO "line_blanks" "line_blanks" (nat_lit 286) (nat_lit 24) (nat_lit 2) (nat_lit 85) (nat_lit 291)
noncomputable def o91 (P : Params) : Obj := fN "line_blanks" "line_blanks" (fT (nat_lit 13)) Value.none "termcore.lines" (nat_lit 279) (nat_lit 90)
noncomputable def o97 (P : Params) : Obj := cO "right_half" "right_half" (nat_lit 294) (nat_lit 26) (nat_lit 1) (nat_lit 92) (nat_lit 298)
noncomputable def o98 (P : Params) : Obj := fN "right_half" "right_half" (fT (nat_lit 14)) Value.none "termcore.lines" (nat_lit 279) (nat_lit 97)
noncomputable def o104 (P : Params) : Obj := cO "line_part" "line_part" (nat_lit 301) (nat_lit 28) (nat_lit 2) (nat_lit 99) (nat_lit 306)
noncomputable def o105 (P : Params) : Obj := fN "line_part" "line_part" (fT (nat_lit 15)) Value.none "termcore.lines" (nat_lit 279) (nat_lit 104)
noncomputable def o132 (P : Params) : Obj := cO "__init__" "Line.__init__" (nat_lit 341) (nat_lit 50) (nat_lit 3) (nat_lit 127) (nat_lit 347)
noncomputable def o133 (P : Params) : Obj := fN "__init__" "Line.__init__" (fM (nat_lit 18) (nat_lit 0)) Value.none "termcore.lines" (nat_lit 279) (nat_lit 132)
noncomputable def o154 (P : Params) : Obj := cO "part" "Line.part" (nat_lit 365) (nat_lit 62) (nat_lit 2) (nat_lit 149) (nat_lit 370)
noncomputable def o155 (P : Params) : Obj := fN "part" "Line.part" (fM (nat_lit 18) (nat_lit 3)) Value.none "termcore.lines" (nat_lit 279) (nat_lit 154)
noncomputable def o161 (P : Params) : Obj := cO "put" "Line.put" (nat_lit 373) (nat_lit 65) (nat_lit 3) (nat_lit 156) (nat_lit 379)
noncomputable def o162 (P : Params) : Obj := fN "put" "Line.put" (fM (nat_lit 18) (nat_lit 4)) Value.none "termcore.lines" (nat_lit 279) (nat_lit 161)
noncomputable def o170 (P : Params) : Obj := Obj.mk (Value.type "tuple") none (Data.seq #[Value.bool false]) #[]
noncomputable def o176 (P : Params) : Obj := cO "erase" "Line.erase" (nat_lit 392) (nat_lit 84) (nat_lit 5) (nat_lit 171) (nat_lit 402)
noncomputable def o177 (P : Params) : Obj := fN "erase" "Line.erase" (fM (nat_lit 18) (nat_lit 6)) (Value.ref (nat_lit 170)) "termcore.lines" (nat_lit 279) (nat_lit 176)
noncomputable def o243 (P : Params) : Obj := Obj.mk (Value.type "dict") none (Data.dict #[dE P "__module__" (nat_lit 336) (Value.str (Str.ofString "termcore.lines") (nat_lit 279)), dE P "__firstlineno__" (nat_lit 340) (Value.int (Int.ofNat (nat_lit 48)) (nat_lit 339)), dE P "__init__" (nat_lit 349) (Value.ref (nat_lit 133)), dE P "columns" (nat_lit 357) (Value.ref (nat_lit 141)), dE P "shown" (nat_lit 364) (Value.ref (nat_lit 148)), dE P "part" (nat_lit 372) (Value.ref (nat_lit 155)), dE P "put" (nat_lit 381) (Value.ref (nat_lit 162)), dE P "put_cells" (nat_lit 391) (Value.ref (nat_lit 169)), dE P "erase" (nat_lit 404) (Value.ref (nat_lit 177)), dE P "shift" (nat_lit 416) (Value.ref (nat_lit 184)), dE P "insert" (nat_lit 427) (Value.ref (nat_lit 191)), dE P "delete" (nat_lit 438) (Value.ref (nat_lit 198)), dE P "fill" (nat_lit 448) (Value.ref (nat_lit 205)), dE P "copy" (nat_lit 455) (Value.ref (nat_lit 212)), dE P "codes" (nat_lit 465) (Value.ref (nat_lit 220)), dE P "used" (nat_lit 472) (Value.ref (nat_lit 227)), dE P "resized" (nat_lit 481) (Value.ref (nat_lit 234)), dE P "equals" (nat_lit 489) (Value.ref (nat_lit 241)), dE P "__static_attributes__" (nat_lit 493) (Value.ref (nat_lit 242)), dE P "__dict__" (nat_lit 495) (Value.ref (nat_lit 245)), dE P "__weakref__" (nat_lit 497) (Value.ref (nat_lit 246)), dE P "__doc__" (nat_lit 498) Value.none] (nat_lit 4)) #[]
noncomputable def o244 (P : Params) : Obj := Obj.mk (Value.type "type") none (Data.cls (ClassData.mk (Str.ofString "Line") [Value.type "object"] [Value.ref (nat_lit 244), Value.type "object"] (nat_lit 243) (Str.ofString "Line") true [] [] false none false)) #[none, none, some (Value.str (Str.ofString "Line") (nat_lit 329)), some (Value.str (Str.ofString "Line") (nat_lit 337)), some (Value.builtin "object.__new__"), some (Value.bool true)]
noncomputable def o259 (P : Params) : Obj := Obj.mk (Value.type "code") none (Data.fields #[Value.str (Str.ofString "__init__") (nat_lit 515), Value.str (Str.ofString "Grid.__init__") (nat_lit 516), Value.str (Str.ofString "/claim/cut.py") (nat_lit 517), Value.int (Int.ofNat (nat_lit 126)) (nat_lit 0), Value.int (Int.ofNat (nat_lit 3)) (nat_lit 0), Value.int (Int.ofNat (nat_lit 0)) (nat_lit 0), Value.int (Int.ofNat (nat_lit 0)) (nat_lit 0), Value.int (Int.ofNat (nat_lit 3)) (nat_lit 0), Value.ref (nat_lit 256), Value.bool true, Value.int (Int.ofNat (nat_lit 181)) (nat_lit 0), Value.ref (nat_lit 257), Value.none, Value.none, Value.none, Value.ref (nat_lit 258), Value.int (Int.ofNat (nat_lit 518)) (nat_lit 0), Value.int (Int.ofNat (nat_lit 126)) (nat_lit 0), Value.str (Str.ofString "/claim/cut.py") (nat_lit 519)]) #[]
noncomputable def o260 (P : Params) : Obj := fN "__init__" "Grid.__init__" (fM (nat_lit 20) (nat_lit 0)) Value.none "termcore.grid" (nat_lit 501) (nat_lit 259)
noncomputable def o266 (P : Params) : Obj := cO "line" "Grid.line" (nat_lit 521) (nat_lit 133) (nat_lit 2) (nat_lit 261) (nat_lit 526)
noncomputable def o267 (P : Params) : Obj := fN "line" "Grid.line" (fM (nat_lit 20) (nat_lit 1)) Value.none "termcore.grid" (nat_lit 501) (nat_lit 266)
noncomputable def o280 (P : Params) : Obj := cO "is_wide" "Grid.is_wide" (nat_lit 536) (nat_lit 139) (nat_lit 2) (nat_lit 275) (nat_lit 541)
noncomputable def o281 (P : Params) : Obj := fN "is_wide" "Grid.is_wide" (fM (nat_lit 20) (nat_lit 3)) Value.none "termcore.grid" (nat_lit 501) (nat_lit 280)
noncomputable def o285 (P : Params) : Obj := Obj.mk (Value.type "code") none (Data.fields #[Value.str (Str.ofString "fresh") (nat_lit 544), Value.str (Str.ofString "Grid.fresh") (nat_lit 545), Value.str (Str.ofString "/claim/cut.py") (nat_lit 546), Value.int (Int.ofNat (nat_lit 142)) (nat_lit 0), Value.int (Int.ofNat (nat_lit 3)) (nat_lit 0), Value.int (Int.ofNat (nat_lit 0)) (nat_lit 0), Value.int (Int.ofNat (nat_lit 0)) (nat_lit 0), Value.int (Int.ofNat (nat_lit 3)) (nat_lit 0), Value.ref (nat_lit 282), Value.bool true, Value.int (Int.ofNat (nat_lit 181)) (nat_lit 0), Value.ref (nat_lit 283), Value.none, Value.none, Value.none, Value.ref (nat_lit 284), Value.int (Int.ofNat (nat_lit 547)) (nat_lit 0), Value.int (Int.ofNat (nat_lit 142)) (nat_lit 0), Value.str (Str.ofString "/claim/cut.py") (nat_lit 548)]) #[]
noncomputable def o286 (P : Params) : Obj := fN "fresh" "Grid.fresh" (fM (nat_lit 20) (nat_lit 4)) Value.none "termcore.grid" (nat_lit 501) (nat_lit 285)
noncomputable def o292 (P : Params) : Obj := cO "part_above" "Grid.part_above" (nat_lit 550) (nat_lit 145) (nat_lit 2) (nat_lit 287) (nat_lit 555)
noncomputable def o293 (P : Params) : Obj := fN "part_above" "Grid.part_above" (fM (nat_lit 20) (nat_lit 5)) Value.none "termcore.grid" (nat_lit 501) (nat_lit 292)
noncomputable def o299 (P : Params) : Obj := cO "scroll_up" "Grid.scroll_up" (nat_lit 558) (nat_lit 149) (nat_lit 4) (nat_lit 294) (nat_lit 572)
noncomputable def o300 (P : Params) : Obj := fN "scroll_up" "Grid.scroll_up" (fM (nat_lit 20) (nat_lit 6)) Value.none "termcore.grid" (nat_lit 501) (nat_lit 299)
noncomputable def o306 (P : Params) : Obj := cO "scroll_down" "Grid.scroll_down" (nat_lit 575) (nat_lit 167) (nat_lit 4) (nat_lit 301) (nat_lit 588)
noncomputable def o307 (P : Params) : Obj := fN "scroll_down" "Grid.scroll_down" (fM (nat_lit 20) (nat_lit 7)) Value.none "termcore.grid" (nat_lit 501) (nat_lit 306)
noncomputable def o313 (P : Params) : Obj := cO "unwrap" "Grid.unwrap" (nat_lit 591) (nat_lit 181) (nat_lit 2) (nat_lit 308) (nat_lit 597)
noncomputable def o314 (P : Params) : Obj := fN "unwrap" "Grid.unwrap" (fM (nat_lit 20) (nat_lit 8)) Value.none "termcore.grid" (nat_lit 501) (nat_lit 313)
noncomputable def o334 (P : Params) : Obj := cO "cells_of" "Grid.cells_of" (nat_lit 622) (nat_lit 195) (nat_lit 4) (nat_lit 329) (nat_lit 629)
noncomputable def o335 (P : Params) : Obj := fN "cells_of" "Grid.cells_of" (fM (nat_lit 20) (nat_lit 11)) Value.none "termcore.grid" (nat_lit 501) (nat_lit 334)
noncomputable def o341 (P : Params) : Obj := cO "put_cells" "Grid.put_cells" (nat_lit 632) (nat_lit 198) (nat_lit 4) (nat_lit 336) (nat_lit 643)
noncomputable def o342 (P : Params) : Obj := fN "put_cells" "Grid.put_cells" (fM (nat_lit 20) (nat_lit 12)) Value.none "termcore.grid" (nat_lit 501) (nat_lit 341)
noncomputable def o343 (P : Params) : Obj := Obj.mk (Value.type "tuple") none (Data.seq #[Value.bool false]) #[]
noncomputable def o349 (P : Params) : Obj := cO "erase_area" "Grid.erase_area" (nat_lit 646) (nat_lit 209) (nat_lit 4) (nat_lit 344) (nat_lit 658)
noncomputable def o350 (P : Params) : Obj := fN "erase_area" "Grid.erase_area" (fM (nat_lit 20) (nat_lit 13)) (Value.ref (nat_lit 343)) "termcore.grid" (nat_lit 501) (nat_lit 349)
noncomputable def o392 (P : Params) : Obj := Obj.mk (Value.type "dict") none (Data.dict #[dE P "__module__" (nat_lit 510) (Value.str (Str.ofString "termcore.grid") (nat_lit 501)), dE P "__firstlineno__" (nat_lit 514) (Value.int (Int.ofNat (nat_lit 124)) (nat_lit 513)), dE P "__init__" (nat_lit 520) (Value.ref (nat_lit 260)), dE P "line" (nat_lit 528) (Value.ref (nat_lit 267)), dE P "whole_area" (nat_lit 535) (Value.ref (nat_lit 274)), dE P "is_wide" (nat_lit 543) (Value.ref (nat_lit 281)), dE P "fresh" (nat_lit 549) (Value.ref (nat_lit 286)), dE P "part_above" (nat_lit 557) (Value.ref (nat_lit 293)), dE P "scroll_up" (nat_lit 574) (Value.ref (nat_lit 300)), dE P "scroll_down" (nat_lit 590) (Value.ref (nat_lit 307)), dE P "unwrap" (nat_lit 599) (Value.ref (nat_lit 314)), dE P "insert_columns" (nat_lit 610) (Value.ref (nat_lit 321)), dE P "delete_columns" (nat_lit 621) (Value.ref (nat_lit 328)), dE P "cells_of" (nat_lit 631) (Value.ref (nat_lit 335)), dE P "put_cells" (nat_lit 645) (Value.ref (nat_lit 342)), dE P "erase_area" (nat_lit 660) (Value.ref (nat_lit 350)), dE P "fill_area" (nat_lit 669) (Value.ref (nat_lit 357)), dE P "copy_area" (nat_lit 679) (Value.ref (nat_lit 364)), dE P "cells_in" (nat_lit 687) (Value.ref (nat_lit 371)), dE P "copy" (nat_lit 694) (Value.ref (nat_lit 378)), dE P "equals" (nat_lit 702) (Value.ref (nat_lit 385)), dE P "text" (nat_lit 708) (Value.ref (nat_lit 390)), dE P "__static_attributes__" (nat_lit 712) (Value.ref (nat_lit 391)), dE P "__dict__" (nat_lit 714) (Value.ref (nat_lit 394)), dE P "__weakref__" (nat_lit 716) (Value.ref (nat_lit 395)), dE P "__doc__" (nat_lit 717) Value.none] (nat_lit 4)) #[]
noncomputable def o393 (P : Params) : Obj := Obj.mk (Value.type "type") none (Data.cls (ClassData.mk (Str.ofString "Grid") [Value.type "object"] [Value.ref (nat_lit 393), Value.type "object"] (nat_lit 392) (Str.ofString "Grid") true [] [] false none false)) #[none, none, some (Value.str (Str.ofString "Grid") (nat_lit 503)), some (Value.str (Str.ofString "Grid") (nat_lit 511)), some (Value.builtin "object.__new__"), some (Value.bool true)]
noncomputable def o403 (P : Params) : Obj := cO "grid_cut" "grid_cut" (nat_lit 720) (nat_lit 233) (nat_lit 1) (nat_lit 398) (nat_lit 724)
noncomputable def o404 (P : Params) : Obj := fN "grid_cut" "grid_cut" (fT (nat_lit 21)) Value.none "termcore.grid" (nat_lit 501) (nat_lit 403)
noncomputable def o410 (P : Params) : Obj := cO "grid_mended" "grid_mended" (nat_lit 727) (nat_lit 235) (nat_lit 1) (nat_lit 405) (nat_lit 732)
noncomputable def o411 (P : Params) : Obj := fN "grid_mended" "grid_mended" (fT (nat_lit 22)) Value.none "termcore.grid" (nat_lit 501) (nat_lit 410)
noncomputable def o424 (P : Params) : Obj := cO "__init__" "Cursor.__init__" (nat_lit 749) (nat_lit 245) (nat_lit 1) (nat_lit 419) (nat_lit 753)
noncomputable def o425 (P : Params) : Obj := fN "__init__" "Cursor.__init__" (fM (nat_lit 24) (nat_lit 0)) Value.none "termcore.cursor" (nat_lit 735) (nat_lit 424)
noncomputable def o438 (P : Params) : Obj := cO "go" "Cursor.go" (nat_lit 763) (nat_lit 256) (nat_lit 3) (nat_lit 433) (nat_lit 769)
noncomputable def o439 (P : Params) : Obj := fN "go" "Cursor.go" (fM (nat_lit 24) (nat_lit 2)) Value.none "termcore.cursor" (nat_lit 735) (nat_lit 438)
noncomputable def o445 (P : Params) : Obj := cO "place" "Cursor.place" (nat_lit 772) (nat_lit 261) (nat_lit 1) (nat_lit 440) (nat_lit 776)
noncomputable def o446 (P : Params) : Obj := fN "place" "Cursor.place" (fM (nat_lit 24) (nat_lit 3)) Value.none "termcore.cursor" (nat_lit 735) (nat_lit 445)
noncomputable def o455 (P : Params) : Obj := Obj.mk (Value.type "dict") none (Data.dict #[dE P "__module__" (nat_lit 744) (Value.str (Str.ofString "termcore.cursor") (nat_lit 735)), dE P "__firstlineno__" (nat_lit 748) (Value.int (Int.ofNat (nat_lit 243)) (nat_lit 747)), dE P "__init__" (nat_lit 755) (Value.ref (nat_lit 425)), dE P "copy" (nat_lit 762) (Value.ref (nat_lit 432)), dE P "go" (nat_lit 771) (Value.ref (nat_lit 439)), dE P "place" (nat_lit 778) (Value.ref (nat_lit 446)), dE P "equals" (nat_lit 786) (Value.ref (nat_lit 453)), dE P "__static_attributes__" (nat_lit 793) (Value.ref (nat_lit 454)), dE P "__dict__" (nat_lit 795) (Value.ref (nat_lit 457)), dE P "__weakref__" (nat_lit 797) (Value.ref (nat_lit 458)), dE P "__doc__" (nat_lit 798) Value.none] (nat_lit 4)) #[]
noncomputable def o456 (P : Params) : Obj := Obj.mk (Value.type "type") none (Data.cls (ClassData.mk (Str.ofString "Cursor") [Value.type "object"] [Value.ref (nat_lit 456), Value.type "object"] (nat_lit 455) (Str.ofString "Cursor") true [] [] false none false)) #[none, none, some (Value.str (Str.ofString "Cursor") (nat_lit 737)), some (Value.str (Str.ofString "Cursor") (nat_lit 745)), some (Value.builtin "object.__new__"), some (Value.bool true)]
noncomputable def o473 (P : Params) : Obj := cO "__init__" "Margins.__init__" (nat_lit 813) (nat_lit 268) (nat_lit 3) (nat_lit 468) (nat_lit 819)
noncomputable def o474 (P : Params) : Obj := fN "__init__" "Margins.__init__" (fM (nat_lit 25) (nat_lit 0)) Value.none "termcore.cursor" (nat_lit 735) (nat_lit 473)
noncomputable def o480 (P : Params) : Obj := cO "set_rows" "Margins.set_rows" (nat_lit 822) (nat_lit 276) (nat_lit 3) (nat_lit 475) (nat_lit 829)
noncomputable def o481 (P : Params) : Obj := fN "set_rows" "Margins.set_rows" (fM (nat_lit 25) (nat_lit 1)) Value.none "termcore.cursor" (nat_lit 735) (nat_lit 480)
noncomputable def o487 (P : Params) : Obj := cO "set_columns" "Margins.set_columns" (nat_lit 832) (nat_lit 283) (nat_lit 3) (nat_lit 482) (nat_lit 839)
noncomputable def o488 (P : Params) : Obj := fN "set_columns" "Margins.set_columns" (fM (nat_lit 25) (nat_lit 2)) Value.none "termcore.cursor" (nat_lit 735) (nat_lit 487)
noncomputable def o515 (P : Params) : Obj := cO "area" "Margins.area" (nat_lit 865) (nat_lit 299) (nat_lit 1) (nat_lit 510) (nat_lit 869)
noncomputable def o516 (P : Params) : Obj := fN "area" "Margins.area" (fM (nat_lit 25) (nat_lit 6)) Value.none "termcore.cursor" (nat_lit 735) (nat_lit 515)
noncomputable def o522 (P : Params) : Obj := cO "holds" "Margins.holds" (nat_lit 872) (nat_lit 302) (nat_lit 3) (nat_lit 517) (nat_lit 878)
noncomputable def o523 (P : Params) : Obj := fN "holds" "Margins.holds" (fM (nat_lit 25) (nat_lit 7)) Value.none "termcore.cursor" (nat_lit 735) (nat_lit 522)
noncomputable def o529 (P : Params) : Obj := cO "holds_row" "Margins.holds_row" (nat_lit 881) (nat_lit 305) (nat_lit 2) (nat_lit 524) (nat_lit 886)
noncomputable def o530 (P : Params) : Obj := fN "holds_row" "Margins.holds_row" (fM (nat_lit 25) (nat_lit 8)) Value.none "termcore.cursor" (nat_lit 735) (nat_lit 529)
noncomputable def o536 (P : Params) : Obj := cO "holds_column" "Margins.holds_column" (nat_lit 889) (nat_lit 308) (nat_lit 2) (nat_lit 531) (nat_lit 894)
noncomputable def o537 (P : Params) : Obj := fN "holds_column" "Margins.holds_column" (fM (nat_lit 25) (nat_lit 9)) Value.none "termcore.cursor" (nat_lit 735) (nat_lit 536)
noncomputable def o557 (P : Params) : Obj := cO "first_row" "Margins.first_row" (nat_lit 911) (nat_lit 317) (nat_lit 2) (nat_lit 552) (nat_lit 916)
noncomputable def o558 (P : Params) : Obj := fN "first_row" "Margins.first_row" (fM (nat_lit 25) (nat_lit 12)) Value.none "termcore.cursor" (nat_lit 735) (nat_lit 557)
noncomputable def o564 (P : Params) : Obj := cO "last_row" "Margins.last_row" (nat_lit 919) (nat_lit 320) (nat_lit 2) (nat_lit 559) (nat_lit 924)
noncomputable def o565 (P : Params) : Obj := fN "last_row" "Margins.last_row" (fM (nat_lit 25) (nat_lit 13)) Value.none "termcore.cursor" (nat_lit 735) (nat_lit 564)
noncomputable def o571 (P : Params) : Obj := cO "first_column" "Margins.first_column" (nat_lit 927) (nat_lit 323) (nat_lit 2) (nat_lit 566) (nat_lit 932)
noncomputable def o572 (P : Params) : Obj := fN "first_column" "Margins.first_column" (fM (nat_lit 25) (nat_lit 14)) Value.none "termcore.cursor" (nat_lit 735) (nat_lit 571)
noncomputable def o578 (P : Params) : Obj := cO "last_column" "Margins.last_column" (nat_lit 935) (nat_lit 326) (nat_lit 2) (nat_lit 573) (nat_lit 940)
noncomputable def o579 (P : Params) : Obj := fN "last_column" "Margins.last_column" (fM (nat_lit 25) (nat_lit 15)) Value.none "termcore.cursor" (nat_lit 735) (nat_lit 578)
noncomputable def o588 (P : Params) : Obj := Obj.mk (Value.type "dict") none (Data.dict #[dE P "__module__" (nat_lit 808) (Value.str (Str.ofString "termcore.cursor") (nat_lit 735)), dE P "__firstlineno__" (nat_lit 812) (Value.int (Int.ofNat (nat_lit 266)) (nat_lit 811)), dE P "__init__" (nat_lit 821) (Value.ref (nat_lit 474)), dE P "set_rows" (nat_lit 831) (Value.ref (nat_lit 481)), dE P "set_columns" (nat_lit 841) (Value.ref (nat_lit 488)), dE P "clear_rows" (nat_lit 848) (Value.ref (nat_lit 495)), dE P "clear_columns" (nat_lit 855) (Value.ref (nat_lit 502)), dE P "resize" (nat_lit 864) (Value.ref (nat_lit 509)), dE P "area" (nat_lit 871) (Value.ref (nat_lit 516)), dE P "holds" (nat_lit 880) (Value.ref (nat_lit 523)), dE P "holds_row" (nat_lit 888) (Value.ref (nat_lit 530)), dE P "holds_column" (nat_lit 896) (Value.ref (nat_lit 537)), dE P "is_whole_width" (nat_lit 903) (Value.ref (nat_lit 544)), dE P "is_whole" (nat_lit 910) (Value.ref (nat_lit 551)), dE P "first_row" (nat_lit 918) (Value.ref (nat_lit 558)), dE P "last_row" (nat_lit 926) (Value.ref (nat_lit 565)), dE P "first_column" (nat_lit 934) (Value.ref (nat_lit 572)), dE P "last_column" (nat_lit 942) (Value.ref (nat_lit 579)), dE P "copy" (nat_lit 949) (Value.ref (nat_lit 586)), dE P "__static_attributes__" (nat_lit 956) (Value.ref (nat_lit 587)), dE P "__dict__" (nat_lit 958) (Value.ref (nat_lit 590)), dE P "__weakref__" (nat_lit 960) (Value.ref (nat_lit 591)), dE P "__doc__" (nat_lit 961) Value.none] (nat_lit 4)) #[]
noncomputable def o589 (P : Params) : Obj := Obj.mk (Value.type "type") none (Data.cls (ClassData.mk (Str.ofString "Margins") [Value.type "object"] [Value.ref (nat_lit 589), Value.type "object"] (nat_lit 588) (Str.ofString "Margins") true [] [] false none false)) #[none, none, some (Value.str (Str.ofString "Margins") (nat_lit 801)), some (Value.str (Str.ofString "Margins") (nat_lit 809)), some (Value.builtin "object.__new__"), some (Value.bool true)]
noncomputable def o599 (P : Params) : Obj := cO "moved" "moved" (nat_lit 964) (nat_lit 331) (nat_lit 4) (nat_lit 594) (nat_lit 973)
noncomputable def o600 (P : Params) : Obj := fN "moved" "moved" (fT (nat_lit 26)) Value.none "termcore.cursor" (nat_lit 735) (nat_lit 599)
noncomputable def o604 (P : Params) : Obj := Obj.mk (Value.type "code") none (Data.fields #[Value.str (Str.ofString "_law_deck") (nat_lit 978), Value.str (Str.ofString "_law_deck") (nat_lit 979), Value.str (Str.ofString "/claim/cut.py") (nat_lit 980), Value.int (Int.ofNat (nat_lit 336)) (nat_lit 0), Value.int (Int.ofNat (nat_lit 1)) (nat_lit 0), Value.int (Int.ofNat (nat_lit 0)) (nat_lit 0), Value.int (Int.ofNat (nat_lit 0)) (nat_lit 0), Value.int (Int.ofNat (nat_lit 3)) (nat_lit 0), Value.ref (nat_lit 601), Value.bool true, Value.int (Int.ofNat (nat_lit 181)) (nat_lit 0), Value.ref (nat_lit 602), Value.none, Value.none, Value.none, Value.ref (nat_lit 603), Value.int (Int.ofNat (nat_lit 981)) (nat_lit 0), Value.int (Int.ofNat (nat_lit 336)) (nat_lit 0), Value.str (Str.ofString "/claim/cut.py") (nat_lit 982)]) #[]
noncomputable def o605 (P : Params) : Obj := fN "_law_deck" "_law_deck" (fT (nat_lit 28)) Value.none "law_np0279_01" (nat_lit 976) (nat_lit 604)
noncomputable def o611 (P : Params) : Obj := cO "_law_draw" "_law_draw" (nat_lit 984) (nat_lit 341) (nat_lit 2) (nat_lit 606) (nat_lit 991)
noncomputable def o612 (P : Params) : Obj := fN "_law_draw" "_law_draw" (fT (nat_lit 29)) Value.none "law_np0279_01" (nat_lit 976) (nat_lit 611)
noncomputable def o618 (P : Params) : Obj := cO "_law_pick" "_law_pick" (nat_lit 994) (nat_lit 353) (nat_lit 2) (nat_lit 613) (nat_lit 999)
noncomputable def o619 (P : Params) : Obj := fN "_law_pick" "_law_pick" (fT (nat_lit 30)) Value.none "law_np0279_01" (nat_lit 976) (nat_lit 618)
noncomputable def o625 (P : Params) : Obj := cO "_law_pen" "_law_pen" (nat_lit 1002) (nat_lit 355) (nat_lit 1) (nat_lit 620) (nat_lit 1006)
noncomputable def o626 (P : Params) : Obj := fN "_law_pen" "_law_pen" (fT (nat_lit 31)) Value.none "law_np0279_01" (nat_lit 976) (nat_lit 625)
noncomputable def o632 (P : Params) : Obj := cO "_law_written" "_law_written" (nat_lit 1009) (nat_lit 357) (nat_lit 3) (nat_lit 627) (nat_lit 1023)
noncomputable def o633 (P : Params) : Obj := fN "_law_written" "_law_written" (fT (nat_lit 32)) Value.none "law_np0279_01" (nat_lit 976) (nat_lit 632)
noncomputable def o639 (P : Params) : Obj := cO "_law_cut" "_law_cut" (nat_lit 1026) (nat_lit 371) (nat_lit 2) (nat_lit 634) (nat_lit 1032)
noncomputable def o640 (P : Params) : Obj := fN "_law_cut" "_law_cut" (fT (nat_lit 33)) Value.none "law_np0279_01" (nat_lit 976) (nat_lit 639)
noncomputable def o644 (P : Params) : Obj := Obj.mk (Value.type "code") none (Data.fields #[Value.str (Str.ofString "_law_scrolled") (nat_lit 1035), Value.str (Str.ofString "_law_scrolled") (nat_lit 1036), Value.str (Str.ofString "/claim/cut.py") (nat_lit 1037), Value.int (Int.ofNat (nat_lit 376)) (nat_lit 0), Value.int (Int.ofNat (nat_lit 5)) (nat_lit 0), Value.int (Int.ofNat (nat_lit 0)) (nat_lit 0), Value.int (Int.ofNat (nat_lit 0)) (nat_lit 0), Value.int (Int.ofNat (nat_lit 3)) (nat_lit 0), Value.ref (nat_lit 641), Value.bool true, Value.int (Int.ofNat (nat_lit 181)) (nat_lit 0), Value.ref (nat_lit 642), Value.none, Value.none, Value.none, Value.ref (nat_lit 643), Value.int (Int.ofNat (nat_lit 1038)) (nat_lit 0), Value.int (Int.ofNat (nat_lit 376)) (nat_lit 0), Value.str (Str.ofString "/claim/cut.py") (nat_lit 1039)]) #[]
noncomputable def o645 (P : Params) : Obj := fN "_law_scrolled" "_law_scrolled" (fT (nat_lit 34)) Value.none "law_np0279_01" (nat_lit 976) (nat_lit 644)
noncomputable def o649 (P : Params) : Obj := Obj.mk (Value.type "code") none (Data.fields #[Value.str (Str.ofString "_law_told") (nat_lit 1041), Value.str (Str.ofString "_law_told") (nat_lit 1042), Value.str (Str.ofString "/claim/cut.py") (nat_lit 1043), Value.int (Int.ofNat (nat_lit 389)) (nat_lit 0), Value.int (Int.ofNat (nat_lit 1)) (nat_lit 0), Value.int (Int.ofNat (nat_lit 0)) (nat_lit 0), Value.int (Int.ofNat (nat_lit 0)) (nat_lit 0), Value.int (Int.ofNat (nat_lit 3)) (nat_lit 0), Value.ref (nat_lit 646), Value.bool true, Value.int (Int.ofNat (nat_lit 181)) (nat_lit 0), Value.ref (nat_lit 647), Value.none, Value.none, Value.none, Value.ref (nat_lit 648), Value.int (Int.ofNat (nat_lit 1044)) (nat_lit 0), Value.int (Int.ofNat (nat_lit 389)) (nat_lit 0), Value.str (Str.ofString "/claim/cut.py") (nat_lit 1045)]) #[]
noncomputable def o650 (P : Params) : Obj := fN "_law_told" "_law_told" (fT (nat_lit 35)) Value.none "law_np0279_01" (nat_lit 976) (nat_lit 649)
noncomputable def o656 (P : Params) : Obj := cO "_law_set" "_law_set" (nat_lit 1047) (nat_lit 391) (nat_lit 5) (nat_lit 651) (nat_lit 1065)
noncomputable def o657 (P : Params) : Obj := fN "_law_set" "_law_set" (fT (nat_lit 36)) Value.none "law_np0279_01" (nat_lit 976) (nat_lit 656)
noncomputable def o663 (P : Params) : Obj := cO "_law_steps_right" "_law_steps_right" (nat_lit 1068) (nat_lit 403) (nat_lit 5) (nat_lit 658) (nat_lit 1089)
noncomputable def o664 (P : Params) : Obj := fN "_law_steps_right" "_law_steps_right" (fT (nat_lit 37)) Value.none "law_np0279_01" (nat_lit 976) (nat_lit 663)
noncomputable def o668 (P : Params) : Obj := Obj.mk (Value.type "code") none (Data.fields #[Value.str (Str.ofString "law") (nat_lit 1092), Value.str (Str.ofString "law") (nat_lit 1093), Value.str (Str.ofString "/claim/cut.py") (nat_lit 1094), Value.int (Int.ofNat (nat_lit 414)) (nat_lit 0), Value.int (Int.ofNat (nat_lit 1)) (nat_lit 0), Value.int (Int.ofNat (nat_lit 0)) (nat_lit 0), Value.int (Int.ofNat (nat_lit 0)) (nat_lit 0), Value.int (Int.ofNat (nat_lit 3)) (nat_lit 0), Value.ref (nat_lit 665), Value.bool true, Value.int (Int.ofNat (nat_lit 181)) (nat_lit 0), Value.ref (nat_lit 666), Value.none, Value.none, Value.none, Value.ref (nat_lit 667), Value.int (Int.ofNat (nat_lit 1095)) (nat_lit 0), Value.int (Int.ofNat (nat_lit 414)) (nat_lit 0), Value.str (Str.ofString "/claim/cut.py") (nat_lit 1096)]) #[]
noncomputable def o669 (P : Params) : Obj := fN "law" "law" (fT (nat_lit 38)) Value.none "law_np0279_01" (nat_lit 976) (nat_lit 668)
noncomputable def KFr (P : Params) : Frag := [(nat_lit 2, o2 P), (nat_lit 3, o3 P), (nat_lit 22, o22 P), (nat_lit 39, o39 P), (nat_lit 40, o40 P), (nat_lit 52, o52 P), (nat_lit 53, o53 P), (nat_lit 61, o61 P), (nat_lit 62, o62 P), (nat_lit 68, o68 P), (nat_lit 69, o69 P), (nat_lit 75, o75 P), (nat_lit 76, o76 P), (nat_lit 84, o84 P), (nat_lit 90, o90 P), (nat_lit 91, o91 P), (nat_lit 97, o97 P), (nat_lit 98, o98 P), (nat_lit 104, o104 P), (nat_lit 105, o105 P), (nat_lit 132, o132 P), (nat_lit 133, o133 P), (nat_lit 154, o154 P), (nat_lit 155, o155 P), (nat_lit 161, o161 P), (nat_lit 162, o162 P), (nat_lit 170, o170 P), (nat_lit 176, o176 P), (nat_lit 177, o177 P), (nat_lit 243, o243 P), (nat_lit 244, o244 P), (nat_lit 259, o259 P), (nat_lit 260, o260 P), (nat_lit 266, o266 P), (nat_lit 267, o267 P), (nat_lit 280, o280 P), (nat_lit 281, o281 P), (nat_lit 285, o285 P), (nat_lit 286, o286 P), (nat_lit 292, o292 P), (nat_lit 293, o293 P), (nat_lit 299, o299 P), (nat_lit 300, o300 P), (nat_lit 306, o306 P), (nat_lit 307, o307 P), (nat_lit 313, o313 P), (nat_lit 314, o314 P), (nat_lit 334, o334 P), (nat_lit 335, o335 P), (nat_lit 341, o341 P), (nat_lit 342, o342 P), (nat_lit 343, o343 P), (nat_lit 349, o349 P), (nat_lit 350, o350 P), (nat_lit 392, o392 P), (nat_lit 393, o393 P), (nat_lit 403, o403 P), (nat_lit 404, o404 P), (nat_lit 410, o410 P), (nat_lit 411, o411 P), (nat_lit 424, o424 P), (nat_lit 425, o425 P), (nat_lit 438, o438 P), (nat_lit 439, o439 P), (nat_lit 445, o445 P), (nat_lit 446, o446 P), (nat_lit 455, o455 P), (nat_lit 456, o456 P), (nat_lit 473, o473 P), (nat_lit 474, o474 P), (nat_lit 480, o480 P), (nat_lit 481, o481 P), (nat_lit 487, o487 P), (nat_lit 488, o488 P), (nat_lit 515, o515 P), (nat_lit 516, o516 P), (nat_lit 522, o522 P), (nat_lit 523, o523 P), (nat_lit 529, o529 P), (nat_lit 530, o530 P), (nat_lit 536, o536 P), (nat_lit 537, o537 P), (nat_lit 557, o557 P), (nat_lit 558, o558 P), (nat_lit 564, o564 P), (nat_lit 565, o565 P), (nat_lit 571, o571 P), (nat_lit 572, o572 P), (nat_lit 578, o578 P), (nat_lit 579, o579 P), (nat_lit 588, o588 P), (nat_lit 589, o589 P), (nat_lit 599, o599 P), (nat_lit 600, o600 P), (nat_lit 604, o604 P), (nat_lit 605, o605 P), (nat_lit 611, o611 P), (nat_lit 612, o612 P), (nat_lit 618, o618 P), (nat_lit 619, o619 P), (nat_lit 625, o625 P), (nat_lit 626, o626 P), (nat_lit 632, o632 P), (nat_lit 633, o633 P), (nat_lit 639, o639 P), (nat_lit 640, o640 P), (nat_lit 644, o644 P), (nat_lit 645, o645 P), (nat_lit 649, o649 P), (nat_lit 650, o650 P), (nat_lit 656, o656 P), (nat_lit 657, o657 P), (nat_lit 663, o663 P), (nat_lit 664, o664 P), (nat_lit 668, o668 P), (nat_lit 669, o669 P)]
noncomputable def asK : List Addr := [(nat_lit 2), (nat_lit 3), (nat_lit 22), (nat_lit 39), (nat_lit 40), (nat_lit 52), (nat_lit 53), (nat_lit 61), (nat_lit 62), (nat_lit 68), (nat_lit 69), (nat_lit 75), (nat_lit 76), (nat_lit 84), (nat_lit 90), (nat_lit 91), (nat_lit 97), (nat_lit 98), (nat_lit 104), (nat_lit 105), (nat_lit 132), (nat_lit 133), (nat_lit 154), (nat_lit 155), (nat_lit 161), (nat_lit 162), (nat_lit 170), (nat_lit 176), (nat_lit 177), (nat_lit 243), (nat_lit 244), (nat_lit 259), (nat_lit 260), (nat_lit 266), (nat_lit 267), (nat_lit 280), (nat_lit 281), (nat_lit 285), (nat_lit 286), (nat_lit 292), (nat_lit 293), (nat_lit 299), (nat_lit 300), (nat_lit 306), (nat_lit 307), (nat_lit 313), (nat_lit 314), (nat_lit 334), (nat_lit 335), (nat_lit 341), (nat_lit 342), (nat_lit 343), (nat_lit 349), (nat_lit 350), (nat_lit 392), (nat_lit 393), (nat_lit 403), (nat_lit 404), (nat_lit 410), (nat_lit 411), (nat_lit 424), (nat_lit 425), (nat_lit 438), (nat_lit 439), (nat_lit 445), (nat_lit 446), (nat_lit 455), (nat_lit 456), (nat_lit 473), (nat_lit 474), (nat_lit 480), (nat_lit 481), (nat_lit 487), (nat_lit 488), (nat_lit 515), (nat_lit 516), (nat_lit 522), (nat_lit 523), (nat_lit 529), (nat_lit 530), (nat_lit 536), (nat_lit 537), (nat_lit 557), (nat_lit 558), (nat_lit 564), (nat_lit 565), (nat_lit 571), (nat_lit 572), (nat_lit 578), (nat_lit 579), (nat_lit 588), (nat_lit 589), (nat_lit 599), (nat_lit 600), (nat_lit 604), (nat_lit 605), (nat_lit 611), (nat_lit 612), (nat_lit 618), (nat_lit 619), (nat_lit 625), (nat_lit 626), (nat_lit 632), (nat_lit 633), (nat_lit 639), (nat_lit 640), (nat_lit 644), (nat_lit 645), (nat_lit 649), (nat_lit 650), (nat_lit 656), (nat_lit 657), (nat_lit 663), (nat_lit 664), (nat_lit 668), (nat_lit 669)]
theorem asK_eq (P : Params) : asK = (KFr P).map (·.1) := by kernel_rfl
end Mine
end
section
open PySem PySem.W PyProof.Rows
set_option maxRecDepth 1000000
set_option maxHeartbeats 0
set_option linter.unusedVariables false
namespace Mine
abbrev pw : Program := PySem.Challenge.rw_np0279_01.row.prog
abbrev rr : OpenLaw := PySem.Challenge.rw_np0279_01
/-! the row's own look, part by part -/
theorem sd2 : ((Fast.tw9807087744658564304 pw.main.body).isEmpty || Fast.tw12862048085361865435 (Fast.tw9807087744658564304 pw.main.body) pw.main.body) = true := by kernel_rfl
theorem sd3 : Fast.tw8377067652309620493 pw = true := by kernel_rfl
theorem sd4 : (PySem.W.R.allR (Fast.tw18344453789297297638 pw) fun n => !Fast.tw3471404346716756564 Fast.tw14412699480532031325 n) = true := by kernel_rfl
theorem sd5a : Fast.tw13343964577679436407 pw pw.main.body { cps := { toList := [118, 97, 114, 115] } } = false := by kernel_rfl
theorem sd5b : Fast.tw13343964577679436407 pw pw.main.body { cps := { toList := [100, 105, 114] } } = false := by kernel_rfl
theorem sd5c : Fast.tw13343964577679436407 pw pw.main.body { cps := { toList := [108, 111, 99, 97, 108, 115] } } = false := by kernel_rfl
theorem filterR_no {α : Type} {f : α → Bool} {a b c : α} (x : f a = false) (y : f b = false) (z : f c = false) : PySem.W.R.filterR f [a, b, c] = [] := by
  rw [← PySem.W.R.filterR_eq]
  simp [x, y, z]
theorem sd5d : Fast.tw8326940854005059898 { strict := !PySem.W.R.allR (Fast.tw5923862056798008813 pw.main.body) (Fast.tw3471404346716756564 Fast.tw17691160309236699985), foot := none, bare := [] } pw.main.body = true := by kernel_rfl
theorem sd6 : (Fast.tw17119622794617984870 pw pw.main.body fun x n => Fast.tw17868728402115742887 n) = true := by kernel_rfl
theorem sd1 : Fast.tw11788848310118352699 pw.main = true := by kernel_rfl
theorem sd5 : Fast.tw8326940854005059898 { strict := !PySem.W.R.allR (Fast.tw5923862056798008813 pw.main.body) (Fast.tw3471404346716756564 Fast.tw17691160309236699985), foot := none, bare := PySem.W.R.filterR (Fast.tw13343964577679436407 pw pw.main.body) [{ cps := { toList := [118, 97, 114, 115] } }, { cps := { toList := [100, 105, 114] } }, { cps := { toList := [108, 111, 99, 97, 108, 115] } }] } pw.main.body = true := by
  rw [filterR_no sd5a sd5b sd5c]
  exact sd5d
theorem sd7 : Fast.tw12908688711261696721 pw = true := look_both (look_both (look_both (look_both (look_both sd1 sd2) sd3) sd4) sd5) sd6
theorem sd8 : Fast.tw17960256430627541270 (Fast.tw2368527892694137696 rr) = true := by
  unfold Fast.tw17960256430627541270 Fast.tw2436336058641802641
  refine look_both (look_both (look_both (look_both (look_both (look_both (look_both (look_both (look_both (look_both (look_both (look_both (look_both (look_both (look_both sd7 ?_) ?_) ?_) ?_) ?_) ?_) ?_) ?_) ?_) ?_) ?_) ?_) ?_) ?_) ?_
  all_goals kernel_rfl
theorem sd9 : Fast.tw8179353310426384613 rr.prog rr.footing = true := by kernel_rfl
theorem sd10 : Fast.tw8326940854005059898 { strict := true, foot := some (Fast.tw797321630700447069 rr), writes := rr.writes, may := Fast.tw9572597257264208301 rr } rr.footing = true := by kernel_rfl
theorem said : PySem.Challenge.rw_np0279_01.wellSaid = true := by
  rw [Fast.te9446332074065402090]
  unfold Fast.tw9446332074065402090
  refine look_both (look_both (look_both (look_both (look_both (look_both (look_both (look_both (look_both (look_both (look_both (look_both (look_both (look_both (look_both (look_both (look_both (look_both sd8 ?_) ?_) sd9) ?_) ?_) sd10) ?_) ?_) ?_) ?_) ?_) ?_) ?_) ?_) ?_) ?_) ?_) ?_
  all_goals kernel_rfl
/-! the tables' look -/
theorem sdG : TablesWhole.wSs TablesWhole.gather pw.main.scope ⟨pw.main.scope, [], [], [], none⟩ pw.main.scope pw.main.body = [] := by
  kernel_rfl
theorem sdW : TablesWhole.wSs TablesWhole.holds pw.main.scope ⟨pw.main.scope, [], [], [], none⟩ pw.main.scope pw.main.body = true := by
  kernel_rfl
theorem sdT : pw.tablesWhole = true := by
  unfold Program.tablesWhole TablesWhole.wProgram TablesWhole.wModule
  dsimp only
  rw [sdG, sdW]
  kernel_rfl
end Mine
end
section
open PySem PySem.W PyProof.Rows
set_option maxRecDepth 1000000
set_option maxHeartbeats 0
namespace Mine
noncomputable def qv : Program := view pw [38]
noncomputable def lvT : List (Str × WData) := []
noncomputable def looseT : List Str := ["_wall", "NO_COLOUR", "PLAIN", "BACK", "TermError", "BadSize", "clamp", "erased_pen", "blank_cell", "is_blank", "LINE_SIZES", "line_blanks", "right_half", "line_part", "line_slice", "line_codes", "Line", "Grid", "grid_cut", "grid_mended", "Cursor", "Margins", "moved", "_law_deck", "_law_draw", "_law_pick", "_law_pen", "_law_written", "_law_cut", "_law_scrolled", "_law_told", "_law_set", "_law_steps_right"].map Str.ofString
theorem open_pw : ∀ w : World, (fencedOpening treeTable pw w 8180).map (fun s => (s.heap, s.gens, s.drawn, s.toks)) = some (boot_heap w.params, Array.mk [], boot_drawn, boot_toks) :=
  boot_open (by kernel_rfl) (by decide +kernel) fun s => by kernel_rfl
theorem leftK : LeftO pw qv looseT (fun s => xlAt qv lvT s && recOk PySem.Challenge.rw_np0279_01.row.records s) (Hook.obs (kHook KFr asK asK_eq)) (Hook.val (kHook KFr asK asK_eq)) 8180 := by
  refine left_of_tree (T₀ := bootT) (n₀ := 11) (m₀ := 11) (ann := some (.ref 6)) (life := {}) open_pw (fun w => by kernel_rfl) bootT_abs fun w => ?_
  rw [PySem.W.Fast.te10156331382660048174, PySem.W.Fast.te11892475500146522536, PySem.W.Fast.te14364793385576792824, PySem.W.Fast.te4187177175401517315]
  kernel_rfl
end Mine
end
section
open PySem PySem.W PyProof.Rows
set_option maxRecDepth 100000
set_option linter.unusedVariables false
namespace Mine
/-- the goal is hidden while a pattern is taken apart (its motives stay small) -/
theorem hide {C : Prop} (h : ∀ G : Prop, (C → G) → G) : C := h C id

/-! values without tokens; tuples by value -/
inductive V where
  | vN
  | vB (b : Bool)
  | vI (i : Int)
  | vS (s : Str)
  | vT (vs : List V)
  | vR (a : Addr)
  | vF (v : Value)
  deriving Inhabited

inductive AO where
  | lst (vs : List V)
  | ro (vs : List V)
  | inst (C dx : Addr)
  | attrs (fs : List (Str × V))
  | dict (fs : List (Str × V))

abbrev St := Addr → Option AO
noncomputable def put (S : St) (a : Addr) (o : AO) : St := fun x => if x = a then some o else S x
noncomputable def Fresh (S : St) (L : Addr) : Prop := ∀ a, L ≤ a → S a = none
noncomputable def LB : Nat := 4096

noncomputable def flat : Value → V
  | .int i _ => .vI i
  | .str s _ => .vS s
  | v => .vF v
noncomputable def gv (K : Frag) (v : Value) : V := match v with
  | .int i _ => .vI i
  | .ref a => match K.lookup a with
    | some ⟨.type n, none, .seq xs 0, sl⟩ => if n = "tuple" ∧ sl.toList = [] then .vT (xs.toList.map flat) else .vF v
    | _ => .vF v
  | v => .vF v
noncomputable def glob (K : Frag) (x : Str) : Option V := match nsIn K mainGlobals x with
  | some (some v) => some (gv K v)
  | some none => if x = "__name__" then none else (bootBuiltins x).map .vF
  | none => none
noncomputable def methOf (K : Frag) (C : Addr) (name : Str) : Option Addr :=
  if plainGet K C name then (match findIn K (.ref C) name with
    | some (some (.ref f)) => if isFn K (.ref f) && keepIn K (.ref f) then some f else none
    | _ => none) else none
noncomputable def keepOk (K : Frag) (g : Value) : Bool := match g with
  | .ref _ => keepIn K g
  | .type _ => true
  | .builtin _ => true
  | _ => false
noncomputable def dataOk (K : Frag) (C : Addr) (name : Str) : Bool := plainGet K C name && hasDictIn K C && findIn K (.ref C) name == some none
noncomputable def setOk (K : Frag) (C : Addr) (name : Str) : Bool :=
  findIn K (.ref C) "__setattr__" == some (some (.builtin "object.__setattr__")) && plainOver K C && takerIn K C name == some none && hasDictIn K C
noncomputable def fnData (K : Frag) (f : Addr) : Option FuncData := match K.lookup f with
  | some ⟨_, _, .func fd, _⟩ => some fd
  | _ => none

noncomputable def initOf (K : Frag) (C : Addr) : Option Addr :=
  if makesIn K C then (match findIn K (.ref C) "__init__" with
    | some (some (.ref f)) => if isFn K (.ref f) && (fnData K f).isSome then some f else none
    | _ => none) else none
abbrev Kd := List (Str × NameKind)
abbrev MM := Str → Option V
noncomputable def setM (m : MM) (x : Str) (v : V) : MM := fun y => if y = x then some v else m y

noncomputable def nameV (K : Frag) (kd : Kd) (m : MM) (x : Str) : Option V := match kd.lookup x with
  | some .local => m x
  | some .cell => m x
  | some .globalImplicit => glob K x
  | _ => none

noncomputable def lstOf (S : St) (a : Addr) : Option (List V) := match S a with
  | some (.lst vs) => some vs
  | some (.ro vs) => some vs
  | _ => none

noncomputable def truth (S : St) : V → Option Bool
  | .vB b => some b
  | .vN => some false
  | .vI i => some (i != 0)
  | .vR a => (lstOf S a).map fun vs => !vs.isEmpty
  | _ => none

noncomputable def repL (k : Nat) (vs : List V) : List V := (List.replicate k vs).flatten

noncomputable def binop (op : Operator) (a b : V) (S : St) (Q : V → St → Prop) : Prop := match op, a, b with
  | .Add, .vI i, .vI j => Q (.vI (i + j)) S
  | .Sub, .vI i, .vI j => Q (.vI (i - j)) S
  | .Mult, .vI i, .vI j => IntMulOk i j ∧ Q (.vI (i * j)) S
  | .FloorDiv, .vI i, .vI j => j ≠ 0 ∧ Builtin.divisionGoesByPylong i j = false ∧ Q (.vI (i.fdiv j)) S
  | .Mod, .vI i, .vI j => j ≠ 0 ∧ Q (.vI (i.fmod j)) S
  | .Add, .vR x, .vR y => ∃ vs ws, lstOf S x = some vs ∧ lstOf S y = some ws ∧ (vs ++ ws).length ≤ LB ∧ ∀ r, Fresh S r → Q (.vR r) (put S r (.lst (vs ++ ws)))
  | .Mult, .vR x, .vI k => ∃ vs, lstOf S x = some vs ∧ (repL k.toNat vs).length ≤ LB ∧ -1000 ≤ k ∧ k ≤ 1000 ∧ ∀ r, Fresh S r → Q (.vR r) (put S r (.lst (repL k.toNat vs)))
  | _, _, _ => False

abbrev tupObj (ws : List Value) (n : Nat) : Obj := { cls := .type "tuple", dict := none, data := .seq ws.toArray n, slots := #[] }
abbrev lstObj (ws : List Value) (n : Nat) : Obj := { cls := .type "list", dict := none, data := .seq ws.toArray n, slots := #[] }
mutual
noncomputable def RV (h : Heap) : V → Value → Prop
  | .vN, w => w = .none
  | .vB b, w => w = .bool b
  | .vI i, w => ∃ t, w = .int i t
  | .vS s, w => ∃ t, w = .str s t
  | .vT vs, w => ∃ a n ws, w = .ref a ∧ h.get? a = some (tupObj ws n) ∧ RVs h vs ws
  | .vR a, w => w = .ref a
  | .vF v, w => w = v
noncomputable def RVs (h : Heap) : List V → List Value → Prop
  | [], ws => ws = []
  | v :: vs, ws => ∃ w r, ws = w :: r ∧ RV h v w ∧ RVs h vs r
end
noncomputable def RBs (h : Heap) : List (Str × V) → List (Str × Value) → Prop
  | [], ws => ws = []
  | (x, v) :: vs, ws => ∃ w r, ws = (x, w) :: r ∧ RV h v w ∧ RBs h vs r
theorem RVs.length {h : Heap} : ∀ {vs : List V} {ws : List Value}, RVs h vs ws → ws.length = vs.length
  | [], _, e => by simp only [RVs] at e; subst e; rfl
  | v :: vs, _, e => by
    simp only [RVs] at e
    obtain ⟨w, r, rfl, _, hr⟩ := e
    simp [RVs.length hr]
theorem RBs.zip {h : Heap} : ∀ {xs : List Str} {vs : List V} {ws : List Value}, vs.length = xs.length → RVs h vs ws → RBs h (xs.zip vs) (xs.zip ws)
  | [], [], _, _, e => by simp only [RVs] at e; subst e; rfl
  | x :: xs, v :: vs, _, hl, e => by
    simp only [RVs] at e
    obtain ⟨w, r, rfl, hw, hr⟩ := e
    exact ⟨w, _, rfl, hw, RBs.zip (by simpa using hl) hr⟩
/-- how the arguments are bound -/
noncomputable def BindsV (K : Frag) (fd : FuncData) (vs : List V) (bv : List (Str × V)) : Prop :=
  ∀ (s : Shared) (ws : List Value), K.In s.heap → RVs s.heap vs ws → ∃ bw, BindsTo s fd ⟨ws, []⟩ bw ∧ RBs s.heap bv bw
theorem bindsV_of {K : Frag} {fd : FuncData} {vs : List V} (xs : List Str) (hl : vs.length = xs.length)
    (h : ∀ ws : List Value, ws.length = xs.length → bindArgs fd ⟨ws, []⟩ = pure (xs.zip ws)) : BindsV K fd vs (xs.zip vs) := fun s ws _ r =>
  ⟨_, BindsTo.of_eq (h ws (r.length.trans hl)), RBs.zip hl r⟩

/-- plain data of the language's == -/
inductive PD (S : St) : V → PyData → Prop
  | none : PD S .vN .none
  | bool (b : Bool) : PD S (.vB b) (.bool b)
  | int (i : Int) : PD S (.vI i) (.int i)
  | tupN : PD S (.vT []) (.tuple [])
  | tupC {v vs d ds} : PD S v d → PD S (.vT vs) (.tuple ds) → PD S (.vT (v :: vs)) (.tuple (d :: ds))
  | lst {a vs ds} : lstOf S a = some vs → PD S (.vT vs) (.tuple ds) → PD S (.vR a) (.list ds)

noncomputable def wCmp (op : CmpOp) (a b : V) (S : St) (k : Bool → Prop) : Prop := match op, a, b with
  | .Lt, .vI i, .vI j => k (decide (i < j))
  | .LtE, .vI i, .vI j => k (decide (i ≤ j))
  | .Gt, .vI i, .vI j => k (decide (j < i))
  | .GtE, .vI i, .vI j => k (decide (j ≤ i))
  | .Eq, .vI i, .vI j => k (decide (i = j))
  | .NotEq, .vI i, .vI j => k (!decide (i = j))
  | .Is, .vB x, .vB y => k (x == y)
  | .IsNot, .vB x, .vB y => k (!(x == y))
  | .Is, .vN, .vN => k true
  | .Is, .vT _, .vN => k false
  | .Eq, .vT x, .vT y => ∃ d e, PD S (.vT x) d ∧ PD S (.vT y) e ∧ SeqAt.shaped d = true ∧ SeqAt.shaped e = true ∧ k (PyData.eqv d e)
  | .NotEq, .vT x, .vT y => ∃ d e, PD S (.vT x) d ∧ PD S (.vT y) e ∧ SeqAt.shaped d = true ∧ SeqAt.shaped e = true ∧ k (!PyData.eqv d e)
  | .Eq, .vR x, .vR y => ∃ d e, PD S (.vR x) d ∧ PD S (.vR y) e ∧ SeqAt.shaped d = true ∧ SeqAt.shaped e = true ∧ k (PyData.eqv d e)
  | .NotEq, .vR x, .vR y => ∃ d e, PD S (.vR x) d ∧ PD S (.vR y) e ∧ SeqAt.shaped d = true ∧ SeqAt.shaped e = true ∧ k (!PyData.eqv d e)
  | _, _, _ => False

noncomputable def clip (n : Nat) (i : Int) : Nat := (max 0 (min (if i < 0 then i + n else i) n)).toNat
noncomputable def sliceL (vs : List V) (lo hi : Option Int) : List V :=
  let a := lo.elim 0 (clip vs.length)
  let b := hi.elim vs.length (clip vs.length)
  (vs.drop a).take (b - a)

noncomputable def itemL (vs : List V) (i : Int) : Option V :=
  if 0 ≤ i then vs[i.toNat]? else if -(vs.length : Int) ≤ i then vs[(i + vs.length).toNat]? else none

noncomputable def item (S : St) (o i : V) (k : V → Prop) : Prop := match o, i with
  | .vT vs, .vI j => 0 ≤ j ∧ j ≤ 1000 ∧ ∃ v, vs[j.toNat]? = some v ∧ k v
  | .vR a, .vI j => ∃ vs v, lstOf S a = some vs ∧ itemL vs j = some v ∧ k v
  | .vR a, .vS s => ∃ fs v, S a = some (.dict fs) ∧ fs.lookup s = some v ∧ k v
  | _, _ => False

noncomputable def putF (fs : List (Str × V)) (x : Str) (v : V) : List (Str × V) := match fs with
  | [] => [(x, v)]
  | (y, w) :: r => if y = x then (y, v) :: r else (y, w) :: putF r x v

noncomputable def setIx (n : Nat) (j : Int) : Option Nat := if 0 ≤ j then (if j < n then some j.toNat else none) else if -(n : Int) ≤ j then some (j + n).toNat else none
noncomputable def setItemV (S : St) (o i v : V) (k : St → Prop) : Prop := match o, i with
  | .vR a, .vI j => ∃ vs i, S a = some (.lst vs) ∧ setIx vs.length j = some i ∧ k (put S a (.lst (vs.set i v)))
  | .vR a, .vS s => ∃ fs, S a = some (.dict fs) ∧ (fs.lookup s).isSome = true ∧ k (put S a (.dict (putF fs s v)))
  | _, _ => False

noncomputable def noF : V → Bool
  | .vF _ => false
  | _ => true
noncomputable def getA (K : Frag) (S : St) (o : V) (name : Str) (k : V → Prop) : Prop := match o with
  | .vR a => ∃ C dx fs v, S a = some (.inst C dx) ∧ S dx = some (.attrs fs) ∧ dataOk K C name = true ∧ fs.lookup name = some v ∧ noF v = true ∧ k v
  | _ => False
noncomputable def setA (K : Frag) (S : St) (o : V) (name : Str) (v : V) (k : St → Prop) : Prop := match o with
  | .vR a => ∃ C dx fs, S a = some (.inst C dx) ∧ S dx = some (.attrs fs) ∧ setOk K C name = true ∧ (putF fs name v).length ≤ 100 ∧ k (put S dx (.attrs (putF fs name v)))
  | _ => False

noncomputable def listMethOk (name : Str) : Bool := decide (name = "append") || decide (name = "pop")
noncomputable def listMeth (name : Str) (a : Addr) (vs : List V) (S : St) (Q : V → St → Prop) : Prop :=
  if name = "append" then (match vs with
    | [v] => ∃ xs, S a = some (.lst xs) ∧ xs.length + 1 ≤ LB ∧ Q .vN (put S a (.lst (xs ++ [v])))
    | _ => False)
  else if name = "pop" then (match vs with
    | [] => ∃ xs y, S a = some (.lst (xs ++ [y])) ∧ Q y (put S a (.lst xs))
    | _ => False)
  else False

noncomputable def builtinW (g : Value) (vs : List V) (S : St) (Q : V → St → Prop) : Prop :=
  if g = .builtin "len" then (match vs with
    | [.vR a] => ∃ xs, lstOf S a = some xs ∧ Q (.vI xs.length) S
    | _ => False)
  else if g = .builtin "max" then (match vs with
    | [.vI a, .vI b] => Q (.vI (max a b)) S
    | _ => False)
  else if g = .builtin "min" then (match vs with
    | [.vI a, .vI b] => Q (.vI (min a b)) S
    | _ => False)
  else if g = .type "list" then (match vs with
    | [.vR a] => ∃ xs, lstOf S a = some xs ∧ ∀ r, Fresh S r → Q (.vR r) (put S r (.lst xs))
    | _ => False)
  else if g = .type "int" then (match vs with
    | [.vI a] => Q (.vI a) S
    | _ => False)
  else if g = .type "tuple" then (match vs with
    | [.vT xs] => Q (.vT xs) S
    | _ => False)
  else False

inductive Fl where
  | next | brk | cont
  | ret (v : V)

inductive Itr where
  | rng (ks : List Int)
  | lst (a : Addr) (vs : List V)
  | enm (a : Addr) (vs : List V)
  | tup (vs : List V)

noncomputable def itItems : Itr → List V
  | .rng ks => ks.map .vI
  | .lst _ vs => vs
  | .enm _ vs => vs.zipIdx.map fun p => .vT [.vI (p.2 : Nat), p.1]
  | .tup vs => vs
noncomputable def itChk : Itr → St → Prop
  | .lst a vs, S => lstOf S a = some vs
  | .enm a vs, S => lstOf S a = some vs
  | _, _ => True
noncomputable def compIt : Itr → Bool
  | .rng _ => true
  | .lst _ _ => true
  | _ => false
noncomputable def notEnm : Itr → Bool
  | .enm _ _ => false
  | _ => true
noncomputable def upInts (a b : Int) : List Int := (List.range (b - a).toNat).map fun (k : Nat) => a + (k : Int)
noncomputable def downInts (a b : Int) : List Int := (List.range (a - b).toNat).map fun (k : Nat) => a - (k : Int)

noncomputable def rangeW (vs : List V) (k : List Int → Prop) : Prop := match vs with
  | [.vI b] => -1000000 ≤ b ∧ b ≤ 1000000 ∧ k (upInts 0 b)
  | [.vI a, .vI b] => -1000000 ≤ a ∧ a ≤ 1000000 ∧ -1000000 ≤ b ∧ b ≤ 1000000 ∧ k (upInts a b)
  | [.vI a, .vI b, .vI c] => c = -1 ∧ -1000000 ≤ a ∧ a ≤ 1000000 ∧ -1000000 ≤ b ∧ b ≤ 1000000 ∧ k (downInts a b)
  | _ => False

noncomputable def notSuper (o : Expr) : Bool := match o with
  | .Call (.Name _ _) _ _ _ => false
  | _ => true
noncomputable def plainE (e : Expr) : Bool := match e with
  | .Starred _ _ => false
  | .Set _ _ _ => false
  | .Slice _ _ _ _ => false
  | _ => true

noncomputable def loopW {α : Type} (chk : St → Prop) (turn : α → MM → St → (Fl → MM → St → Prop) → Prop) : List α → MM → St → (Fl → MM → St → Prop) → Prop
  | [], m, S, Q => chk S ∧ Q .next m S
  | x :: xs, m, S, Q => chk S ∧ turn x m S fun f m' S' => match f with
    | .next => loopW chk turn xs m' S' Q
    | .cont => loopW chk turn xs m' S' Q
    | .brk => Q .next m' S'
    | .ret v => Q (.ret v) m' S'

noncomputable def compW {α : Type} (chk : St → Prop) (turn : α → St → (V → St → Prop) → Prop) : List α → List V → St → (List V → St → Prop) → Prop
  | [], acc, S, Q => chk S ∧ Q acc S
  | x :: xs, acc, S, Q => chk S ∧ turn x S fun v S' => acc.length + 1 ≤ LB ∧ compW chk turn xs (acc ++ [v]) S' Q

noncomputable def whileW (test : MM → St → (Bool → St → Prop) → Prop) (body : MM → St → (Fl → MM → St → Prop) → Prop) : Nat → MM → St → (Fl → MM → St → Prop) → Prop
  | 0, _, _, _ => False
  | k + 1, m, S, Q => test m S fun b S1 => if b = true then body m S1 (fun f m' S' => match f with
      | .next => whileW test body k m' S' Q
      | .cont => whileW test body k m' S' Q
      | .brk => Q .next m' S'
      | .ret v => Q (.ret v) m' S') else Q .next m S1

/-- the kinds of names inside a comprehension -/
noncomputable def compKd (kd : Kd) (scope : Scope) : Kd :=
  scope.names.map fun x => if x.2 = .free ∧ kd.lookup x.1 = some .cell then (x.1, .cell) else x
noncomputable def compOk (kd : Kd) (scope : Scope) (x : Str) : Bool :=
  scope.kind == .function && scope.names.all (fun y => y.2 != .cell) && decide (scope.names.map (·.1)).Nodup &&
  scope.names.all (fun y => y.2 != .free || kd.lookup y.1 == some .cell) && scope.names.lookup x == some .local
noncomputable def compM (kd : Kd) (scope : Scope) (m : MM) : MM := fun y => if (compKd kd scope).lookup y = some .cell then m y else none

noncomputable def isStr (x : Str) (s : String) : Bool := decide (x = Str.ofString s)

noncomputable def MC (K : Frag) (call : Value → List V → St → (V → St → Prop) → Prop) (name : Str) (args : St → (List V → St → Prop) → Prop) (ov : V) (S1 : St) (Q : V → St → Prop) : Prop :=
  ∃ a, ov = .vR a ∧ match S1 a with
          | some (.inst C dx) => ∃ fs f, S1 dx = some (.attrs fs) ∧ fs.lookup name = none ∧ methOf K C name = some f ∧ args S1 fun vs S2 => call (.ref f) (ov :: vs) S2 Q
          | some (.lst _) => listMethOk name = true ∧ args S1 fun vs S2 => listMeth name a vs S2 Q
          | _ => False
theorem MC.inst {K : Frag} {call : Value → List V → St → (V → St → Prop) → Prop} {name : Str} {args : St → (List V → St → Prop) → Prop} {S1 : St} {Q : V → St → Prop} {a C dx f : Addr} {fs : List (Str × V)}
    (h1 : S1 a = some (.inst C dx)) (h2 : S1 dx = some (.attrs fs)) (h4 : methOf K C name = some f) (h3 : fs.lookup name = none) (h : args S1 fun vs S2 => call (.ref f) (.vR a :: vs) S2 Q) : MC K call name args (.vR a) S1 Q := by
  refine ⟨a, rfl, ?_⟩
  rw [h1]; exact ⟨fs, f, h2, h3, h4, h⟩
theorem MC.lst {K : Frag} {call : Value → List V → St → (V → St → Prop) → Prop} {name : Str} {args : St → (List V → St → Prop) → Prop} {S1 : St} {Q : V → St → Prop} {a : Addr} {vs : List V}
    (h1 : S1 a = some (.lst vs)) (h3 : listMethOk name = true) (h : args S1 fun vs S2 => listMeth name a vs S2 Q) : MC K call name args (.vR a) S1 Q := by
  refine ⟨a, rfl, ?_⟩
  rw [h1]; exact ⟨h3, h⟩
noncomputable def JOIN {α : Type} (T : α → St → Prop) (F : (α → St → Prop) → Prop) : Prop := F T
section
variable (K : Frag) (call : Value → List V → St → (V → St → Prop) → Prop)

mutual
noncomputable def wE : Nat → Kd → MM → Expr → St → (V → St → Prop) → Prop
  | 0, _, _, _, _, _ => False
  | n + 1, kd, m, e, S, Q => match e with
    | .Constant .none _ _ => Q .vN S
    | .Constant (.bool b) _ _ => Q (.vB b) S
    | .Constant (.int i) _ _ => Q (.vI i) S
    | .Constant (.str s) _ _ => Q (.vS s) S
    | .Name x _ => (x == ("__debug__" : Str)) = false ∧ ∃ v, nameV K kd m x = some v ∧ Q v S
    | .BinOp l op r _ => wE n kd m l S fun a S1 => wE n kd m r S1 fun b S2 => binop op a b S2 Q
    | .UnaryOp .USub x _ => wE n kd m x S fun v S1 => ∃ i, v = .vI i ∧ Q (.vI (-i)) S1
    | .IfExp t b o _ => JOIN Q fun R => wT n kd m t S fun c S1 => if c = true then wE n kd m b S1 R else wE n kd m o S1 R
    | .BoolOp op es _ => JOIN Q fun R => wBool n kd m op es S R
    | .Compare l ops cs _ => cs.all plainE = true ∧ wE n kd m l S fun a S1 => wChain n kd m a ops cs S1 fun b => Q (.vB b)
    | .Call (.Attribute o name apos) args [] pos => (notSuper o && apos.endLine == pos.line && decide (args.length < 20) && args.all plainE) = true ∧
        wE n kd m o S fun ov S1 => MC K call name (fun S' k' => wEs n kd m args S' k') ov S1 Q
    | .Call (.Name f p) args [] _ => (decide (args.length < 20) && args.all plainE) = true ∧ wE n kd m (.Name f p) S fun fv S1 => ∃ g, fv = .vF g ∧ keepOk K g = true ∧ wEs n kd m args S1 fun vs S2 => call g vs S2 Q
    | .Attribute o name _ => notSuper o = true ∧ wE n kd m o S fun ov S1 => getA K S1 ov name fun v => Q v S1
    | .Subscript o (.Slice none none (some st) _) _ => wE n kd m o S fun ov S1 => wE n kd m st S1 fun sv S2 => sv = .vI (-1) ∧ ∃ a vs, ov = .vR a ∧ lstOf S2 a = some vs ∧
        ∀ r, Fresh S2 r → Q (.vR r) (put S2 r (.lst vs.reverse))
    | .Subscript o (.Slice lo hi none _) _ => wE n kd m o S fun ov S1 => wOpt n kd m lo S1 fun l S2 => wOpt n kd m hi S2 fun h S3 => ∃ a vs, ov = .vR a ∧ lstOf S3 a = some vs ∧
        ∀ r, Fresh S3 r → Q (.vR r) (put S3 r (.lst (sliceL vs l h)))
    | .Subscript o i _ => plainE i = true ∧ wE n kd m o S fun ov S1 => wE n kd m i S1 fun iv S2 => item S2 ov iv fun v => Q v S2
    | .Tuple es _ _ => es.length ≤ 100 ∧ wEs n kd m es S fun vs S1 => Q (.vT vs) S1
    | .List es _ => es.length ≤ 100 ∧ wEs n kd m es S fun vs S1 => ∀ r, Fresh S1 r → Q (.vR r) (put S1 r (.lst vs))
    | .Dict ks es _ => (ks.all (·.isSome) && decide (ks.length = es.length) && decide (0 < ks.length) && decide (ks.length ≤ 15)) = true ∧ wDict n kd m ks es S fun fs S1 =>
        (fs.map (·.1)).Nodup ∧ ∀ r, Fresh S r → S1 r = none → Q (.vR r) (put S1 r (.dict fs))
    | .ListComp elt [⟨.Name x _, iter, [], 0⟩] scope _ => compOk kd scope x = true ∧ wIter n kd m iter S fun it S1 => compIt it = true ∧
        compW (itChk it) (fun v S' Q' => wE n (compKd kd scope) (setM (compM kd scope m) x v) elt S' Q') (itItems it) [] S1 fun acc S' =>
            ∀ r, Fresh S1 r → S' r = none → Q (.vR r) (put S' r (.lst acc))
    | _ => False

noncomputable def wT : Nat → Kd → MM → Expr → St → (Bool → St → Prop) → Prop
  | 0, _, _, _, _, _ => False
  | n + 1, kd, m, e, S, k => match e with
    | .UnaryOp .Not x _ => wT n kd m x S fun b S1 => k (!b) S1
    | .BoolOp op es _ => wAll n kd m op es S k
    | .IfExp _ _ _ _ => False
    | .Compare l ops cs _ => cs.all plainE = true ∧ wE n kd m l S fun a S1 => wChain n kd m a ops cs S1 k
    | e => wE n kd m e S fun v S1 => ∃ b, truth S1 v = some b ∧ k b S1

noncomputable def wAll : Nat → Kd → MM → BoolOp → List Expr → St → (Bool → St → Prop) → Prop
  | 0, _, _, _, _, _, _ => False
  | n + 1, kd, m, .And, [], S, k => k true S
  | n + 1, kd, m, .Or, [], S, k => k false S
  | n + 1, kd, m, .And, e :: es, S, k => wT n kd m e S fun b S1 => if b = true then wAll n kd m .And es S1 k else k false S1
  | n + 1, kd, m, .Or, e :: es, S, k => wT n kd m e S fun b S1 => if b = true then k true S1 else wAll n kd m .Or es S1 k

noncomputable def wBool : Nat → Kd → MM → BoolOp → List Expr → St → (V → St → Prop) → Prop
  | 0, _, _, _, _, _, _ => False
  | n + 1, kd, m, op, [], S, Q => False
  | n + 1, kd, m, op, [e], S, Q => wE n kd m e S Q
  | n + 1, kd, m, .And, e :: es, S, Q => wE n kd m e S fun v S1 => ∃ b, truth S1 v = some b ∧ if b = true then wBool n kd m .And es S1 Q else Q v S1
  | n + 1, kd, m, .Or, e :: es, S, Q => wE n kd m e S fun v S1 => ∃ b, truth S1 v = some b ∧ if b = true then Q v S1 else wBool n kd m .Or es S1 Q

noncomputable def wChain : Nat → Kd → MM → V → List CmpOp → List Expr → St → (Bool → St → Prop) → Prop
  | 0, _, _, _, _, _, _, _ => False
  | n + 1, kd, m, a, [op], [c], S, k => wE n kd m c S fun b S1 => wCmp op a b S1 fun r => k r S1
  | n + 1, kd, m, a, op :: op2 :: ops, c :: c2 :: cs, S, k => wE n kd m c S fun b S1 => wCmp op a b S1 fun r => if r = true then wChain n kd m b (op2 :: ops) (c2 :: cs) S1 k else k false S1
  | _, _, _, _, _, _, _, _ => False

noncomputable def wEs : Nat → Kd → MM → List Expr → St → (List V → St → Prop) → Prop
  | 0, _, _, _, _, _ => False
  | n + 1, kd, m, [], S, k => k [] S
  | n + 1, kd, m, e :: es, S, k => plainE e = true ∧ wE n kd m e S fun v S1 => wEs n kd m es S1 fun vs S2 => k (v :: vs) S2

noncomputable def wOpt : Nat → Kd → MM → Option Expr → St → (Option Int → St → Prop) → Prop
  | 0, _, _, _, _, _ => False
  | n + 1, kd, m, none, S, k => k none S
  | n + 1, kd, m, some e, S, k => wE n kd m e S fun v S1 => ∃ i, v = .vI i ∧ k (some i) S1

noncomputable def wDict : Nat → Kd → MM → List (Option Expr) → List Expr → St → (List (Str × V) → St → Prop) → Prop
  | 0, _, _, _, _, _, _ => False
  | n + 1, kd, m, [], [], S, k => k [] S
  | n + 1, kd, m, some e :: ks, v :: vs, S, k => wE n kd m e S fun kv S1 => ∃ s, kv = .vS s ∧ wE n kd m v S1 fun w S2 => wDict n kd m ks vs S2 fun fs S3 => k ((s, w) :: fs) S3
  | _, _, _, _, _, _, _ => False

noncomputable def wIter : Nat → Kd → MM → Expr → St → (Itr → St → Prop) → Prop
  | 0, _, _, _, _, _ => False
  | n + 1, kd, m, e, S, k => match e with
    | .Call (.Name f p) [a] [] _ =>
        if isStr f "enumerate" = true then nameV K kd m f = some (.vF (.type "enumerate")) ∧ wEs n kd m [a] S fun vs S1 => ∃ l xs, vs = [.vR l] ∧ lstOf S1 l = some xs ∧ k (.enm l xs) S1
        else if isStr f "range" = true then nameV K kd m f = some (.vF (.type "range")) ∧ wEs n kd m [a] S fun vs S1 => rangeW vs fun ks => k (.rng ks) S1
        else False
    | .Call (.Name f p) args [] _ =>
        isStr f "range" = true ∧ args.all plainE = true ∧ nameV K kd m f = some (.vF (.type "range")) ∧ wEs n kd m args S fun vs S1 => rangeW vs fun ks => k (.rng ks) S1
    | e => plainE e = true ∧ wE n kd m e S fun v S1 => match v with
      | .vR a => ∃ xs, lstOf S1 a = some xs ∧ k (.lst a xs) S1
      | .vT vs => k (.tup vs) S1
      | _ => False
end
noncomputable def bindOk (kd : Kd) (x : Str) : Bool := kd.lookup x == some .local || kd.lookup x == some .cell
noncomputable def namesOf : List Expr → Option (List Str)
  | [] => some []
  | .Name x _ :: r => (namesOf r).map (x :: ·)
  | _ => none
noncomputable def setMs (m : MM) : List Str → List V → MM
  | x :: xs, v :: vs => setMs (setM m x v) xs vs
  | _, _ => m

/-- a store into one target -/
noncomputable def wAsg (n : Nat) (kd : Kd) (m : MM) (t : Expr) (v : V) (S : St) (k : MM → St → Prop) : Prop := match t with
  | .Name x _ => bindOk kd x = true ∧ k (setM m x v) S
  | .Tuple ts _ _ => ∃ xs, namesOf ts = some xs ∧ xs.Nodup ∧ xs.all (bindOk kd) = true ∧ ∃ vs, v = .vT vs ∧ vs.length = xs.length ∧ k (setMs m xs vs) S
  | .Attribute o name _ => wE K call n kd m o S fun ov S1 => setA K S1 ov name v fun S2 => k m S2
  | .Subscript o i _ => plainE i = true ∧ wE K call n kd m o S fun ov S1 => wE K call n kd m i S1 fun iv S2 => setItemV S2 ov iv v fun S3 => k m S3
  | _ => False

noncomputable def tupleOk (t v : Expr) : Bool := match t, v with
  | .Tuple ts _ _, .Tuple vs _ _ => (namesOf ts).isSome && !(vs.all (constantsAlone 8))
  | .List _ _, _ => false
  | _, _ => true
noncomputable def twoOf (o : Option (List Str)) : Option (Str × Str) := match o with
  | some [x, y] => some (x, y)
  | _ => none
theorem twoOf_ok {o : Option (List Str)} {x y : Str} (h : twoOf o = some (x, y)) : o = some [x, y] := by
  cases o with
  | none => cases h
  | some l => cases l with
    | nil => cases h
    | cons a l => cases l with
      | nil => cases h
      | cons b l => cases l with
        | nil => cases h; rfl
        | cons _ _ => cases h
noncomputable def tgtOk (kd : Kd) (t : Expr) (itr : Itr) : Bool := match t with
  | .Name x _ => bindOk kd x && notEnm itr
  | .Tuple ts _ _ => match twoOf (namesOf ts) with
    | some (x, y) => bindOk kd x && bindOk kd y && decide (x ≠ y) && !(notEnm itr)
    | none => false
  | _ => false
noncomputable def bindT (t : Expr) (v : V) (m : MM) (k : MM → Prop) : Prop := match t with
  | .Name x _ => k (setM m x v)
  | .Tuple ts _ _ => match twoOf (namesOf ts) with
    | some (x, y) => match v with
      | .vT [a, b] => k (setM (setM m x a) y b)
      | _ => False
    | none => False
  | _ => False
noncomputable def isCall (e : Expr) : Bool := match e with
  | .Call _ _ _ _ => true
  | _ => false

mutual
noncomputable def wX : Nat → Kd → MM → Stmt → St → (Fl → MM → St → Prop) → Prop
  | 0, _, _, _, _, _ => False
  | n + 1, kd, m, s, S, Q => match s with
    | .Expr e _ => isCall e = true ∧ wE K call n kd m e S fun v S1 => v = .vN ∧ Q .next m S1
    | .Return (some e) _ => wE K call n kd m e S fun v S1 => Q (.ret v) m S1
    | .Return none _ => Q (.ret .vN) m S
    | .Assign [t] v _ => tupleOk t v = true ∧ wE K call n kd m v S fun r S1 => wAsg K call n kd m t r S1 fun m' S2 => Q .next m' S2
    | .If t b o _ => wT K call n kd m t S fun c S1 => if c = true then wXs n kd m b S1 Q else wXs n kd m o S1 Q
    | .While t b [] _ => ∃ k, whileW (fun m' S' k' => wT K call n kd m' t S' k') (fun m' S' Q' => wXs n kd m' b S' Q') k m S Q
    | .For t it b [] _ => wIter K call n kd m it S fun itr S1 => tgtOk kd t itr = true ∧
        loopW (itChk itr) (fun v m' S' Q' => bindT t v m' fun m'' => wXs n kd m'' b S' Q') (itItems itr) m S1 Q
    | _ => False

noncomputable def wXs : Nat → Kd → MM → List Stmt → St → (Fl → MM → St → Prop) → Prop
  | 0, _, _, _, _, _ => False
  | n + 1, kd, m, [], S, Q => Q .next m S
  | n + 1, kd, m, s :: ss, S, Q => wX n kd m s S fun f m1 S1 => match f with
    | .next => wXs n kd m1 ss S1 Q
    | .brk => Q .brk m1 S1
    | .cont => Q .cont m1 S1
    | .ret v => Q (.ret v) m1 S1
end
end

noncomputable def retV : Fl → V
  | .ret v => v
  | _ => .vN
noncomputable def fnOk (K : Frag) (fd : FuncData) : Bool :=
  codeIn K fd.code fd.qualname && fd.closure.isEmpty && !fd.scope.isCoroutine && !fd.scope.isGenerator && fd.scope.kind == .function && fd.globals == mainGlobals && fd.builtins == builtinsNs &&
  decide (fd.scope.names.map (·.1)).Nodup && fd.scope.names.all (fun y => y.2 != .free && y.2 != .globalExplicit)

noncomputable def FUEL : Nat := 60

section
variable (K : Frag)
noncomputable def WC : Nat → Value → List V → St → (V → St → Prop) → Prop
  | 0, g, vs, S, Q => builtinW g vs S Q
  | d + 1, g, vs, S, Q => match g with
    | .ref f => match fnData K f with
      | some fd => fnOk K fd = true ∧ ∃ body bv, fd.body = .stmts body ∧ BindsV K fd vs bv ∧ bv.all (fun b => bindOk fd.scope.names b.1) = true ∧
          wXs K (WC d) FUEL fd.scope.names (fun x => bv.reverse.lookup x) body S fun f _ S' => Q (retV f) S'
      | none => match initOf K f with
        | some fI => ∀ dx, Fresh S dx → WC d (.ref fI) (.vR (dx + 1) :: vs) (put (put S dx (.attrs [])) (dx + 1) (.inst f dx)) fun v S' => v = .vN ∧ Q (.vR (dx + 1)) S'
        | none => False
    | g => builtinW g vs S Q

theorem WC_cls {d : Nat} {f fI : Addr} {vs : List V} {S : St} {Q : V → St → Prop} (h1 : fnData K f = none) (h2 : initOf K f = some fI)
    (h : ∀ dx, Fresh S dx → WC K d (.ref fI) (.vR (dx + 1) :: vs) (put (put S dx (.attrs [])) (dx + 1) (.inst f dx)) fun v S' => v = .vN ∧ Q (.vR (dx + 1)) S') : WC K (d + 1) (.ref f) vs S Q := by
  simp only [WC, h1, h2]; exact h
end
end Mine
end
section
open PySem PySem.W PyProof.Rows
set_option maxRecDepth 100000
set_option linter.unusedVariables false
namespace Mine
section
variable {K : Frag} {c : Value → List V → St → (V → St → Prop) → Prop} {n : Nat} {kd : Kd} {m : MM} {S : St} {v : V}
theorem E_s_none {Q : V → St → Prop} {k : Nat} {p : Pos} : (wE K c (n + 1) kd m (.Constant .none k p) S Q) = ((Q .vN S)) := rfl
theorem E_s_bool {Q : V → St → Prop} {b : Bool} {k : Nat} {p : Pos} : (wE K c (n + 1) kd m (.Constant (.bool b) k p) S Q) = ((Q (.vB b) S)) := rfl
theorem E_s_int {Q : V → St → Prop} {i : Int} {k : Nat} {p : Pos} : (wE K c (n + 1) kd m (.Constant (.int i) k p) S Q) = ((Q (.vI i) S)) := rfl
theorem E_s_str {Q : V → St → Prop} {s : Str} {k : Nat} {p : Pos} : (wE K c (n + 1) kd m (.Constant (.str s) k p) S Q) = ((Q (.vS s) S)) := rfl
theorem E_s_bin {Q : V → St → Prop} {l r : Expr} {op : Operator} {p : Pos} : (wE K c (n + 1) kd m (.BinOp l op r p) S Q) = ((wE K c n kd m l S fun a S1 => wE K c n kd m r S1 fun b S2 => binop op a b S2 Q)) := rfl
theorem E_s_neg {Q : V → St → Prop} {x : Expr} {p : Pos} : (wE K c (n + 1) kd m (.UnaryOp .USub x p) S Q) = ((wE K c n kd m x S fun v S1 => ∃ i, v = .vI i ∧ Q (.vI (-i)) S1)) := rfl
theorem E_s_ifexp {Q : V → St → Prop} {t b o : Expr} {p : Pos} : (wE K c (n + 1) kd m (.IfExp t b o p) S Q) = ((JOIN Q fun R => wT K c n kd m t S fun x S1 => if x = true then wE K c n kd m b S1 R else wE K c n kd m o S1 R)) := rfl
theorem E_s_boolop {Q : V → St → Prop} {op : BoolOp} {es : List Expr} {p : Pos} : (wE K c (n + 1) kd m (.BoolOp op es p) S Q) = ((JOIN Q fun R => wBool K c n kd m op es S R)) := rfl
theorem E_s_cmp {Q : V → St → Prop} {l : Expr} {ops : List CmpOp} {cs : List Expr} {p : Pos} : (wE K c (n + 1) kd m (.Compare l ops cs p) S Q) = ((cs.all plainE = true) ∧ (wE K c n kd m l S fun a S1 => wChain K c n kd m a ops cs S1 fun b => Q (.vB b))) := rfl
theorem E_s_meth {Q : V → St → Prop} {o : Expr} {nm : Str} {ap pos : Pos} {args : List Expr} : (wE K c (n + 1) kd m (.Call (.Attribute o nm ap) args [] pos) S Q) = (((notSuper o && ap.endLine == pos.line && decide (args.length < 20) && args.all plainE) = true) ∧ (wE K c n kd m o S fun ov S1 => MC K c nm (fun S' k' => wEs K c n kd m args S' k') ov S1 Q)) := rfl
theorem E_s_attr {Q : V → St → Prop} {o : Expr} {nm : Str} {p : Pos} : (wE K c (n + 1) kd m (.Attribute o nm p) S Q) = ((notSuper o = true) ∧ (wE K c n kd m o S fun ov S1 => getA K S1 ov nm fun v => Q v S1)) := rfl
theorem E_s_rev {Q : V → St → Prop} {o st : Expr} {p p2 : Pos} {k : Nat} : (wE K c (n + 1) kd m (.Subscript o (.Slice none none (some st) p) p2) S Q) = ((wE K c n kd m o S fun ov S1 => wE K c n kd m st S1 fun sv S2 => sv = .vI (-1) ∧ ∃ a vs, ov = .vR a ∧ lstOf S2 a = some vs ∧ ∀ r, Fresh S2 r → Q (.vR r) (put S2 r (.lst vs.reverse)))) := rfl
theorem E_s_tuple {Q : V → St → Prop} {es : List Expr} {k : Nat} {p : Pos} : (wE K c (n + 1) kd m (.Tuple es k p) S Q) = ((es.length ≤ 100) ∧ (wEs K c n kd m es S fun vs S1 => Q (.vT vs) S1)) := rfl
theorem E_s_list {Q : V → St → Prop} {es : List Expr} {p : Pos} : (wE K c (n + 1) kd m (.List es p) S Q) = ((es.length ≤ 100) ∧ (wEs K c n kd m es S fun vs S1 => ∀ r, Fresh S1 r → Q (.vR r) (put S1 r (.lst vs)))) := rfl
theorem E_s_dict {Q : V → St → Prop} {ks : List (Option Expr)} {es : List Expr} {p : Pos} : (wE K c (n + 1) kd m (.Dict ks es p) S Q) = (((ks.all (·.isSome) && decide (ks.length = es.length) && decide (0 < ks.length) && decide (ks.length ≤ 15)) = true) ∧ (wDict K c n kd m ks es S fun fs S1 => (fs.map (·.1)).Nodup ∧ ∀ r, Fresh S r → S1 r = none → Q (.vR r) (put S1 r (.dict fs)))) := rfl
theorem E_s_comp {Q : V → St → Prop} {elt iter : Expr} {x : Str} {p p2 : Pos} {scope : Scope} : (wE K c (n + 1) kd m (.ListComp elt [⟨.Name x p, iter, [], 0⟩] scope p2) S Q) = ((compOk kd scope x = true) ∧ (wIter K c n kd m iter S fun it S1 => compIt it = true ∧ compW (itChk it) (fun v S' Q' => wE K c n (compKd kd scope) (setM (compM kd scope m) x v) elt S' Q') (itItems it) [] S1 fun acc S' => ∀ r, Fresh S1 r → S' r = none → Q (.vR r) (put S' r (.lst acc)))) := rfl
theorem E_t_not {k : Bool → St → Prop} {x : Expr} {p : Pos} : (wT K c (n + 1) kd m (.UnaryOp .Not x p) S k) = ((wT K c n kd m x S fun b S1 => k (!b) S1)) := rfl
theorem E_t_bool {k : Bool → St → Prop} {op : BoolOp} {es : List Expr} {p : Pos} : (wT K c (n + 1) kd m (.BoolOp op es p) S k) = ((wAll K c n kd m op es S k)) := rfl
theorem E_t_cmp {k : Bool → St → Prop} {l : Expr} {ops : List CmpOp} {cs : List Expr} {p : Pos} : (wT K c (n + 1) kd m (.Compare l ops cs p) S k) = ((cs.all plainE = true) ∧ (wE K c n kd m l S fun a S1 => wChain K c n kd m a ops cs S1 k)) := rfl
theorem E_a_and0 {k : Bool → St → Prop}  : (wAll K c (n + 1) kd m .And [] S k) = ((k true S)) := rfl
theorem E_a_or0 {k : Bool → St → Prop}  : (wAll K c (n + 1) kd m .Or [] S k) = ((k false S)) := rfl
theorem E_a_and {k : Bool → St → Prop} {e : Expr} {es : List Expr} : (wAll K c (n + 1) kd m .And (e :: es) S k) = ((wT K c n kd m e S fun b S1 => if b = true then wAll K c n kd m .And es S1 k else k false S1)) := rfl
theorem E_a_or {k : Bool → St → Prop} {e : Expr} {es : List Expr} : (wAll K c (n + 1) kd m .Or (e :: es) S k) = ((wT K c n kd m e S fun b S1 => if b = true then k true S1 else wAll K c n kd m .Or es S1 k)) := rfl
theorem E_c_one {k : Bool → St → Prop} {a : V} {op : CmpOp} {x : Expr} : (wChain K c (n + 1) kd m a [op] [x] S k) = ((wE K c n kd m x S fun b S1 => wCmp op a b S1 fun r => k r S1)) := rfl
theorem E_c_two {k : Bool → St → Prop} {a : V} {op op2 : CmpOp} {ops : List CmpOp} {x x2 : Expr} {xs : List Expr} : (wChain K c (n + 1) kd m a (op :: op2 :: ops) (x :: x2 :: xs) S k) = ((wE K c n kd m x S fun b S1 => wCmp op a b S1 fun r => if r = true then wChain K c n kd m b (op2 :: ops) (x2 :: xs) S1 k else k false S1)) := rfl
theorem E_b_last {Q : V → St → Prop} {op : BoolOp} {e : Expr} : (wBool K c (n + 1) kd m op [e] S Q) = ((wE K c n kd m e S Q)) := rfl
theorem E_b_and {Q : V → St → Prop} {e e2 : Expr} {es : List Expr} : (wBool K c (n + 1) kd m .And (e :: e2 :: es) S Q) = ((wE K c n kd m e S fun v S1 => ∃ b, truth S1 v = some b ∧ if b = true then wBool K c n kd m .And (e2 :: es) S1 Q else Q v S1)) := rfl
theorem E_b_or {Q : V → St → Prop} {e e2 : Expr} {es : List Expr} : (wBool K c (n + 1) kd m .Or (e :: e2 :: es) S Q) = ((wE K c n kd m e S fun v S1 => ∃ b, truth S1 v = some b ∧ if b = true then Q v S1 else wBool K c n kd m .Or (e2 :: es) S1 Q)) := rfl
theorem E_e_nil  {k : List V → St → Prop} : (wEs K c (n + 1) kd m [] S k) = ((k [] S)) := rfl
theorem E_e_cons  {e : Expr} {es : List Expr} {k : List V → St → Prop} : (wEs K c (n + 1) kd m (e :: es) S k) = ((plainE e = true) ∧ (wE K c n kd m e S fun v S1 => wEs K c n kd m es S1 fun vs S2 => k (v :: vs) S2)) := rfl
theorem E_o_none  {k : Option Int → St → Prop} : (wOpt K c (n + 1) kd m none S k) = ((k none S)) := rfl
theorem E_o_some  {e : Expr} {k : Option Int → St → Prop} : (wOpt K c (n + 1) kd m (some e) S k) = ((wE K c n kd m e S fun v S1 => ∃ i, v = .vI i ∧ k (some i) S1)) := rfl
theorem E_d_nil  {k : List (Str × V) → St → Prop} : (wDict K c (n + 1) kd m [] [] S k) = ((k [] S)) := rfl
theorem E_w_name {k : MM → St → Prop} {x : Str} {p : Pos} : (wAsg K c n kd m (.Name x p) v S k) = ((bindOk kd x = true) ∧ (k (setM m x v) S)) := rfl
theorem E_w_attr {k : MM → St → Prop} {o : Expr} {nm : Str} {p : Pos} : (wAsg K c n kd m (.Attribute o nm p) v S k) = ((wE K c n kd m o S fun ov S1 => setA K S1 ov nm v fun S2 => k m S2)) := rfl
theorem E_w_sub {k : MM → St → Prop} {o i : Expr} {p : Pos} : (wAsg K c n kd m (.Subscript o i p) v S k) = ((plainE i = true) ∧ (wE K c n kd m o S fun ov S1 => wE K c n kd m i S1 fun iv S2 => setItemV S2 ov iv v fun S3 => k m S3)) := rfl
theorem E_x_expr {Q : Fl → MM → St → Prop} {e : Expr} {p : Pos} : (wX K c (n + 1) kd m (.Expr e p) S Q) = ((isCall e = true) ∧ (wE K c n kd m e S fun v S1 => v = .vN ∧ Q .next m S1)) := rfl
theorem E_x_ret {Q : Fl → MM → St → Prop} {e : Expr} {p : Pos} : (wX K c (n + 1) kd m (.Return (some e) p) S Q) = ((wE K c n kd m e S fun v S1 => Q (.ret v) m S1)) := rfl
theorem E_x_ret0 {Q : Fl → MM → St → Prop} {p : Pos} : (wX K c (n + 1) kd m (.Return none p) S Q) = ((Q (.ret .vN) m S)) := rfl
theorem E_x_asg {Q : Fl → MM → St → Prop} {t e : Expr} {p : Pos} : (wX K c (n + 1) kd m (.Assign [t] e p) S Q) = ((tupleOk t e = true) ∧ (wE K c n kd m e S fun r S1 => wAsg K c n kd m t r S1 fun m' S2 => Q .next m' S2)) := rfl
theorem E_x_if {Q : Fl → MM → St → Prop} {t : Expr} {b o : List Stmt} {p : Pos} : (wX K c (n + 1) kd m (.If t b o p) S Q) = ((wT K c n kd m t S fun x S1 => if x = true then wXs K c n kd m b S1 Q else wXs K c n kd m o S1 Q)) := rfl
theorem E_x_while {Q : Fl → MM → St → Prop} {t : Expr} {b : List Stmt} {p : Pos} : (wX K c (n + 1) kd m (.While t b [] p) S Q) = ((∃ k, whileW (fun m' S' k' => wT K c n kd m' t S' k') (fun m' S' Q' => wXs K c n kd m' b S' Q') k m S Q)) := rfl
theorem E_x_for {Q : Fl → MM → St → Prop} {t it : Expr} {b : List Stmt} {p : Pos} : (wX K c (n + 1) kd m (.For t it b [] p) S Q) = ((wIter K c n kd m it S fun itr S1 => tgtOk kd t itr = true ∧ loopW (itChk itr) (fun v m' S' Q' => bindT t v m' fun m'' => wXs K c n kd m'' b S' Q') (itItems itr) m S1 Q)) := rfl
theorem E_s_name {Q : V → St → Prop} {x : Str} {p : Pos} : wE K c (n + 1) kd m (.Name x p) S Q = ((x == ("__debug__" : Str)) = false ∧ ∃ v, nameV K kd m x = some v ∧ Q v S) := rfl
theorem E_s_call {Q : V → St → Prop} {f : Str} {p pos : Pos} {args : List Expr} : wE K c (n + 1) kd m (.Call (.Name f p) args [] pos) S Q = ((decide (args.length < 20) && args.all plainE) = true ∧ wE K c n kd m (.Name f p) S fun fv S1 => ∃ g, fv = .vF g ∧ keepOk K g = true ∧ wEs K c n kd m args S1 fun vs S2 => c g vs S2 Q) := rfl
theorem E_s_slice {Q : V → St → Prop} {o : Expr} {lo hi : Option Expr} {p p2 : Pos} : wE K c (n + 1) kd m (.Subscript o (.Slice lo hi none p) p2) S Q = (wE K c n kd m o S fun ov S1 => wOpt K c n kd m lo S1 fun l S2 => wOpt K c n kd m hi S2 fun h S3 => ∃ a vs, ov = .vR a ∧ lstOf S3 a = some vs ∧ ∀ r, Fresh S3 r → Q (.vR r) (put S3 r (.lst (sliceL vs l h)))) := by
  cases lo <;> cases hi <;> rfl
theorem E_w_tup {k : MM → St → Prop} {ts : List Expr} {kk : Nat} {p : Pos} : wAsg K c n kd m (.Tuple ts kk p) v S k = (∃ xs, namesOf ts = some xs ∧ xs.Nodup ∧ xs.all (bindOk kd) = true ∧ ∃ vs, v = .vT vs ∧ vs.length = xs.length ∧ k (setMs m xs vs) S) := rfl
noncomputable def plainT (e : Expr) : Bool := match e with
  | .UnaryOp .Not _ _ => false
  | .BoolOp _ _ _ => false
  | .IfExp _ _ _ _ => false
  | .Compare _ _ _ _ => false
  | _ => true
theorem E_t_else {k : Bool → St → Prop} {e : Expr} (h1 : plainT e = true) : wT K c (n + 1) kd m e S k = (wE K c n kd m e S fun v S1 => ∃ b, truth S1 v = some b ∧ k b S1) := by
  cases e with
  | UnaryOp op x p => cases op with
    | Not => cases h1
    | _ => rfl
  | BoolOp _ _ _ => cases h1
  | IfExp _ _ _ _ => cases h1
  | Compare _ _ _ _ => cases h1
  | _ => rfl
theorem E_d_cons {k : List (Str × V) → St → Prop} {e : Expr} {ks : List (Option Expr)} {v : Expr} {vs : List Expr} : wDict K c (n + 1) kd m (some e :: ks) (v :: vs) S k = (wE K c n kd m e S fun kv S1 => ∃ s, kv = .vS s ∧ wE K c n kd m v S1 fun w S2 => wDict K c n kd m ks vs S2 fun fs S3 => k ((s, w) :: fs) S3) := by
  cases ks <;> cases vs <;> rfl
theorem E_i_enum {k : Itr → St → Prop} {f : Str} {p p2 : Pos} {a : Expr} (h1 : isStr f "enumerate" = true) : wIter K c (n + 1) kd m (.Call (.Name f p) [a] [] p2) S k = (nameV K kd m f = some (.vF (.type "enumerate")) ∧ wEs K c n kd m [a] S fun vs S1 => ∃ l xs, vs = [.vR l] ∧ lstOf S1 l = some xs ∧ k (.enm l xs) S1) := if_pos h1
theorem E_i_range1 {k : Itr → St → Prop} {f : Str} {p p2 : Pos} {a : Expr} (h0 : isStr f "enumerate" = false) (h1 : isStr f "range" = true) : wIter K c (n + 1) kd m (.Call (.Name f p) [a] [] p2) S k = (nameV K kd m f = some (.vF (.type "range")) ∧ wEs K c n kd m [a] S fun vs S1 => rangeW vs fun ks => k (.rng ks) S1) :=
  (if_neg (by rw [h0]; decide)).trans (if_pos h1)
noncomputable def plainI (e : Expr) : Bool := match e with
  | .Call (.Name _ _) _ [] _ => false
  | e => plainE e
theorem comp_inv {Q : V → St → Prop} {elt : Expr} {gens : List Comprehension} {scope : Scope} {p2 : Pos} (h : wE K c (n + 1) kd m (.ListComp elt gens scope p2) S Q) : ∃ x p iter, gens = [⟨.Name x p, iter, [], 0⟩] := by
  cases gens with
  | nil => exact (show False from h).elim
  | cons g gs =>
    obtain ⟨t, it, ifs, asy⟩ := g
    cases t with
    | Name x p => cases ifs with
      | cons _ _ => exact (show False from h).elim
      | nil => cases asy with
        | negSucc _ => exact (show False from h).elim
        | ofNat k => cases k with
          | succ _ => exact (show False from h).elim
          | zero => cases gs with
            | nil => exact ⟨x, p, it, rfl⟩
            | cons _ _ => exact (show False from h).elim
    | _ => exact (show False from h).elim
theorem sub_inv {Q : V → St → Prop} {o i : Expr} {p : Pos} (h : wE K c (n + 1) kd m (.Subscript o i p) S Q) : (∃ lo hi st q, i = .Slice lo hi st q) ∨ (plainE i = true ∧ wE K c n kd m o S fun ov S1 => wE K c n kd m i S1 fun iv S2 => item S2 ov iv fun v => Q v S2) := by
  cases i with
  | Slice lo hi st q => exact .inl ⟨lo, hi, st, q, rfl⟩
  | _ => exact .inr h
theorem slice_inv {Q : V → St → Prop} {o : Expr} {lo hi st : Option Expr} {p p2 : Pos} (h : wE K c (n + 1) kd m (.Subscript o (.Slice lo hi st p) p2) S Q) : st = none ∨ (lo = none ∧ hi = none ∧ ∃ e, st = some e) := by
  cases st with
  | none => exact .inl rfl
  | some e => cases lo with
    | none => cases hi with
      | none => exact .inr ⟨rfl, rfl, e, rfl⟩
      | some _ => exact (Bool.false_ne_true (And.left h)).elim
    | some _ => exact (Bool.false_ne_true (And.left h)).elim
theorem call_inv {Q : V → St → Prop} {f : Expr} {args : List Expr} {kws : List Keyword} {p : Pos} (h : wE K c (n + 1) kd m (.Call f args kws p) S Q) : kws = [] ∧ ((∃ o nm q, f = .Attribute o nm q) ∨ ∃ x q, f = .Name x q) := by
  cases kws with
  | cons _ _ => cases f <;> exact (show False from h).elim
  | nil => cases f with
    | Attribute o nm q => exact ⟨rfl, .inl ⟨o, nm, q, rfl⟩⟩
    | Name x q => exact ⟨rfl, .inr ⟨x, q, rfl⟩⟩
    | _ => exact (show False from h).elim
theorem compW_nil {α : Type} {chk : St → Prop} {turn : α → St → (V → St → Prop) → Prop} {acc : List V} {Q : List V → St → Prop} : compW chk turn [] acc S Q = (chk S ∧ Q acc S) := rfl
theorem compW_cons {α : Type} {chk : St → Prop} {turn : α → St → (V → St → Prop) → Prop} {x : α} {xs : List α} {acc : List V} {Q : List V → St → Prop} : compW chk turn (x :: xs) acc S Q = (chk S ∧ turn x S fun v S' => acc.length + 1 ≤ LB ∧ compW chk turn xs (acc ++ [v]) S' Q) := rfl
theorem whileW_succ {test : MM → St → (Bool → St → Prop) → Prop} {body : MM → St → (Fl → MM → St → Prop) → Prop} {k : Nat} {Q : Fl → MM → St → Prop} : whileW test body (k + 1) m S Q = (test m S fun b S1 => if b = true then body m S1 (fun f m' S' => match f with
      | .next => whileW test body k m' S' Q
      | .cont => whileW test body k m' S' Q
      | .brk => Q .next m' S'
      | .ret v => Q (.ret v) m' S') else Q .next m S1) := rfl
end
end Mine
end
section
open PySem PySem.W PyProof.Rows PySem.Calls
set_option maxRecDepth 100000
set_option linter.unusedVariables false
namespace Mine

noncomputable def TupK (h h' : Heap) : Prop := ∀ a ws n, h.get? a = some (tupObj ws n) → h'.get? a = some (tupObj ws n)
theorem TupK.refl (h : Heap) : TupK h h := fun _ _ _ e => e
theorem TupK.trans {a b c : Heap} (x : TupK a b) (y : TupK b c) : TupK a c := fun _ _ _ e => y _ _ _ (x _ _ _ e)
theorem TupK.of {h h' : Heap} (k : ∀ b o, h.get? b = some o → h'.get? b = some o) : TupK h h' := fun _ _ _ e => k _ _ e

mutual
theorem RV.mono {h h' : Heap} (k : TupK h h') : ∀ {v : V} {w : Value}, RV h v w → RV h' v w
  | .vN, _, e => e
  | .vB _, _, e => e
  | .vI _, _, e => e
  | .vS _, _, e => e
  | .vR _, _, e => e
  | .vF _, _, e => e
  | .vT vs, _, e => by
    simp only [RV] at e ⊢
    obtain ⟨a, n, ws, rfl, ha, hr⟩ := e
    exact ⟨a, n, ws, rfl, k _ _ _ ha, RVs.mono k hr⟩
theorem RVs.mono {h h' : Heap} (k : TupK h h') : ∀ {vs : List V} {ws : List Value}, RVs h vs ws → RVs h' vs ws
  | [], _, e => e
  | v :: vs, _, e => by
    simp only [RVs] at e ⊢
    obtain ⟨w, r, rfl, hw, hr⟩ := e
    exact ⟨w, r, rfl, RV.mono k hw, RVs.mono k hr⟩
end
theorem RVs.cons {h : Heap} {v : V} {w : Value} {vs : List V} {ws : List Value} (a : RV h v w) (b : RVs h vs ws) : RVs h (v :: vs) (w :: ws) := by
  simp only [RVs]; exact ⟨w, ws, rfl, a, b⟩
theorem RVs.nil {h : Heap} : RVs h [] [] := rfl
theorem RVs.append {h : Heap} : ∀ {vs : List V} {ws : List Value} {vs' : List V} {ws' : List Value}, RVs h vs ws → RVs h vs' ws' → RVs h (vs ++ vs') (ws ++ ws')
  | [], _, _, _, e, x => by simp only [RVs] at e; subst e; exact x
  | v :: vs, _, _, _, e, x => by
    simp only [RVs] at e
    obtain ⟨w, r, rfl, hw, hr⟩ := e
    exact RVs.cons hw (RVs.append hr x)
theorem RVs.get {h : Heap} : ∀ {vs : List V} {ws : List Value} {i : Nat} {v : V}, RVs h vs ws → vs[i]? = some v → ∃ w, ws[i]? = some w ∧ RV h v w
  | [], _, _, _, _, e => by simp at e
  | v :: vs, _, i, u, e, x => by
    simp only [RVs] at e
    obtain ⟨w, r, rfl, hw, hr⟩ := e
    induction i using Nat.casesOn with
    | zero => simp at x; subst x; exact ⟨w, rfl, hw⟩
    | succ i =>
      obtain ⟨w', e1, e2⟩ := RVs.get (i := i) (v := u) hr (by simpa using x)
      exact ⟨w', by simpa using e1, e2⟩
theorem RVs.drop {h : Heap} : ∀ {vs : List V} {ws : List Value} (n : Nat), RVs h vs ws → RVs h (vs.drop n) (ws.drop n)
  | [], _, n, e => by simp only [RVs] at e; subst e; simp [RVs]
  | v :: vs, _, 0, e => by simpa using e
  | v :: vs, _, n + 1, e => by
    simp only [RVs] at e
    obtain ⟨w, r, rfl, hw, hr⟩ := e
    simpa using RVs.drop n hr
theorem RVs.take {h : Heap} : ∀ {vs : List V} {ws : List Value} (n : Nat), RVs h vs ws → RVs h (vs.take n) (ws.take n)
  | [], _, n, e => by simp only [RVs] at e; subst e; simp [RVs]
  | v :: vs, _, 0, e => by simp [RVs]
  | v :: vs, _, n + 1, e => by
    simp only [RVs] at e
    obtain ⟨w, r, rfl, hw, hr⟩ := e
    simpa using RVs.cons hw (RVs.take n hr)
theorem RVs.set {h : Heap} : ∀ {vs : List V} {ws : List Value} (n : Nat) {v : V} {w : Value}, RVs h vs ws → RV h v w → RVs h (vs.set n v) (ws.set n w)
  | [], _, n, _, _, e, _ => by simp only [RVs] at e; subst e; simp [RVs]
  | v :: vs, _, 0, u, x, e, hu => by
    simp only [RVs] at e
    obtain ⟨w, r, rfl, hw, hr⟩ := e
    simpa using RVs.cons hu hr
  | v :: vs, _, n + 1, u, x, e, hu => by
    simp only [RVs] at e
    obtain ⟨w, r, rfl, hw, hr⟩ := e
    simpa using RVs.cons hw (RVs.set n hr hu)
theorem RVs.reverse {h : Heap} : ∀ {vs : List V} {ws : List Value}, RVs h vs ws → RVs h vs.reverse ws.reverse
  | [], _, e => by simp only [RVs] at e; subst e; simp [RVs]
  | v :: vs, _, e => by
    simp only [RVs] at e
    obtain ⟨w, r, rfl, hw, hr⟩ := e
    rw [List.reverse_cons, List.reverse_cons]
    exact RVs.append (RVs.reverse hr) (RVs.cons hw RVs.nil)
theorem RVs.rep {h : Heap} {vs : List V} {ws : List Value} (e : RVs h vs ws) : ∀ k, RVs h (repL k vs) (List.replicate k ws).flatten
  | 0 => by simp [repL, RVs]
  | k + 1 => by
    have := RVs.append e (RVs.rep e k)
    simpa [repL, List.replicate_succ] using this

theorem RBs.mono {h h' : Heap} (k : TupK h h') : ∀ {fs : List (Str × V)} {kv : List (Str × Value)}, RBs h fs kv → RBs h' fs kv
  | [], _, e => e
  | (x, v) :: fs, _, e => by
    simp only [RBs] at e ⊢
    obtain ⟨w, r, rfl, hw, hr⟩ := e
    exact ⟨w, r, rfl, hw.mono k, RBs.mono k hr⟩
theorem RBs.lookup {h : Heap} {y : Str} : ∀ {fs : List (Str × V)} {kv : List (Str × Value)}, RBs h fs kv → ∀ {v : V}, fs.lookup y = some v → ∃ w, kv.lookup y = some w ∧ RV h v w
  | [], _, _, _, e => by simp at e
  | (x, u) :: fs, _, r, v, e => by
    simp only [RBs] at r
    obtain ⟨w, r, rfl, hw, hr⟩ := r
    rw [List.lookup_cons] at e ⊢
    cases hb : y == x with
    | true => rw [hb] at e; cases e; exact ⟨w, rfl, hw⟩
    | false => rw [hb] at e; exact RBs.lookup hr e
theorem RBs.map_fst {h : Heap} : ∀ {fs : List (Str × V)} {kv : List (Str × Value)}, RBs h fs kv → kv.map (·.1) = fs.map (·.1)
  | [], _, e => by simp only [RBs] at e; subst e; rfl
  | (x, v) :: fs, _, e => by
    simp only [RBs] at e
    obtain ⟨w, r, rfl, hw, hr⟩ := e
    simp [RBs.map_fst hr]
theorem RBs.append {h : Heap} : ∀ {fs : List (Str × V)} {kv : List (Str × Value)} {fs' : List (Str × V)} {kv' : List (Str × Value)}, RBs h fs kv → RBs h fs' kv' → RBs h (fs ++ fs') (kv ++ kv')
  | [], _, _, _, e, x => by simp only [RBs] at e; subst e; exact x
  | (x, v) :: fs, _, _, _, e, y => by
    simp only [RBs] at e
    obtain ⟨w, r, rfl, hw, hr⟩ := e
    exact ⟨w, _, rfl, hw, RBs.append hr y⟩
theorem RBs.reverse {h : Heap} : ∀ {fs : List (Str × V)} {kv : List (Str × Value)}, RBs h fs kv → RBs h fs.reverse kv.reverse
  | [], _, e => by simp only [RBs] at e; subst e; rfl
  | (x, v) :: fs, _, e => by
    simp only [RBs] at e
    obtain ⟨w, r, rfl, hw, hr⟩ := e
    rw [List.reverse_cons, List.reverse_cons]
    exact RBs.append (RBs.reverse hr) ⟨w, [], rfl, hw, rfl⟩

/-- the dict of an object of a class -/
noncomputable def EntR (h : Heap) : List (Str × V) → List DictEntry → Prop
  | [], es => es = []
  | (x, v) :: fs, es => ∃ e r, es = e :: r ∧ (∃ t, e.key = .str x t) ∧ RV h v e.val ∧ EntR h fs r
theorem EntR.mono {h h' : Heap} (k : TupK h h') : ∀ {fs : List (Str × V)} {es : List DictEntry}, EntR h fs es → EntR h' fs es
  | [], _, e => e
  | (x, v) :: fs, _, e => by
    simp only [EntR] at e ⊢
    obtain ⟨w, r, rfl, hk, hw, hr⟩ := e
    exact ⟨w, r, rfl, hk, hw.mono k, EntR.mono k hr⟩
theorem EntR.length {h : Heap} : ∀ {fs : List (Str × V)} {es : List DictEntry}, EntR h fs es → es.length = fs.length
  | [], _, e => by simp only [EntR] at e; subst e; rfl
  | (x, v) :: fs, _, e => by
    simp only [EntR] at e
    obtain ⟨w, r, rfl, hk, hw, hr⟩ := e
    simp [EntR.length hr]

section
variable (prog : Program) (w : World) (base : Heap)

noncomputable def Rep (h : Heap) (a : Addr) : AO → Prop
  | .lst vs => vs.length ≤ LB ∧ ∃ ws n, h.get? a = some (lstObj ws n) ∧ RVs h vs ws
  | .ro vs => vs.length ≤ LB ∧ ∃ ws n, h.get? a = some (lstObj ws n) ∧ RVs h vs ws
  | .inst C dx => h.get? a = some (instObj C dx)
  | .attrs fs => fs.length ≤ 100 ∧ ∃ es n, h.get? a = some (dictOf es n) ∧ EntR h fs es
  | .dict fs => fs.length ≤ 100 ∧ ∃ kvs, h.DictOf (strKind prog w) a kvs ∧ RBs h fs kvs

noncomputable def Own (S : St) (a : Addr) : Prop := ∃ o, S a = some o ∧ ∀ vs, o ≠ .ro vs

structure HInv (h : Heap) (S : St) : Prop where
  keep : ∀ b o, base.get? b = some o → h.get? b = some o
  rep : ∀ a o, S a = some o → Rep prog w h a o
  own : ∀ a, Own S a → base.get? a = none

structure Ev (X : Addr → Prop) (h : Heap) (S : St) (h' : Heap) (S' : St) : Prop where
  keep : ∀ b o, ¬ X b → h.get? b = some o → ¬ Own S b → h'.get? b = some o
  dom : ∀ a, S' a ≠ none → S a ≠ none ∨ h.get? a = none
  ro : ∀ a vs, S a = some (.ro vs) → S' a = some (.ro vs)
  tup : TupK h h'
  live : ∀ a, h'.get? a = none → h.get? a = none
end
abbrev noX : Addr → Prop := fun _ => False

section
variable {prog : Program} {w : World} {base : Heap} {h h' : Heap} {S S' : St} {X : Addr → Prop}

theorem Rep.at {a : Addr} {o : AO} (r : Rep prog w h a o) (k : ∀ ob, h.get? a = some ob → h'.get? a = some ob) (t : TupK h h') : Rep prog w h' a o := by
  cases o with
  | lst vs => obtain ⟨l, ws, n, e, r⟩ := r; exact ⟨l, ws, n, k _ e, r.mono t⟩
  | ro vs => obtain ⟨l, ws, n, e, r⟩ := r; exact ⟨l, ws, n, k _ e, r.mono t⟩
  | inst C dx => exact k _ r
  | attrs fs => obtain ⟨l, es, n, e, r⟩ := r; exact ⟨l, es, n, k _ e, r.mono t⟩
  | dict fs =>
    obtain ⟨l, kvs, ⟨o, es, ep, ho, q⟩, r⟩ := r
    exact ⟨l, kvs, ⟨o, es, ep, k _ ho, q⟩, r.mono t⟩
theorem Rep.obj {a : Addr} {o : AO} (r : Rep prog w h a o) : ∃ ob, h.get? a = some ob ∧ ob.cls ≠ .type "tuple" := by
  cases o with
  | lst vs => obtain ⟨l, ws, n, e, r⟩ := r; exact ⟨_, e, by simp⟩
  | ro vs => obtain ⟨l, ws, n, e, r⟩ := r; exact ⟨_, e, by simp⟩
  | inst C dx => exact ⟨_, r, by simp⟩
  | attrs fs => obtain ⟨l, es, n, e, r⟩ := r; exact ⟨_, e, by simp⟩
  | dict fs =>
    obtain ⟨l, kvs, ⟨o, es, ep, ho, hx, q⟩, r⟩ := r
    exact ⟨o, ho, by rw [hx.1]; simp⟩
theorem HInv.obj (I : HInv prog w base h S) {a : Addr} (e : S a ≠ none) : ∃ ob, h.get? a = some ob ∧ ob.cls ≠ .type "tuple" := by
  cases q : S a with
  | none => exact absurd q e
  | some o => exact (I.rep a o q).obj
theorem HInv.noneAt (I : HInv prog w base h S) {a : Addr} (e : h.get? a = none) : S a = none := by
  cases q : S a with
  | none => rfl
  | some o => obtain ⟨ob, x, _⟩ := (I.rep a o q).obj; rw [e] at x; cases x
theorem get_big (h : Heap) {a : Addr} (e : h.objs.size ≤ a) : h.get? a = none := by
  cases q : h.get? a with
  | none => rfl
  | some o => exact absurd (Heap.lt_size q) (Nat.not_lt.mpr e)
theorem HInv.fresh (I : HInv prog w base h S) : Fresh S h.objs.size := fun a ha => I.noneAt (get_big h ha)
theorem HInv.tupOff (I : HInv prog w base h S) {a : Addr} (e : S a ≠ none) {ws : List Value} {n : Nat} : h.get? a ≠ some (tupObj ws n) := fun q => by
  obtain ⟨ob, x, y⟩ := I.obj e
  rw [q] at x; cases x; exact y rfl

theorem Ev.refl : Ev X h S h S := ⟨fun _ _ _ e _ => e, fun _ e => .inl e, fun _ _ e => e, TupK.refl h, fun _ e => e⟩
theorem Ev.weaken {Y : Addr → Prop} (x : Ev X h S h' S') (k : ∀ a, X a → Y a) : Ev Y h S h' S' := ⟨fun b o n => x.keep b o fun q => n (k b q), x.dom, x.ro, x.tup, x.live⟩
theorem Ev.notOwn (x : Ev X h S h' S') {b : Addr} {o : Obj} (e : h.get? b = some o) (q : ¬ Own S b) : ¬ Own S' b := by
  rintro ⟨o', z1, z2⟩
  rcases x.dom b (by rw [z1]; exact fun r => nomatch r) with r | r
  · cases z3 : S b with
    | none => exact r z3
    | some o'' =>
      refine q ⟨o'', z3, fun vs e' => ?_⟩
      subst e'
      have := x.ro b vs z3
      rw [z1] at this
      exact z2 vs (Option.some.inj this)
  · rw [e] at r; cases r
theorem Ev.trans {h'' : Heap} {S'' : St} (x : Ev X h S h' S') (y : Ev X h' S' h'' S'') : Ev X h S h'' S'' := by
  refine ⟨fun b o n e q => ?_, fun a e => ?_, fun a vs e => y.ro _ _ (x.ro _ _ e), x.tup.trans y.tup, fun a e => x.live a (y.live a e)⟩
  · exact y.keep b o n (x.keep b o n e q) (x.notOwn e q)
  · rcases y.dom a e with r | r
    · exact x.dom a r
    · exact .inr (x.live a r)
/-- the private objects of an evaluation that were not there when it began -/
theorem Ev.drop {Y : Addr → Prop} (x : Ev Y h S h' S') (k : ∀ a, Y a → X a ∨ h.get? a = none) : Ev X h S h' S' := by
  refine ⟨fun b o n e q => ?_, x.dom, x.ro, x.tup, x.live⟩
  by_cases y : Y b
  · rcases k b y with r | r
    · exact absurd r n
    · rw [e] at r; cases r
  · exact x.keep b o y e q
theorem Ev.grow (k : ∀ b o, h.get? b = some o → h'.get? b = some o) : Ev X h S h' S :=
  ⟨fun b o _ e _ => k b o e, fun _ e => .inl e, fun _ _ e => e, TupK.of k, fun a e => by
    cases q : h.get? a with
    | none => rfl
    | some o => rw [k a o q] at e; cases e⟩
theorem HInv.grow (I : HInv prog w base h S) (k : ∀ b o, h.get? b = some o → h'.get? b = some o) : HInv prog w base h' S :=
  ⟨fun b o e => k b o (I.keep b o e), fun a o e => (I.rep a o e).at (fun ob q => k a ob q) (TupK.of k), I.own⟩
theorem put_self {a : Addr} {o : AO} : put S a o a = some o := by simp [put]
theorem put_ne {a b : Addr} {o : AO} (n : b ≠ a) : put S a o b = S b := by simp [put, n]
theorem Own.put {a b : Addr} {o : AO} (q : Own (put S a o) b) : b = a ∨ Own S b := by
  by_cases n : b = a
  · exact .inl n
  · obtain ⟨o', e, z⟩ := q; rw [put_ne n] at e; exact .inr ⟨o', e, z⟩
theorem HInv.alloc (I : HInv prog w base h S) (k : ∀ b o, h.get? b = some o → h'.get? b = some o) {r : Addr} {o : AO} (hr : h.get? r = none) (rep : Rep prog w h' r o) : HInv prog w base h' (put S r o) := by
  have J := I.grow k
  refine ⟨J.keep, fun a o' e => ?_, fun a q => ?_⟩
  · by_cases n : a = r
    · subst n; rw [put_self] at e; cases e; exact rep
    · rw [put_ne n] at e; exact J.rep a o' e
  · rcases q.put with rfl | q
    · cases z : base.get? a with
      | none => rfl
      | some o' => rw [I.keep a o' z] at hr; cases hr
    · exact I.own a q
theorem Ev.alloc (I : HInv prog w base h S) (k : ∀ b o, h.get? b = some o → h'.get? b = some o) {r : Addr} {o : AO} (hr : h.get? r = none) : Ev X h S h' (put S r o) := by
  have x := Ev.grow (X := X) (S := S) k
  refine ⟨x.keep, fun a e => ?_, fun a vs e => ?_, x.tup, x.live⟩
  · by_cases n : a = r
    · subst n; exact .inr hr
    · rw [put_ne n] at e; exact .inl e
  · have n : a ≠ r := by rintro rfl; rw [I.noneAt hr] at e; cases e
    rw [put_ne n]; exact e
theorem tupK_but (I : HInv prog w base h S) {a : Addr} (q : S a ≠ none) (k : ∀ b o, b ≠ a → h.get? b = some o → h'.get? b = some o) : TupK h h' := fun b ws n e =>
  k b _ (by rintro rfl; exact I.tupOff q e) e
theorem HInv.upd (I : HInv prog w base h S) {a : Addr} {o : AO} (q : Own S a) (k : ∀ b o, b ≠ a → h.get? b = some o → h'.get? b = some o) (rep : Rep prog w h' a o) : HInv prog w base h' (put S a o) := by
  have qn : S a ≠ none := by obtain ⟨o', e, _⟩ := q; rw [e]; exact fun r => nomatch r
  refine ⟨fun b o' e => k b o' (by rintro rfl; rw [I.own _ q] at e; cases e) (I.keep b o' e), fun b o' e => ?_, fun b z => ?_⟩
  · by_cases n : b = a
    · subst n; rw [put_self] at e; cases e; exact rep
    · rw [put_ne n] at e; exact (I.rep b o' e).at (fun ob z => k b ob n z) (tupK_but I qn k)
  · rcases z.put with rfl | z
    · exact I.own _ q
    · exact I.own b z
theorem Ev.upd (I : HInv prog w base h S) {a : Addr} {o : AO} (q : Own S a) (k : ∀ b o, b ≠ a → h.get? b = some o → h'.get? b = some o) (ha : h'.get? a ≠ none) : Ev X h S h' (put S a o) := by
  have qn : S a ≠ none := by obtain ⟨o', e, _⟩ := q; rw [e]; exact fun r => nomatch r
  refine ⟨fun b o' _ e z => k b o' (by rintro rfl; exact z q) e, fun b e => ?_, fun b vs e => ?_, tupK_but I qn k, fun b e => ?_⟩
  · by_cases n : b = a
    · subst n; exact .inl qn
    · rw [put_ne n] at e; exact .inl e
  · have n : b ≠ a := by
      rintro rfl
      obtain ⟨o', e', z⟩ := q
      rw [e] at e'; cases e'; exact z vs rfl
    rw [put_ne n]; exact e
  · cases z : h.get? b with
    | none => rfl
    | some o' =>
      by_cases n : b = a
      · subst n; exact absurd e ha
      · rw [k b o' n z] at e; cases e
theorem Own.of {a : Addr} {o : AO} (e : S a = some o) (z : ∀ vs, o ≠ .ro vs) : Own S a := ⟨o, e, z⟩
theorem lstOf_rep (I : HInv prog w base h S) {a : Addr} {vs : List V} (e : lstOf S a = some vs) : vs.length ≤ LB ∧ ∃ ws n, h.get? a = some (lstObj ws n) ∧ RVs h vs ws := by
  unfold lstOf at e
  split at e
  · rename_i vs' q; cases e; exact I.rep _ _ q
  · rename_i vs' q; cases e; exact I.rep _ _ q
  · cases e
end
end Mine
end
section
open PySem PySem.W PyProof.Rows PySem.Calls
set_option maxRecDepth 100000
set_option linter.unusedVariables false
namespace Mine

section
variable (prog : Program) (w : World) (base : Heap)
noncomputable def PG {α β : Type} (R : Heap → α → β → Prop) (S : St) (s : Shared) (Q : α → St → Prop) (b : β) (s' : Shared) : Prop :=
  ∃ (v : α) (S' : St) (h' : Heap) (tk : Nat), s' = { s with heap := h', toks := tk } ∧ R h' v b ∧ HInv prog w base h' S' ∧ Ev noX s.heap S h' S' ∧ Q v S'
noncomputable def REq {α : Type} (_ : Heap) (a b : α) : Prop := a = b
noncomputable def RU (_ : Heap) (_ : Unit) (_ : Unit) : Prop := True
noncomputable def ROpt (h : Heap) : Option Int → Value → Prop
  | none, v => v = .none
  | some i, v => ∃ t, v = .int i t
end

structure Room (A : Around) (d : Nat) : Prop where
  handled : A.handled = none
  depth : A.depth + 2 * d + 10 < recursionLimit
  units : A.units + 20 * d + 200 < cLine

section
variable {prog : Program} {w : World} {base : Heap} {S S1 : St} {s : Shared} {A : Around} {E : Value → Shared → Prop}

theorem PG.trans {α β : Type} {R : Heap → α → β → Prop} {Q : α → St → Prop} {b : β} {s2 : Shared} {h1 : Heap} {t1 : Nat} (e : Ev noX s.heap S h1 S1) (x : PG prog w base R S1 { s with heap := h1, toks := t1 } Q b s2) : PG prog w base R S s Q b s2 := by
  refine hide fun G0 g0 => ?_
  obtain ⟨v, S', h', tk, rfl, r, i, e', q⟩ := x
  refine g0 ?_
  clear g0 G0
  exact ⟨v, S', h', tk, rfl, r, i, e.trans e', q⟩
theorem PG.mono {α β : Type} {R : Heap → α → β → Prop} {Q Q' : α → St → Prop} {b : β} {s2 : Shared} (x : PG prog w base R S s Q b s2) (k : ∀ a S', Q a S' → Q' a S') : PG prog w base R S s Q' b s2 := by
  refine hide fun G0 g0 => ?_
  obtain ⟨v, S', h', tk, rfl, r, i, e', q⟩ := x
  refine g0 ?_
  clear g0 G0
  exact ⟨v, S', h', tk, rfl, r, i, e', k _ _ q⟩
/-- nothing has changed but the tokens -/
theorem PG.tok {α β : Type} {R : Heap → α → β → Prop} {Q : α → St → Prop} {b : β} {tk : Nat} (v : α) (I : HInv prog w base s.heap S) (r : R s.heap v b) (q : Q v S) : PG prog w base R S s Q b { s with toks := tk } :=
  ⟨v, S, s.heap, tk, rfl, r, I, Ev.refl, q⟩
theorem PG.here {α β : Type} {R : Heap → α → β → Prop} {Q : α → St → Prop} {b : β} (v : α) (I : HInv prog w base s.heap S) (r : R s.heap v b) (q : Q v S) : PG prog w base R S s Q b s :=
  ⟨v, S, s.heap, s.toks, rfl, r, I, Ev.refl, q⟩
theorem PG.grown {α β : Type} {R : Heap → α → β → Prop} {Q : α → St → Prop} {b : β} {h' : Heap} {tk : Nat} (v : α) (I : HInv prog w base s.heap S) (k : ∀ b o, s.heap.get? b = some o → h'.get? b = some o) (r : R h' v b) (q : Q v S) :
    PG prog w base R S s Q b { s with heap := h', toks := tk } := ⟨v, S, h', tk, rfl, r, I.grow k, Ev.grow k, q⟩
theorem PG.alloc {β : Type} {α : Type} {R : Heap → α → β → Prop} {Q : α → St → Prop} {b : β} {h' : Heap} {tk : Nat} {r : Addr} {o : AO} (v : α) (I : HInv prog w base s.heap S) (k : ∀ b o, s.heap.get? b = some o → h'.get? b = some o)
    (hr : s.heap.get? r = none) (rep : Rep prog w h' r o) (rr : R h' v b) (q : Q v (put S r o)) : PG prog w base R S s Q b { s with heap := h', toks := tk } :=
  ⟨v, put S r o, h', tk, rfl, rr, I.alloc k hr rep, Ev.alloc I k hr, q⟩
theorem PG.upd {β : Type} {α : Type} {R : Heap → α → β → Prop} {Q : α → St → Prop} {b : β} {h' : Heap} {tk : Nat} {a : Addr} {o : AO} (v : α) (I : HInv prog w base s.heap S) (own : Own S a)
    (k : ∀ b o, b ≠ a → s.heap.get? b = some o → h'.get? b = some o) (rep : Rep prog w h' a o) (rr : R h' v b) (q : Q v (put S a o)) : PG prog w base R S s Q b { s with heap := h', toks := tk } :=
  ⟨v, put S a o, h', tk, rfl, rr, I.upd own k rep, Ev.upd I own k (by obtain ⟨ob, x, _⟩ := rep.obj; rw [x]; exact fun z => nomatch z), q⟩
theorem RV.int {h : Heap} {i : Int} {x : Value} (r : RV h (.vI i) x) : ∃ t, x = .int i t := by simpa only [RV] using r
theorem RV.ref {h : Heap} {a : Addr} {x : Value} (r : RV h (.vR a) x) : x = .ref a := by simpa only [RV] using r
theorem RV.bool {h : Heap} {b : Bool} {x : Value} (r : RV h (.vB b) x) : x = .bool b := by simpa only [RV] using r
theorem RV.none {h : Heap} {x : Value} (r : RV h .vN x) : x = .none := by simpa only [RV] using r
theorem RV.str {h : Heap} {b : Str} {x : Value} (r : RV h (.vS b) x) : ∃ t, x = .str b t := by simpa only [RV] using r
theorem RV.fn {h : Heap} {b x : Value} (r : RV h (.vF b) x) : x = b := by simpa only [RV] using r
theorem RV.tup {h : Heap} {vs : List V} {x : Value} (r : RV h (.vT vs) x) : ∃ a n ws, x = .ref a ∧ h.get? a = some (tupObj ws n) ∧ RVs h vs ws := by simpa only [RV] using r
theorem rvI {h : Heap} {i : Int} {t : Tok} : RV h (.vI i) (.int i t) := by simp only [RV]; exact ⟨t, rfl⟩
theorem rvB {h : Heap} {b : Bool} : RV h (.vB b) (.bool b) := by simp only [RV]
theorem rvN {h : Heap} : RV h .vN .none := by simp only [RV]
theorem rvR {h : Heap} {a : Addr} : RV h (.vR a) (.ref a) := by simp only [RV]
theorem rvS {h : Heap} {x : Str} {t : Tok} : RV h (.vS x) (.str x t) := by simp only [RV]; exact ⟨t, rfl⟩

theorem get_new (h : Heap) : h.get? h.objs.size = none := get_big h (Nat.le_refl _)
theorem lb_line : LB ≤ sizeLine := by rw [sizeLine_eq]; decide

theorem foldl_flatten (l : List (Array Value)) : ∀ a : Array Value, List.foldl (fun x1 x2 => x1 ++ x2) a l = (a.toList ++ (l.map (·.toList)).flatten).toArray := by
  induction l with
  | nil => intro a; simp
  | cons x l ih => intro a; rw [List.foldl_cons, ih]; simp
theorem rep_arr (ws : List Value) (k : Nat) : List.foldl (fun x1 x2 => x1 ++ x2) #[] (List.replicate (if ws.toArray.isEmpty = true then 0 else k) ws.toArray) = ((List.replicate k ws).flatten).toArray := by
  rw [foldl_flatten]
  induction ws using List.casesOn with
  | nil => simp
  | cons v vs => simp

theorem add_inv {a b : V} {Q : V → St → Prop} (q : binop .Add a b S Q) : (∃ i j, a = .vI i ∧ b = .vI j ∧ Q (.vI (i + j)) S) ∨ ∃ x y, a = .vR x ∧ b = .vR y ∧ ∃ vs ws, lstOf S x = some vs ∧ lstOf S y = some ws ∧ (vs ++ ws).length ≤ LB ∧ ∀ r, Fresh S r → Q (.vR r) (put S r (.lst (vs ++ ws))) := by
  induction a using V.casesOn with
  | vI i => induction b using V.casesOn with
    | vI j => exact .inl ⟨i, j, rfl, rfl, q⟩
    | _ => exact (show False from q).elim
  | vR x => induction b using V.casesOn with
    | vR y => exact .inr ⟨x, y, rfl, rfl, q⟩
    | _ => exact (show False from q).elim
  | _ => exact (show False from q).elim
theorem mul_inv {a b : V} {Q : V → St → Prop} (q : binop .Mult a b S Q) : (∃ i j, a = .vI i ∧ b = .vI j ∧ IntMulOk i j ∧ Q (.vI (i * j)) S) ∨ ∃ x k, a = .vR x ∧ b = .vI k ∧ ∃ vs, lstOf S x = some vs ∧ (repL k.toNat vs).length ≤ LB ∧ -1000 ≤ k ∧ k ≤ 1000 ∧ ∀ r, Fresh S r → Q (.vR r) (put S r (.lst (repL k.toNat vs))) := by
  induction a using V.casesOn with
  | vI i => induction b using V.casesOn with
    | vI j => exact .inl ⟨i, j, rfl, rfl, q⟩
    | _ => exact (show False from q).elim
  | vR x => induction b using V.casesOn with
    | vI y => exact .inr ⟨x, y, rfl, rfl, q⟩
    | _ => exact (show False from q).elim
  | _ => exact (show False from q).elim
theorem sub_inv2 {a b : V} {Q : V → St → Prop} (q : binop .Sub a b S Q) : ∃ i j, a = .vI i ∧ b = .vI j ∧ Q (.vI (i - j)) S := by
  induction a using V.casesOn with
  | vI i => induction b using V.casesOn with
    | vI j => exact ⟨i, j, rfl, rfl, q⟩
    | _ => exact (show False from q).elim
  | _ => exact (show False from q).elim
theorem fdiv_inv {a b : V} {Q : V → St → Prop} (q : binop .FloorDiv a b S Q) : ∃ i j, a = .vI i ∧ b = .vI j ∧ j ≠ 0 ∧ Builtin.divisionGoesByPylong i j = false ∧ Q (.vI (i.fdiv j)) S := by
  induction a using V.casesOn with
  | vI i => induction b using V.casesOn with
    | vI j => exact ⟨i, j, rfl, rfl, q⟩
    | _ => exact (show False from q).elim
  | _ => exact (show False from q).elim
theorem mod_inv {a b : V} {Q : V → St → Prop} (q : binop .Mod a b S Q) : ∃ i j, a = .vI i ∧ b = .vI j ∧ j ≠ 0 ∧ Q (.vI (i.fmod j)) S := by
  induction a using V.casesOn with
  | vI i => induction b using V.casesOn with
    | vI j => exact ⟨i, j, rfl, rfl, q⟩
    | _ => exact (show False from q).elim
  | _ => exact (show False from q).elim
theorem binop_sound {op : Operator} {a b : V} {wa wb : Value} {Q : V → St → Prop} (I : HInv prog w base s.heap S) (ra : RV s.heap a wa) (rb : RV s.heap b wb) (q : binop op a b S Q) :
    wpAny (model prog w) A (binaryOp op wa wb) (PG prog w base RV S s Q) E s := by
  induction op using PySem.Operator.casesOn with
  | Add =>
    rcases add_inv q with ⟨i, j, rfl, rfl, q⟩ | ⟨x, y, rfl, rfl, vs, xs, hx, hy, hl, hq⟩
    · obtain ⟨t, rfl⟩ := ra.int; obtain ⟨u, rfl⟩ := rb.int
      exact P.add_int (PG.tok _ I rvI q)
    · have e1 := ra.ref; have e2 := rb.ref
      subst e1 e2
      refine hide fun G0 g0 => ?_
      obtain ⟨_, ws1, n1, g1, r1⟩ := lstOf_rep I hx
      refine g0 ?_
      clear g0 G0
      refine hide fun G0 g0 => ?_
      obtain ⟨_, ws2, n2, g2, r2⟩ := lstOf_rep I hy
      refine g0 ?_
      clear g0 G0
      have k : ∀ b o, s.heap.get? b = some o → (s.heap.push { cls := .type "list", data := .seq (ws1.toArray ++ ws2.toArray) }).get? b = some o := fun b o e => Heap.get?_push_of_some _ e
      refine P.add_list (l := x) (b := y) g1 g2 (PG.alloc _ I k (get_new _) ?_ rvR (hq _ I.fresh)) ?_
      · refine ⟨hl, ws1 ++ ws2, 0, ?_, (r1.mono (TupK.of k)).append (r2.mono (TupK.of k))⟩
        have := Heap.get?_push_size s.heap (o := { cls := .type "list", data := .seq (ws1.toArray ++ ws2.toArray) }) rfl
        simpa using this
      · have h1 := r1.length; have h2 := r2.length
        simp only [List.length_append] at hl
        simp only [List.size_toArray]
        have := lb_line; lia
  | Sub =>
    refine hide fun G0 g0 => ?_
    obtain ⟨i, j, rfl, rfl, q⟩ := sub_inv2 q
    refine g0 ?_
    clear g0 G0
    obtain ⟨t, rfl⟩ := ra.int; obtain ⟨u, rfl⟩ := rb.int
    exact P.sub_int (PG.tok _ I rvI q)
  | Mult =>
    rcases mul_inv q with ⟨i, j, rfl, rfl, q⟩ | ⟨x, k, rfl, rfl, vs, hx, hl, hk1, hk2, hq⟩
    · obtain ⟨t, rfl⟩ := ra.int; obtain ⟨u, rfl⟩ := rb.int
      exact P.mul_int (PG.tok _ I rvI q.2) q.1
    · have e1 := ra.ref; obtain ⟨u, rfl⟩ := rb.int
      subst e1
      refine hide fun G0 g0 => ?_
      obtain ⟨_, ws1, n1, g1, r1⟩ := lstOf_rep I hx
      refine g0 ?_
      clear g0 G0
      have hln : (repL k.toNat vs).length = k.toNat * vs.length := by simp [repL]
      have hw := r1.length
      have hsz : ws1.toArray.size * k.toNat ≤ 2 ^ 24 := by
        rw [List.size_toArray, hw, Nat.mul_comm, ← hln]
        exact Nat.le_trans hl (by decide)
      have htl : ¬ Builtin.List.listTooLong (ws1.toArray.size * k.toNat) = true := by
        have h9 : ws1.length * k.toNat ≤ 16777216 := by simpa using hsz
        simp [Builtin.List.listTooLong, sizeLine]; lia
      have kk : ∀ b o, s.heap.get? b = some o → (s.heap.push { cls := .type "list", data := .seq (List.foldl (fun x1 x2 => x1 ++ x2) #[] (List.replicate (if ws1.toArray.isEmpty = true then 0 else k.toNat) ws1.toArray)) }).get? b = some o :=
        fun b o e => Heap.get?_push_of_some _ e
      refine wpAny_binaryOp_repeat_ref (T := "list") (U := "int") (by decide) ⟨_, g1, rfl⟩ (fun s' => typeIs_int s' k u) noFill_list_mul F.fills_int_mul F.slot_int_rmul repeat_list F.slot_int_index.lookup
        (call_meets F.slot_int_rmul (typeIs_int s k u) F.entry_int_rmul (F.args_int_rmul_2 _ _) (int___rmul___int_list k u x ws1.toArray n1)
          ⟨g1, rfl, ⟨_, g1, rfl⟩, call_meets F.slot_list_mul ⟨_, g1, rfl⟩ F.entry_list_mul (F.args_list_mul_2 _ _)
            (AutoListH.list___mul___list_int_3 x ws1.toArray n1 k u (by simp [Builtin.List.listFitsIndex]; lia) (by lia) htl) ⟨g1, ?_⟩⟩)
      refine PG.alloc _ I kk (get_new _) ?_ rvR (hq _ I.fresh)
      refine ⟨hl, (List.replicate k.toNat ws1).flatten, 0, ?_, (r1.mono (TupK.of kk)).rep _⟩
      have := Heap.get?_push_size s.heap (o := { cls := .type "list", data := .seq (List.foldl (fun x1 x2 => x1 ++ x2) #[] (List.replicate (if ws1.toArray.isEmpty = true then 0 else k.toNat) ws1.toArray)) }) rfl
      rw [rep_arr] at this ⊢
      exact this
  | FloorDiv =>
    refine hide fun G0 g0 => ?_
    obtain ⟨i, j, rfl, rfl, q⟩ := fdiv_inv q
    refine g0 ?_
    clear g0 G0
    obtain ⟨t, rfl⟩ := ra.int; obtain ⟨u, rfl⟩ := rb.int
    exact floordiv_int q.1 (PG.tok _ I rvI q.2.2) (.inl q.2.1)
  | Mod =>
    refine hide fun G0 g0 => ?_
    obtain ⟨i, j, rfl, rfl, q⟩ := mod_inv q
    refine g0 ?_
    clear g0 G0
    obtain ⟨t, rfl⟩ := ra.int; obtain ⟨u, rfl⟩ := rb.int
    exact mod_int' q.1 (PG.tok _ I rvI q.2)
  | _ => exact (show False from q).elim
end
end Mine
end
section
open PySem PySem.W PyProof.Rows PySem.Calls
set_option maxRecDepth 100000
set_option linter.unusedVariables false
namespace Mine

section
variable {prog : Program} {w : World} {base : Heap} {S : St} {s : Shared} {A : Around} {E : Value → Shared → Prop} {K : Frag}

theorem PD.reads (I : HInv prog w base s.heap S) {v : V} {d : PyData} (p : PD S v d) :
    (∀ x, RV s.heap v x → ∃ as, Reads s.heap x d as) ∧ (∀ vs ds, v = .vT vs → d = .tuple ds → ∀ ws, RVs s.heap vs ws → ∃ as, ReadsAll s.heap ws ds as) := by
  induction p with
  | none => exact ⟨fun x r => by rw [r.none]; exact ⟨_, .none⟩, fun _ _ e => nomatch e⟩
  | bool b => exact ⟨fun x r => by rw [r.bool]; exact ⟨_, .bool _⟩, fun _ _ e => nomatch e⟩
  | int i => exact ⟨fun x r => by obtain ⟨t, rfl⟩ := r.int; exact ⟨_, .int _ _⟩, fun _ _ e => nomatch e⟩
  | tupN =>
    have two : ∀ vs ds, V.vT [] = .vT vs → PyData.tuple [] = .tuple ds → ∀ ws, RVs s.heap vs ws → ∃ as, ReadsAll s.heap ws ds as := by
      intro vs ds e1 e2 ws r; cases e1; cases e2; simp only [RVs] at r; subst r; exact ⟨_, .nil⟩
    refine ⟨fun x r => ?_, two⟩
    refine hide fun G0 g0 => ?_
    obtain ⟨a, n, ws, rfl, g, r⟩ := r.tup
    refine g0 ?_
    clear g0 G0
    obtain ⟨as, q⟩ := two _ _ rfl rfl _ r
    exact ⟨_, reads_tuple_at g rfl rfl (by simpa using q)⟩
  | @tupC u us d' ds' p1 p2 ih1 ih2 =>
    have two : ∀ vs ds, V.vT (u :: us) = .vT vs → PyData.tuple (d' :: ds') = .tuple ds → ∀ ws, RVs s.heap vs ws → ∃ as, ReadsAll s.heap ws ds as := by
      intro vs ds e1 e2 ws r; cases e1; cases e2
      simp only [RVs] at r
      refine hide fun G0 g0 => ?_
      obtain ⟨x, r', rfl, hx, hr⟩ := r
      refine g0 ?_
      clear g0 G0
      obtain ⟨as, q⟩ := ih1.1 _ hx
      obtain ⟨bs, q'⟩ := ih2.2 _ _ rfl rfl _ hr
      exact ⟨_, .cons q q'⟩
    refine ⟨fun x r => ?_, two⟩
    refine hide fun G0 g0 => ?_
    obtain ⟨a, n, ws, rfl, g, r⟩ := r.tup
    refine g0 ?_
    clear g0 G0
    obtain ⟨as, q⟩ := two _ _ rfl rfl _ r
    exact ⟨_, reads_tuple_at g rfl rfl (by simpa using q)⟩
  | @lst a vs ds hl p1 ih =>
    refine ⟨fun x r => ?_, fun _ _ e => nomatch e⟩
    rw [r.ref]
    refine hide fun G0 g0 => ?_
    obtain ⟨_, ws, n, g, rr⟩ := lstOf_rep I hl
    refine g0 ?_
    clear g0 G0
    obtain ⟨as, q⟩ := ih.2 _ _ rfl rfl _ rr
    exact ⟨_, reads_list_at g rfl rfl (by simpa using q)⟩

theorem eqI (i j : Int) : (i == j) = decide (i = j) := by by_cases h : i = j <;> simp [h]
theorem neI (i j : Int) : (i != j) = !decide (i = j) := by by_cases h : i = j <;> simp [h]
theorem eqBv (x y : Bool) : (Value.bool x == Value.bool y) = (x == y) := by cases x <;> cases y <;> rfl
theorem lt_inv {a b : V} {k : Bool → Prop} (q : wCmp .Lt a b S k) : ∃ i j, a = .vI i ∧ b = .vI j ∧ k (decide (i < j)) := by
  induction a using V.casesOn with
  | vI i => induction b using V.casesOn with
    | vI j => exact ⟨i, j, rfl, rfl, q⟩
    | _ => exact (show False from q).elim
  | _ => exact (show False from q).elim
theorem le_inv {a b : V} {k : Bool → Prop} (q : wCmp .LtE a b S k) : ∃ i j, a = .vI i ∧ b = .vI j ∧ k (decide (i ≤ j)) := by
  induction a using V.casesOn with
  | vI i => induction b using V.casesOn with
    | vI j => exact ⟨i, j, rfl, rfl, q⟩
    | _ => exact (show False from q).elim
  | _ => exact (show False from q).elim
theorem gt_inv {a b : V} {k : Bool → Prop} (q : wCmp .Gt a b S k) : ∃ i j, a = .vI i ∧ b = .vI j ∧ k (decide (j < i)) := by
  induction a using V.casesOn with
  | vI i => induction b using V.casesOn with
    | vI j => exact ⟨i, j, rfl, rfl, q⟩
    | _ => exact (show False from q).elim
  | _ => exact (show False from q).elim
theorem ge_inv {a b : V} {k : Bool → Prop} (q : wCmp .GtE a b S k) : ∃ i j, a = .vI i ∧ b = .vI j ∧ k (decide (j ≤ i)) := by
  induction a using V.casesOn with
  | vI i => induction b using V.casesOn with
    | vI j => exact ⟨i, j, rfl, rfl, q⟩
    | _ => exact (show False from q).elim
  | _ => exact (show False from q).elim
theorem eq_inv {a b : V} {k : Bool → Prop} (q : wCmp .Eq a b S k) : (∃ i j, a = .vI i ∧ b = .vI j ∧ k (decide (i = j))) ∨ ∃ d e, PD S a d ∧ PD S b e ∧ SeqAt.shaped d = true ∧ SeqAt.shaped e = true ∧ k (PyData.eqv d e) := by
  induction a using V.casesOn with
  | vI i => induction b using V.casesOn with
    | vI j => exact .inl ⟨i, j, rfl, rfl, q⟩
    | _ => exact (show False from q).elim
  | vT x => induction b using V.casesOn with
    | vT y => exact .inr q
    | _ => exact (show False from q).elim
  | vR x => induction b using V.casesOn with
    | vR y => exact .inr q
    | _ => exact (show False from q).elim
  | _ => exact (show False from q).elim
theorem ne_inv {a b : V} {k : Bool → Prop} (q : wCmp .NotEq a b S k) : (∃ i j, a = .vI i ∧ b = .vI j ∧ k (!decide (i = j))) ∨ ∃ d e, PD S a d ∧ PD S b e ∧ SeqAt.shaped d = true ∧ SeqAt.shaped e = true ∧ k (!PyData.eqv d e) := by
  induction a using V.casesOn with
  | vI i => induction b using V.casesOn with
    | vI j => exact .inl ⟨i, j, rfl, rfl, q⟩
    | _ => exact (show False from q).elim
  | vT x => induction b using V.casesOn with
    | vT y => exact .inr q
    | _ => exact (show False from q).elim
  | vR x => induction b using V.casesOn with
    | vR y => exact .inr q
    | _ => exact (show False from q).elim
  | _ => exact (show False from q).elim
theorem is_inv {a b : V} {k : Bool → Prop} (q : wCmp .Is a b S k) : (∃ x y, a = .vB x ∧ b = .vB y ∧ k (x == y)) ∨ (a = .vN ∧ b = .vN ∧ k true) ∨ ∃ vs, a = .vT vs ∧ b = .vN ∧ k false := by
  induction a using V.casesOn with
  | vB x => induction b using V.casesOn with
    | vB y => exact .inl ⟨x, y, rfl, rfl, q⟩
    | _ => exact (show False from q).elim
  | vN => induction b using V.casesOn with
    | vN => exact .inr (.inl ⟨rfl, rfl, q⟩)
    | _ => exact (show False from q).elim
  | vT vs => induction b using V.casesOn with
    | vN => exact .inr (.inr ⟨vs, rfl, rfl, q⟩)
    | _ => exact (show False from q).elim
  | _ => exact (show False from q).elim
theorem isn_inv {a b : V} {k : Bool → Prop} (q : wCmp .IsNot a b S k) : ∃ x y, a = .vB x ∧ b = .vB y ∧ k (!(x == y)) := by
  induction a using V.casesOn with
  | vB x => induction b using V.casesOn with
    | vB y => exact ⟨x, y, rfl, rfl, q⟩
    | _ => exact (show False from q).elim
  | _ => exact (show False from q).elim
theorem item_inv {o j : V} {k : V → Prop} (q : item S o j k) : (∃ vs i, o = .vT vs ∧ j = .vI i ∧ 0 ≤ i ∧ i ≤ 1000 ∧ ∃ v, vs[i.toNat]? = some v ∧ k v) ∨ (∃ a i, o = .vR a ∧ j = .vI i ∧ ∃ vs v, lstOf S a = some vs ∧ itemL vs i = some v ∧ k v) ∨ ∃ a x, o = .vR a ∧ j = .vS x ∧ ∃ fs v, S a = some (.dict fs) ∧ fs.lookup x = some v ∧ k v := by
  induction o using V.casesOn with
  | vT vs => induction j using V.casesOn with
    | vI i => exact .inl ⟨vs, i, rfl, rfl, q⟩
    | _ => exact (show False from q).elim
  | vR a => induction j using V.casesOn with
    | vI i => exact .inr (.inl ⟨a, i, rfl, rfl, q⟩)
    | vS x => exact .inr (.inr ⟨a, x, rfl, rfl, q⟩)
    | _ => exact (show False from q).elim
  | _ => exact (show False from q).elim
theorem setItem_inv {o j v : V} {k : St → Prop} (q : setItemV S o j v k) : (∃ a i, o = .vR a ∧ j = .vI i ∧ ∃ vs n, S a = some (.lst vs) ∧ setIx vs.length i = some n ∧ k (put S a (.lst (vs.set n v)))) ∨ ∃ a x, o = .vR a ∧ j = .vS x ∧ ∃ fs, S a = some (.dict fs) ∧ (fs.lookup x).isSome = true ∧ k (put S a (.dict (putF fs x v))) := by
  induction o using V.casesOn with
  | vR a => induction j using V.casesOn with
    | vI i => exact .inl ⟨a, i, rfl, rfl, q⟩
    | vS x => exact .inr ⟨a, x, rfl, rfl, q⟩
    | _ => exact (show False from q).elim
  | _ => exact (show False from q).elim
theorem cmp_sound {d : Nat} (rm : Room A d) {op : CmpOp} {a b : V} {wa wb : Value} {k : Bool → Prop} (I : HInv prog w base s.heap S) (ra : RV s.heap a wa) (rb : RV s.heap b wb) (q : wCmp op a b S k) :
    wpAny (model prog w) A (compareOp op wa wb) (fun r s' => ∃ b, r = .bool b ∧ s' = s ∧ k b) E s := by
  have hu : A.units + 64 < cLine := by have := rm.units; lia
  induction op using PySem.CmpOp.casesOn with
  | Lt =>
    refine hide fun G0 g0 => ?_
    obtain ⟨i, j, rfl, rfl, q⟩ := lt_inv q
    refine g0 ?_
    clear g0 G0
    obtain ⟨t, rfl⟩ := ra.int; obtain ⟨u, rfl⟩ := rb.int; exact P.lt_int ⟨_, rfl, rfl, q⟩
  | LtE =>
    refine hide fun G0 g0 => ?_
    obtain ⟨i, j, rfl, rfl, q⟩ := le_inv q
    refine g0 ?_
    clear g0 G0
    obtain ⟨t, rfl⟩ := ra.int; obtain ⟨u, rfl⟩ := rb.int; exact P.le_int ⟨_, rfl, rfl, q⟩
  | Gt =>
    refine hide fun G0 g0 => ?_
    obtain ⟨i, j, rfl, rfl, q⟩ := gt_inv q
    refine g0 ?_
    clear g0 G0
    obtain ⟨t, rfl⟩ := ra.int; obtain ⟨u, rfl⟩ := rb.int; exact P.gt_int ⟨_, rfl, rfl, q⟩
  | GtE =>
    refine hide fun G0 g0 => ?_
    obtain ⟨i, j, rfl, rfl, q⟩ := ge_inv q
    refine g0 ?_
    clear g0 G0
    obtain ⟨t, rfl⟩ := ra.int; obtain ⟨u, rfl⟩ := rb.int; exact P.ge_int ⟨_, rfl, rfl, q⟩
  | Eq =>
    rcases eq_inv q with ⟨i, j, rfl, rfl, q⟩ | ⟨d1, d2, p1, p2, s1, s2, q⟩
    · obtain ⟨t, rfl⟩ := ra.int; obtain ⟨u, rfl⟩ := rb.int; exact P.eq_int ⟨_, rfl, rfl, by rw [eqI]; exact q⟩
    · obtain ⟨as, r1⟩ := (p1.reads I).1 _ ra
      obtain ⟨bs, r2⟩ := (p2.reads I).1 _ rb
      exact SeqAt.compareEq_shaped r1 r2 s1 s2 hu ⟨_, rfl, rfl, q⟩
  | NotEq =>
    rcases ne_inv q with ⟨i, j, rfl, rfl, q⟩ | ⟨d1, d2, p1, p2, s1, s2, q⟩
    · obtain ⟨t, rfl⟩ := ra.int; obtain ⟨u, rfl⟩ := rb.int; exact P.ne_int ⟨_, rfl, rfl, by rw [neI]; exact q⟩
    · obtain ⟨as, r1⟩ := (p1.reads I).1 _ ra
      obtain ⟨bs, r2⟩ := (p2.reads I).1 _ rb
      exact SeqAt.compareNe_shaped r1 r2 s1 s2 hu ⟨_, rfl, rfl, q⟩
  | Is =>
    rcases is_inv q with ⟨x, y, rfl, rfl, q⟩ | ⟨rfl, rfl, q⟩ | ⟨vs, rfl, rfl, q⟩
    · have e1 := ra.bool; have e2 := rb.bool; subst e1 e2
      exact wpAny_is_plain rfl ⟨_, rfl, rfl, by rw [eqBv]; exact q⟩
    · have e1 := ra.none; have e2 := rb.none; subst e1 e2
      exact wpAny_is_self rfl ⟨_, rfl, rfl, q⟩
    · obtain ⟨x, n, ws, rfl, _⟩ := ra.tup; have e2 := rb.none; subst e2
      exact wpAny_is_other rfl (fun e => nomatch e) ⟨_, rfl, rfl, q⟩
  | IsNot =>
    refine hide fun G0 g0 => ?_
    obtain ⟨x, y, rfl, rfl, q⟩ := isn_inv q
    refine g0 ?_
    clear g0 G0
    have e1 := ra.bool; have e2 := rb.bool; subst e1 e2
    exact wpAny_isNot_plain rfl ⟨_, rfl, rfl, by rw [eqBv]; exact q⟩
  | _ => exact (show False from q).elim

theorem truth_sound {v : V} {x : Value} {b : Bool} (I : HInv prog w base s.heap S) (r : RV s.heap v x) (q : truth S v = some b) :
    wpAny (model prog w) A (truthy x) (fun c s' => c = b ∧ ∃ tk, s' = { s with toks := tk }) E s := by
  induction v using V.casesOn with
  | vB c => rw [r.bool]; cases q; exact wpAny_truthy_bool ⟨rfl, _, rfl⟩
  | vN => rw [r.none]; cases q; exact truthy_none ⟨rfl, _, rfl⟩
  | vI i => obtain ⟨t, rfl⟩ := r.int; cases q; exact P.truthy_int ⟨rfl, _, rfl⟩
  | vR a =>
    rw [r.ref]
    obtain ⟨vs, hl, rfl⟩ := Option.map_eq_some_iff.mp q
    obtain ⟨hb, ws, n, g, rr⟩ := lstOf_rep I hl
    have hw := rr.length
    have hls : s.heap.IsList _ ws.toArray := ⟨_, g, rfl, n, rfl⟩
    refine wpAny_truthy_list hls ?_ ⟨?_, _, rfl⟩
    · simp only [List.size_toArray]; have : LB = 4096 := rfl; lia
    · induction ws using List.casesOn with
      | nil => induction vs using List.casesOn with
        | nil => rfl
        | cons _ _ => simp at hw
      | cons _ _ => induction vs using List.casesOn with
        | nil => simp at hw
        | cons _ _ => rfl
  | _ => cases q

theorem subs_plain {i : Expr} (h : plainE i = true) (o v : Value) : subscripted i false o v = operate [o, v] (getItem o v) := by
  induction i using PySem.Expr.casesOn with
  | Starred _ _ => cases h
  | Set _ _ _ => cases h
  | Slice _ _ _ _ => cases h
  | _ => rfl

theorem valueAt_of_lookup : ∀ {kvs : List (Str × Value)} {k : Str} {x : Value}, kvs.lookup k = some x → valueAt kvs k = some x
  | [], _, _, e => by simp at e
  | (y, v) :: r, k, x, e => by
    rw [List.lookup_cons] at e
    unfold valueAt
    rw [List.find?_cons]
    cases hb : k == y with
    | true =>
      rw [hb] at e; cases e
      have : y = k := (beq_iff_eq.mp hb).symm
      simp [this]
    | false =>
      rw [hb] at e
      have hne : ¬ y = k := fun q => by rw [q] at hb; simp at hb
      simp only [hne, decide_false]
      exact valueAt_of_lookup e

theorem item_sound {value i : Expr} (hp : plainE i = true) {o j : V} {wo wj : Value} {k : V → Prop} (I : HInv prog w base s.heap S) (ro : RV s.heap o wo) (rj : RV s.heap j wj) (q : item S o j k) :
    wpAny (model prog w) A (subscriptTail value i wo wj) (PG prog w base RV S s fun v S' => S' = S ∧ k v) E s := by
  rcases item_inv q with ⟨vs, j, rfl, rfl, h0, h1, v, hv, hk⟩ | ⟨a, j, rfl, rfl, vs, v, hl, hv, hk⟩ | ⟨a, x, rfl, rfl, fs, v, hl, hv, hk⟩
  · obtain ⟨t, rfl⟩ := rj.int
    refine hide fun G0 g0 => ?_
    obtain ⟨a, n, ws, rfl, g, rr⟩ := ro.tup
    refine g0 ?_
    clear g0 G0
    obtain ⟨x, hx, rx⟩ := rr.get hv
    have hlt : j.toNat < ws.length := (List.getElem?_eq_some_iff.mp hx).1
    refine tail_any (T := "tuple") ⟨_, g, rfl⟩ F.slot_tuple_getitem.lookup (P.getItem_tuple (n := n) (items := ws.toArray) (k := j.toNat) (y := x) g (by lia) (by lia) ?_ (by simpa using hx) (PG.here v I rx ⟨rfl, hk⟩)) (subs_plain hp _ _)
    unfold seqIndex?
    have e1 : ¬ j < 0 := by lia
    simp only [e1, if_false, List.size_toArray]
    have : (decide (0 ≤ j) && decide (j < (ws.length : Int))) = true := by simp; lia
    rw [if_pos this]
  · obtain ⟨t, rfl⟩ := rj.int
    have e := ro.ref; subst e
    refine hide fun G0 g0 => ?_
    obtain ⟨hb, ws, n, g, rr⟩ := lstOf_rep I hl
    refine g0 ?_
    clear g0 G0
    have hw := rr.length
    have hls : s.heap.IsList a ws.toArray := ⟨_, g, rfl, n, rfl⟩
    have hLB : LB = 4096 := rfl
    unfold itemL at hv
    refine tail_any (T := "list") hls.typeIs slot_list_getitem.lookup ?_ (subs_plain hp _ _)
    split at hv
    · rename_i h0
      obtain ⟨x, hx, rx⟩ := rr.get hv
      have hlt : j.toNat < ws.length := (List.getElem?_eq_some_iff.mp hx).1
      exact wpAny_getItem_list hls h0 (by lia) (by simpa using hx) (PG.here v I rx ⟨rfl, hk⟩)
    · rename_i h0
      split at hv
      · rename_i h1
        obtain ⟨x, hx, rx⟩ := rr.get hv
        refine wpAny_getItem_list_neg hls (by lia) (by simp only [List.size_toArray]; lia) (by lia) (x := x) ?_ (PG.here v I rx ⟨rfl, hk⟩)
        simp only [List.size_toArray, List.getElem?_toArray, hw]; exact hx
      · cases hv
  · obtain ⟨t, rfl⟩ := rj.str
    have e := ro.ref; subst e
    refine hide fun G0 g0 => ?_
    obtain ⟨_, kvs, hd, rr⟩ := I.rep _ _ hl
    refine g0 ?_
    clear g0 G0
    obtain ⟨y, hy, ry⟩ := rr.lookup hv
    refine tail_any (T := "dict") hd.typeIs slot_dict_getitem.lookup ?_ (subs_plain hp _ _)
    refine wpAny_getItem_of (knd := PySem.strKind prog w) (k := x) (f := valueAt kvs) (v := y) ?_ hd.mapOf (valueAt_of_lookup hy) ?_
    · simp [PySem.strKind, Value.isStrOf]
    · first | exact PG.tok v I ry ⟨rfl, hk⟩ | exact PG.here v I ry ⟨rfl, hk⟩

theorem putF_len {fs : List (Str × V)} {x : Str} {v : V} (h : (fs.lookup x).isSome = true) : (putF fs x v).length = fs.length := by
  induction fs with
  | nil => simp at h
  | cons p r ih =>
    obtain ⟨y, u⟩ := p
    unfold putF
    by_cases e : y = x
    · rw [if_pos e]; rfl
    · rw [if_neg e]
      rw [List.lookup_cons] at h
      have hb : (x == y) = false := beq_eq_false_iff_ne.mpr (Ne.symm e)
      rw [hb] at h
      simp [ih h]
theorem RBs.stored {h : Heap} {x : Str} {v : V} {y : Value} (rv : RV h v y) : ∀ {fs : List (Str × V)} {kvs : List (Str × Value)}, RBs h fs kvs → (kvs.map (·.1)).Nodup → (fs.lookup x).isSome = true →
    RBs h (putF fs x v) (kvs.map fun kv => if kv.1 = x then (kv.1, y) else kv)
  | [], _, e, _, hs => by simp at hs
  | (z, u) :: fs, _, e, nd, hs => by
    simp only [RBs] at e
    obtain ⟨w, r, rfl, hw, hr⟩ := e
    unfold putF
    rw [List.map_cons, List.nodup_cons] at nd
    by_cases q : z = x
    · subst q
      rw [if_pos rfl, List.map_cons, if_pos rfl]
      refine ⟨y, _, rfl, rv, ?_⟩
      rw [map_store_of_not_mem r z y nd.1]
      exact hr
    · rw [if_neg q, List.map_cons, if_neg q]
      rw [List.lookup_cons] at hs
      have hb : (x == z) = false := beq_eq_false_iff_ne.mpr (Ne.symm q)
      rw [hb] at hs
      exact ⟨w, _, rfl, hw, RBs.stored rv hr nd.2 hs⟩

theorem setItem_sound {o j v : V} {wo wj wv : Value} {k : St → Prop} (I : HInv prog w base s.heap S) (ro : RV s.heap o wo) (rj : RV s.heap j wj) (rv : RV s.heap v wv) (q : setItemV S o j v k) :
    wpAny (model prog w) A (setItem wo wj wv) (PG prog w base RU S s fun _ S' => k S') E s := by
  rcases setItem_inv q with ⟨a, j, rfl, rfl, vs, i, hl, hix, hk⟩ | ⟨a, x, rfl, rfl, fs, hl, hs, hk⟩
  · obtain ⟨t, rfl⟩ := rj.int
    have e := ro.ref; subst e
    refine hide fun G0 g0 => ?_
    obtain ⟨hb, ws, n, g, rr⟩ := I.rep _ _ hl
    refine g0 ?_
    clear g0 G0
    have hw := rr.length
    have hLB : LB = 4096 := rfl
    have hls : s.heap.IsList a ws.toArray := ⟨_, g, rfl, n, rfl⟩
    have own : Own S a := .of hl (fun _ e => nomatch e)
    have g' : s.heap.get? a = some { cls := .type "list", dict := none, data := .seq ws.toArray n, slots := #[] } := g
    have done : ∀ i : Nat, k (put S a (.lst (vs.set i v))) → PG prog w base RU S s (fun _ S' => k S') () { s with heap := s.heap.update a (Obj.mapSeq (·.setIfInBounds i wv)) } := fun i hk => by
      have gg := Heap.get?_update_self (Obj.mapSeq (·.setIfInBounds i wv)) g' rfl
      have kk : ∀ b o, b ≠ a → s.heap.get? b = some o → (s.heap.update a (Obj.mapSeq (·.setIfInBounds i wv))).get? b = some o := fun b o n e => (Heap.SameBut.update s.heap a _).extBut b o n e
      refine PG.upd (s := s) (tk := s.toks) () I own kk ?_ trivial hk
      refine ⟨by simpa using hb, ws.set i wv, n, ?_, ?_⟩
      · rw [gg]; simp [Obj.mapSeq]
      · exact (rr.set _ rv).mono (tupK_but I (by rw [hl]; exact fun z => nomatch z) kk)
    unfold setIx at hix
    split at hix
    · rename_i h0
      split at hix
      · rename_i h1
        cases hix
        exact ki_setAt g' h0 (by lia) (by simp only [List.size_toArray]; lia) (done _ hk)
      · cases hix
    · rename_i h0
      split at hix
      · rename_i h1
        cases hix
        refine ki_setBack g' (by lia) (by simp only [List.size_toArray]; lia) (by lia) ?_
        simp only [List.size_toArray, hw]
        exact done _ hk
      · cases hix
  · obtain ⟨t, rfl⟩ := rj.str
    have e := ro.ref; subst e
    refine hide fun G0 g0 => ?_
    obtain ⟨hln, kvs, hd, rr⟩ := I.rep _ _ hl
    refine g0 ?_
    clear g0 G0
    have own : Own S a := .of hl (fun _ e => nomatch e)
    have hkl : kvs.length = fs.length := by have := rr.map_fst; have h2 := congrArg List.length this; simpa using h2
    refine wpAny_setItem_pairs (knd := PySem.strKind prog w) (k := x) (by simp [PySem.strKind, Value.isStrOf]) hd (fun h' hd' hsb => ?_) (by rw [sizeLine_eq]; lia)
    have kk : ∀ b o, b ≠ a → s.heap.get? b = some o → h'.get? b = some o := fun b o n e => hsb.extBut b o n e
    have tk := tupK_but I (a := a) (by rw [hl]; exact fun z => nomatch z) kk
    have nd : (kvs.map (·.1)).Nodup := by obtain ⟨_, _, _, _, _, _, _, _, x⟩ := hd; exact x
    have hany : kvs.any (fun kv => decide (kv.1 = x)) = true := by
      obtain ⟨v', hv'⟩ := Option.isSome_iff_exists.mp hs
      obtain ⟨y, hy, _⟩ := rr.lookup hv'
      have := valueAt_of_lookup hy
      unfold valueAt at this
      obtain ⟨p, hp, _⟩ := Option.map_eq_some_iff.mp this
      exact List.any_eq_true.mpr ⟨p, List.mem_of_find?_eq_some hp, by simpa using List.find?_some hp⟩
    have rep : Rep prog w h' a (.dict (putF fs x v)) := by
      refine ⟨by rw [putF_len hs]; exact hln, _, hd', ?_⟩
      unfold stored
      rw [if_pos hany]
      exact RBs.stored (rv.mono tk) (rr.mono tk) nd hs
    exact PG.upd () I own kk rep trivial hk
end
end Mine
end
section
open PySem PySem.W PyProof.Rows PySem.Calls
set_option maxRecDepth 100000
set_option linter.unusedVariables false
namespace Mine

section
variable {prog : Program} {w : World} {base : Heap} {S : St} {s : Shared} {A : Around} {E : Value → Shared → Prop} {K : Frag}

theorem noF_handed {h : Heap} {v : V} {x : Value} (q : noF v = true) (r : RV h v x) : handedIn x = true := by
  induction v using V.casesOn with
  | vN => rw [r.none]; rfl
  | vB b => rw [r.bool]; rfl
  | vI i => obtain ⟨t, rfl⟩ := r.int; rfl
  | vS i => obtain ⟨t, rfl⟩ := r.str; rfl
  | vT vs => obtain ⟨a, n, ws, rfl, _⟩ := r.tup; rfl
  | vR a => rw [r.ref]; rfl
  | vF f => simp [noF] at q
theorem EntR.get {h : Heap} {x : Str} : ∀ {fs : List (Str × V)} {es : List DictEntry}, EntR h fs es → ∀ {v : V}, fs.lookup x = some v → ∃ y, getL x es = some (some y) ∧ RV h v y
  | [], _, _, _, e => by simp at e
  | (z, u) :: fs, _, r, v, e => by
    simp only [EntR] at r
    refine hide fun G0 g0 => ?_
    obtain ⟨en, r', rfl, ⟨t, hk⟩, hv, hr⟩ := r
    refine g0 ?_
    clear g0 G0
    rw [List.lookup_cons] at e
    unfold getL
    rw [List.find?_cons, hk]
    have hb : Value.isStr (.str z t) x = (z == x) := rfl
    rw [hb]
    by_cases q : x = z
    · subst q
      simp only [beq_self_eq_true] at e ⊢
      cases e
      exact ⟨_, rfl, hv⟩
    · have h1 : (x == z) = false := beq_eq_false_iff_ne.mpr q
      have h2 : (z == x) = false := beq_eq_false_iff_ne.mpr (Ne.symm q)
      rw [h1] at e; rw [h2]
      obtain ⟨y, hy, ry⟩ := EntR.get hr e
      refine ⟨y, ?_, ry⟩
      unfold getL at hy
      dsimp only
      split at hy
      · rename_i e' he'; rw [he']; exact hy
      · split at hy <;> cases hy
theorem EntR.norefs {h : Heap} : ∀ {fs : List (Str × V)} {es : List DictEntry}, EntR h fs es → es.any (·.refKey) = false
  | [], _, e => by simp only [EntR] at e; subst e; rfl
  | (z, u) :: fs, _, r => by
    simp only [EntR] at r
    refine hide fun G0 g0 => ?_
    obtain ⟨en, r', rfl, ⟨t, hk⟩, hv, hr⟩ := r
    refine g0 ?_
    clear g0 G0
    rw [List.any_cons, EntR.norefs hr]
    simp [DictEntry.refKey, hk]
theorem EntR.getS {h : Heap} {x : Str} {fs : List (Str × V)} {es : List DictEntry} (r : EntR h fs es) : (getL x es).isSome = true := by
  unfold getL
  split
  · rfl
  · rw [r.norefs]; rfl
theorem EntR.getN {h : Heap} {x : Str} : ∀ {fs : List (Str × V)} {es : List DictEntry}, EntR h fs es → fs.lookup x = none → getL x es = some none := by
  intro fs es r e
  have hf : es.find? (·.key.isStr x) = Option.none := by
    induction fs generalizing es with
    | nil => simp only [EntR] at r; subst r; rfl
    | cons p fs ih =>
      obtain ⟨z, u⟩ := p
      simp only [EntR] at r
      refine hide fun G0 g0 => ?_
      obtain ⟨en, r', rfl, ⟨t, hk⟩, hv, hr⟩ := r
      refine g0 ?_
      clear g0 G0
      rw [List.lookup_cons] at e
      rw [List.find?_cons, hk]
      have hb : Value.isStr (.str z t) x = (z == x) := rfl
      rw [hb]
      cases q : x == z with
      | true => rw [q] at e; cases e
      | false =>
        rw [q] at e
        have h2 : (z == x) = false := by
          cases q2 : z == x with
          | false => rfl
          | true => rw [beq_iff_eq.mp q2] at q; simp at q
        rw [h2]
        exact ih hr e
  unfold getL
  rw [hf, r.norefs]
  rfl
theorem EntR.put {h : Heap} {x : Str} {hs : Int} {tk : Tok} {v : V} {y : Value} (rv : RV h v y) : ∀ {fs : List (Str × V)} {es : List DictEntry}, EntR h fs es → EntR h (putF fs x v) (putL x hs (.str x tk) y es)
  | [], _, e => by
    simp only [EntR] at e; subst e
    exact ⟨_, _, rfl, ⟨tk, rfl⟩, rv, rfl⟩
  | (z, u) :: fs, _, r => by
    simp only [EntR] at r
    refine hide fun G0 g0 => ?_
    obtain ⟨en, r', rfl, ⟨t, hk⟩, hv, hr⟩ := r
    refine g0 ?_
    clear g0 G0
    unfold putF putL
    have hb : en.key.isStr x = (z == x) := by rw [hk]; rfl
    rw [hb]
    by_cases q : z = x
    · subst q
      simp only [if_true, beq_self_eq_true]
      exact ⟨_, _, rfl, ⟨t, hk⟩, rv, hr⟩
    · have h2 : (z == x) = false := beq_eq_false_iff_ne.mpr q
      rw [if_neg q, h2]
      exact ⟨_, _, rfl, ⟨t, hk⟩, hv, EntR.put rv hr⟩

theorem inst_at (I : HInv prog w base s.heap S) {a C dx : Addr} {fs : List (Str × V)} (h1 : S a = some (.inst C dx)) (h2 : S dx = some (.attrs fs)) :
    ∃ es n, s.heap.get? dx = some (dictOf es n) ∧ EntR s.heap fs es ∧ es.length ≤ 100 ∧ InstAt s.heap a (instObj C dx) C (some (dictOf es n)) := by
  have g := I.rep _ _ h1
  refine hide fun G0 g0 => ?_
  obtain ⟨hl, es, n, gd, r⟩ := I.rep _ _ h2
  refine g0 ?_
  clear g0 G0
  exact ⟨es, n, gd, r, by rw [r.length]; exact hl, ⟨g, rfl, rfl, gd⟩⟩

theorem getA_sound (X : K.In base) {o : V} {wo : Value} {name : Str} {expr : Bool} {k : V → Prop} (I : HInv prog w base s.heap S) (ro : RV s.heap o wo) (q : getA K S o name k) :
    wpAny (model prog w) A (getAttr wo name expr) (PG prog w base RV S s fun v S' => S' = S ∧ k v) E s := by
  unfold getA at q
  split at q
  · rename_i a
    have e := ro.ref; subst e
    refine hide fun G0 g0 => ?_
    obtain ⟨C, dx, fs, v, h1, h2, hd, hv, hn, hk⟩ := q
    refine g0 ?_
    clear g0 G0
    refine hide fun G0 g0 => ?_
    obtain ⟨es, n, gd, r, hl, IA⟩ := inst_at I h1 h2
    refine g0 ?_
    clear g0 G0
    obtain ⟨y, hy, ry⟩ := r.get hv
    simp only [dataOk, Bool.and_eq_true, beq_iff_eq] at hd
    obtain ⟨⟨d1, d2⟩, d3⟩ := hd
    exact get_value (X.keeps I.keep) IA (plainGet_of d1).1 (findObj_own d2 d3 rfl hy) (noF_handed hn ry) (PG.tok v I ry ⟨rfl, hk⟩)
  · exact q.elim

theorem store_at {x C dx : Addr} {name : Str} {v : Value} {es : List DictEntry} {n : Nat} {Q : Unit → Shared → Prop} (X : K.In s.heap) (IA : InstAt s.heap x (instObj C dx) C (some (dictOf es n))) (D : s.heap.get? dx = some (dictOf es n))
    (ok : setOk K C name = true) (hl : (getL name es).isSome = true) (hz : es.length ≤ 100)
    (h : ∀ h' es' n' tk hs, es' = putL name hs (.str name tk) v es → h'.get? dx = some (dictOf es' n') → Heap.SameBut dx s.heap h' → ∀ t, Q () { s with heap := h', toks := t }) :
    wpAny (model prog w) A (setAttr (.ref x) name v) Q E s := by
  simp only [setOk, Bool.and_eq_true, beq_iff_eq] at ok
  refine hide fun G0 g0 => ?_
  obtain ⟨⟨⟨o1, o2⟩, o3⟩, o4⟩ := ok
  refine g0 ?_
  clear g0 G0
  refine set_plain X IA o1 (osa_open (s := { s with toks := s.toks + 1 }) X IA o2 o3 fun b => ?_)
  obtain ⟨cd, hc, hd'⟩ := any_some o4
  have hx := IA.at_
  refine wpAny_bind (wpAny_pure (wpAny_bind (wpAny_bind (wpAny_loadPart hx (wpAny_bind (Looks.here (s := { s with toks := s.toks + 1 }) (looks_clsIn X hc) ?_))))))
  rw [hd']
  refine wpAny_pure (a := some dx) (wpAny_bind (wpAny_pure (wpAny_bind ?_)))
  unfold nsSet
  refine wpAny_bind (wpAny_bind (wpAny_askSetting (wpAny_pure (wpAny_bind (wpAny_mkText (wpAny_bind (wpAny_loadPart D ?_)))))))
  have c : (!es.toArray.any (·.key.isStr name) && es.toArray.any (·.refKey)) = false := by
    rw [← Array.any_toList, ← Array.any_toList]
    simp only [List.toList_toArray]
    unfold getL at hl
    split at hl
    · rename_i en he
      rw [List.any_eq_true.mpr ⟨en, List.mem_of_find?_eq_some he, List.find?_some he⟩]; rfl
    · split at hl
      · cases hl
      · rename_i z; rw [Bool.not_eq_true] at z; rw [z, Bool.and_false]
  dsimp only
  rw [aRefKeyMayBeTheName_at, c]
  have up := Heap.get?_update_self (Obj.putName name (PyData.keyHash w.params name) (.str name (s.toks + 1)) v) D (by rw [putName_dict]; rfl)
  rw [putName_dict] at up
  have hlen : ∀ (hs : Int) (key : Value), (putL name hs key v es).length ≤ es.length + 1 := by
    intro hs key
    clear up c hl D IA hx h hz
    induction es with
    | nil => simp [putL]
    | cons e r ih =>
      unfold putL
      split
      · simp
      · simp only [List.length_cons]; lia
  refine wpAny_updatePart D ?_
  refine wpAny_bind (wpAny_lookBehind up (pastItsLine_dict (by rw [List.size_toArray, sizeLine_eq]; have := hlen (PyData.keyHash w.params name) (.str name (s.toks + 1)); lia)) ?_)
  exact wpAny_pure (h _ _ _ _ _ rfl up (Heap.SameBut.update ..) _)

theorem setA_sound (X : K.In base) {o v : V} {wo wv : Value} {name : Str} {k : St → Prop} (I : HInv prog w base s.heap S) (ro : RV s.heap o wo) (rv : RV s.heap v wv) (q : setA K S o name v k) :
    wpAny (model prog w) A (setAttr wo name wv) (PG prog w base RU S s fun _ S' => k S') E s := by
  unfold setA at q
  split at q
  · rename_i a
    have e := ro.ref; subst e
    refine hide fun G0 g0 => ?_
    obtain ⟨C, dx, fs, h1, h2, hd, hl, hk⟩ := q
    refine g0 ?_
    clear g0 G0
    refine hide fun G0 g0 => ?_
    obtain ⟨es, n, gd, r, hel, IA⟩ := inst_at I h1 h2
    refine g0 ?_
    clear g0 G0
    refine store_at (X.keeps I.keep) IA gd hd r.getS hel fun h' es' n' tk hs he gd' hsb t => ?_
    have kk : ∀ b o, b ≠ dx → s.heap.get? b = some o → h'.get? b = some o := fun b o n e => hsb.extBut b o n e
    have tkk := tupK_but I (a := dx) (by rw [h2]; exact fun z => nomatch z) kk
    have rep : Rep prog w h' dx (.attrs (putF fs name v)) := ⟨hl, es', n', gd', by rw [he]; exact (r.mono tkk).put (rv.mono tkk)⟩
    exact PG.upd () I (.of h2 fun _ e => nomatch e) kk rep trivial hk
  · exact q.elim

noncomputable def listId (name : Str) : String := if name = "append" then "list.append" else "list.pop"
theorem listId_slot {name : Str} (h : listMethOk name = true) : Slot "list" name (listId name) ∧ typeOf (.builtin (listId name)) = pure (.type "method_descriptor") := by
  unfold listMethOk at h
  unfold listId
  simp only [Bool.or_eq_true, decide_eq_true_eq] at h
  by_cases q : name = "append"
  · subst q; rw [if_pos rfl]; exact ⟨F.slot_list_append, F.type_list_append⟩
  · rw [if_neg q]
    rcases h with h | h
    · exact absurd h q
    · subst h; exact ⟨F.slot_list_pop, F.type_list_pop⟩
theorem listMeth_sound {name : Str} {a : Addr} {vs : List V} {ws : List Value} {Q : V → St → Prop} (I : HInv prog w base s.heap S) (r : RVs s.heap vs ws) (q : listMeth name a vs S Q) :
    wpAny (model prog w) A (call (.builtin (listId name)) (.ref a :: ws)) (PG prog w base RV S s Q) E s := by
  unfold listId
  unfold listMeth at q
  split at q
  · rename_i hn
    rw [if_pos hn]
    split at q
    · rename_i v
      refine hide fun G0 g0 => ?_
      obtain ⟨xs, hx, hl, hq⟩ := q
      refine g0 ?_
      clear g0 G0
      simp only [RVs] at r
      refine hide fun G0 g0 => ?_
      obtain ⟨y, r', rfl, ry, rfl⟩ := r
      refine g0 ?_
      clear g0 G0
      refine hide fun G0 g0 => ?_
      obtain ⟨hb, us, n, g, rr⟩ := I.rep _ _ hx
      refine g0 ?_
      clear g0 G0
      have hu := rr.length
      refine wpAny_list_append_plain (items := us.toArray) ⟨n, g⟩ (fun h' hl' hs' => ?_) (by have := lb_line; simp only [List.size_toArray]; lia)
      have kk : ∀ b o, b ≠ a → s.heap.get? b = some o → h'.get? b = some o := fun b o n e => hs'.extBut b o n e
      have tkk := tupK_but I (a := a) (by rw [hx]; exact fun z => nomatch z) kk
      obtain ⟨n', g'⟩ := hl'
      have rep : Rep prog w h' a (.lst (xs ++ [v])) := ⟨by simpa using hl, us ++ [y], n', by rw [g']; simp, (rr.mono tkk).append (RVs.cons (ry.mono tkk) RVs.nil)⟩
      exact PG.upd (s := s) (tk := s.toks) _ I (.of hx fun _ e => nomatch e) kk rep rvN hq
    · exact q.elim
  · rename_i hn1
    rw [if_neg hn1]
    split at q
    · rename_i hn
      split at q
      · refine hide fun G0 g0 => ?_
        obtain ⟨xs, y, hx, hq⟩ := q
        refine g0 ?_
        clear g0 G0
        simp only [RVs] at r
        subst r
        refine hide fun G0 g0 => ?_
        obtain ⟨hb, us, n, g, rr⟩ := I.rep _ _ hx
        refine g0 ?_
        clear g0 G0
        have hu := rr.length
        simp only [List.length_append, List.length_cons, List.length_nil] at hu hb
        obtain ⟨z, hz, rz⟩ := rr.get (i := xs.length) (v := y) (by simp)
        have hsz : us.toArray.size - 1 = xs.length := by simp only [List.size_toArray]; lia
        have hz' : us.toArray[us.toArray.size - 1]? = some z := by rw [hsz]; simpa using hz
        refine call_meets F.slot_list_pop ⟨_, g, rfl⟩ F.entry_list_pop (F.args_list_pop_1 _) (MeetsSeq.list_pop_last a us.toArray n z hz' (by have := lb_line; simp only [List.size_toArray]; lia)) ⟨g, ?_⟩
        have g' := Heap.get?_update_self (Obj.mapSeq fun xs => xs.eraseIdxIfInBounds (us.toArray.size - 1)) g rfl
        have kk : ∀ b o, b ≠ a → s.heap.get? b = some o → (s.heap.update a (Obj.mapSeq fun xs => xs.eraseIdxIfInBounds (us.toArray.size - 1))).get? b = some o := fun b o n e => (Heap.SameBut.update s.heap a _).extBut b o n e
        have tkk := tupK_but I (a := a) (by rw [hx]; exact fun z => nomatch z) kk
        have cut : us.toArray.eraseIdxIfInBounds (us.toArray.size - 1) = (us.take xs.length).toArray := by
          rw [hsz]
          apply Array.toList_inj.mp
          have : xs.length < us.toArray.size := by simp only [List.size_toArray]; lia
          simp only [Array.eraseIdxIfInBounds, this, dif_pos, Array.toList_eraseIdx, List.toList_toArray]
          rw [List.eraseIdx_eq_take_drop_succ]
          rw [List.drop_eq_nil_of_le (by lia)]; simp
        have rep : Rep prog w (s.heap.update a (Obj.mapSeq fun xs => xs.eraseIdxIfInBounds (us.toArray.size - 1))) a (.lst xs) := by
          refine ⟨by lia, us.take xs.length, n + 1, ?_, ?_⟩
          · rw [g']
            simp only [Obj.mapSeq, cut]
            have : ((us.take xs.length).toArray.size == us.toArray.size) = false := by simp; lia
            rw [this]; rfl
          · have := (rr.mono tkk).take xs.length
            simpa using this
        exact PG.upd (s := s) (tk := s.toks) _ I (.of hx fun _ e => nomatch e) kk rep (rz.mono tkk) hq
      · exact q.elim
    · exact q.elim

theorem builtin_sound {d : Nat} (rm : Room A d) {g : Value} {vs : List V} {ws : List Value} {Q : V → St → Prop} (I : HInv prog w base s.heap S) (r : RVs s.heap vs ws) (q : builtinW g vs S Q) :
    wpAny (model prog w) A (call g ws) (PG prog w base RV S s Q) E s := by
  have hh := rm.handled
  unfold builtinW at q
  split at q
  · rename_i hg; subst hg
    split at q
    · rename_i a
      obtain ⟨xs, hl, hq⟩ := q
      simp only [RVs] at r
      obtain ⟨y, r', rfl, ry, rfl⟩ := r
      rw [ry.ref]
      obtain ⟨hb, us, n, g, rr⟩ := lstOf_rep I hl
      have hu := rr.length
      have hLB : LB = 4096 := rfl
      refine call_len_list (items := us.toArray) ⟨_, g, rfl, n, rfl⟩ (by simp only [List.size_toArray]; lia) (PG.tok _ I ?_ hq)
      simp only [List.size_toArray, hu]; exact rvI
    · exact q.elim
  · split at q
    · rename_i hg; subst hg
      split at q
      · rename_i i j
        simp only [RVs] at r
        obtain ⟨y, r', rfl, ry, z, r'', rfl, rz, rfl⟩ := r
        obtain ⟨t, rfl⟩ := ry.int; obtain ⟨u, rfl⟩ := rz.int
        refine max_two_ints hh fun h' tk hk => ?_
        refine PG.grown _ I hk ?_ q
        split
        · rename_i h1; rw [show max i j = j by lia]; exact rvI
        · rename_i h1; rw [show max i j = i by lia]; exact rvI
      · exact q.elim
    · split at q
      · rename_i hg; subst hg
        split at q
        · rename_i i j
          simp only [RVs] at r
          obtain ⟨y, r', rfl, ry, z, r'', rfl, rz, rfl⟩ := r
          obtain ⟨t, rfl⟩ := ry.int; obtain ⟨u, rfl⟩ := rz.int
          refine min_two_ints hh fun h' tk hk => ?_
          refine PG.grown _ I hk ?_ q
          split
          · rename_i h1; rw [show min i j = j by lia]; exact rvI
          · rename_i h1; rw [show min i j = i by lia]; exact rvI
        · exact q.elim
      · split at q
        · rename_i hg; subst hg
          split at q
          · rename_i a
            obtain ⟨xs, hl, hq⟩ := q
            simp only [RVs] at r
            obtain ⟨y, r', rfl, ry, rfl⟩ := r
            rw [ry.ref]
            obtain ⟨hb, us, n, g, rr⟩ := lstOf_rep I hl
            have hu := rr.length
            refine call_list_seq a (.inl rfl) g rfl rfl (fun h' c' hk hg' => ?_) (by have := lb_line; simp only [List.size_toArray]; lia)
            have rep : Rep prog w h' s.heap.objs.size (.lst xs) := ⟨hb, us, c', hg', rr.mono (TupK.of hk)⟩
            exact PG.alloc (s := s) (tk := s.toks) _ I hk (get_new _) rep rvR (hq _ I.fresh)
          · exact q.elim
        · split at q
          · rename_i hg; subst hg
            split at q
            · simp only [RVs] at r
              obtain ⟨y, r', rfl, ry, rfl⟩ := r
              obtain ⟨t, rfl⟩ := ry.int
              exact call_int_int (PG.here _ I rvI q)
            · exact q.elim
          · split at q
            · rename_i hg; subst hg
              split at q
              · simp only [RVs] at r
                obtain ⟨y, r', rfl, ry, rfl⟩ := r
                obtain ⟨a, n, us, e, g, rr⟩ := ry.tup
                subst e
                refine call_tuple_same (items := us.toArray) ⟨_, g, rfl, n, rfl⟩ (PG.here _ I ?_ q)
                simp only [RV]; exact ⟨a, n, us, rfl, g, rr⟩
              · exact q.elim
            · exact q.elim
end
end Mine
end
section
open PySem PySem.W PyProof.Rows PySem.Calls
set_option maxRecDepth 100000
set_option linter.unusedVariables false
namespace Mine

structure Frame (env : Env) (kd : Kd) (m : MM) (h : Heap) (S : St) : Prop where
  kind : env.scope.kind = .function
  names : ∀ x, env.kindOf x = kd.lookup x
  globals : env.globals = mainGlobals
  builtins : env.builtins = builtinsNs
  loc : ∃ ml, h.Ns env.locals ml ∧ ∀ x v, kd.lookup x = some .local → m x = some v → ∃ y, ml x = some y ∧ RV h v y
  locS : S env.locals = none
  cell : ∀ x, kd.lookup x = some .cell → ∃ c cv, env.cells.lookup x = some c ∧ h.IsCell c cv ∧ S c = none ∧ c ≠ env.locals ∧ ∀ v, m x = some v → ∃ y, cv = some y ∧ RV h v y
  apart : ∀ x y c, env.cells.lookup x = some c → env.cells.lookup y = some c → x = y

section
variable {prog : Program} {w : World} {base : Heap} {S S' : St} {h h' : Heap} {s : Shared} {A : Around} {E : Value → Shared → Prop} {K : Frag} {env : Env} {kd : Kd} {m : MM}

theorem notOwn_none {a : Addr} (e : S a = none) : ¬ Own S a := fun ⟨o, q, _⟩ => by rw [e] at q; cases q
theorem Ev.noneAt {X : Addr → Prop} (x : Ev X h S h' S') {a : Addr} {o : Obj} (g : h.get? a = some o) (e : S a = none) : S' a = none := by
  cases q : S' a with
  | none => rfl
  | some o' =>
    rcases x.dom a (by rw [q]; exact fun z => nomatch z) with r | r
    · exact absurd e r
    · rw [g] at r; cases r
theorem Frame.ev (F : Frame env kd m h S) {X : Addr → Prop} (x : Ev X h S h' S') (n1 : ¬ X env.locals) (n2 : ∀ y c, kd.lookup y = some .cell → env.cells.lookup y = some c → ¬ X c) : Frame env kd m h' S' := by
  obtain ⟨ml, hn, hl⟩ := F.loc
  refine hide fun G0 g0 => ?_
  obtain ⟨o, es, ep, g, r⟩ := id hn
  refine g0 ?_
  clear g0 G0
  refine ⟨F.kind, F.names, F.globals, F.builtins, ⟨ml, ⟨o, es, ep, x.keep _ _ n1 g (notOwn_none F.locS), r⟩, fun y v hk hv => ?_⟩, x.noneAt g F.locS, fun y hk => ?_, F.apart⟩
  · obtain ⟨z, e, rv⟩ := hl y v hk hv
    exact ⟨z, e, rv.mono x.tup⟩
  · refine hide fun G0 g0 => ?_
    obtain ⟨c, cv, hc, hcell, hs, hne, hv⟩ := F.cell y hk
    refine g0 ?_
    clear g0 G0
    obtain ⟨oc, gc, dc⟩ := id hcell
    refine ⟨c, cv, hc, ⟨oc, x.keep _ _ (n2 y c hk hc) gc (notOwn_none hs), dc⟩, x.noneAt gc hs, hne, fun v e => ?_⟩
    obtain ⟨z, e', rv⟩ := hv v e
    exact ⟨z, e', rv.mono x.tup⟩
theorem Frame.evN (F : Frame env kd m h S) (x : Ev noX h S h' S') : Frame env kd m h' S' := F.ev x id fun _ _ _ _ => id

theorem flat_rv {h : Heap} : ∀ (v : Value), RV h (flat v) v
  | .int i t => rvI
  | .str x t => rvS
  | .none | .ellipsis | .notImplemented | .bool _ | .float _ _ | .bytes _ _ | .type _ | .builtin _ | .ref _ => by simp only [flat, RV]
theorem flats_rv {h : Heap} : ∀ (vs : List Value), RVs h (vs.map flat) vs
  | [] => rfl
  | v :: vs => RVs.cons (flat_rv v) (flats_rv vs)
theorem gv_rv {h : Heap} (X : K.In h) (v : Value) : RV h (gv K v) v := by
  unfold gv
  split
  · exact rvI
  · rename_i a
    split
    · rename_i n xs sl e
      split
      · rename_i q
        obtain ⟨q1, q2⟩ := q
        subst q1
        simp only [RV]
        refine ⟨a, 0, xs.toList, rfl, ?_, flats_rv _⟩
        have := X _ _ e
        rw [this]
        have : sl = #[] := by apply Array.toList_inj.mp; simpa using q2
        subst this
        simp
      · simp only [RV]
    · simp only [RV]
  · simp only [RV]

theorem name_sound {p : Program} {loose : List Str} {mg mb : Str → Option Value} (X : K.In base) (T : TopRead p loose mg mb base) {x : Str} {pos : Pos} {v : V}
    (I : HInv prog w base s.heap S) (F : Frame env kd m s.heap S) (hd : (x == ("__debug__" : Str)) = false) (q : nameV K kd m x = some v) :
    wpAny (model prog w) A (eval (.Name x pos) env) (PG prog w base RV S s fun u S' => S' = S ∧ u = v) E s := by
  unfold nameV at q
  split at q
  · rename_i hk
    obtain ⟨ml, hn, hl⟩ := F.loc
    obtain ⟨y, e, rv⟩ := hl x v hk q
    exact wpAny_Name (wpAny_loadName_local F.kind ((F.names x).trans hk) hn e (PG.here v I rv ⟨rfl, rfl⟩)) hd
  · rename_i hk
    obtain ⟨c, cv, hc, hcell, hs, hne, hv⟩ := F.cell x hk
    obtain ⟨y, e, rv⟩ := hv v q
    subst e
    exact wpAny_Name (wpAny_loadName_cell F.kind ((F.names x).trans hk) hc hcell (PG.here v I rv ⟨rfl, rfl⟩)) hd
  · rename_i hk
    have hx := (F.names x).trans hk
    have XH := X.keeps I.keep
    unfold glob at q
    split at q
    · rename_i u e
      cases q
      refine Name_function_global F.kind hx (loadGlobal_global (mg := mg) (v := u) (by rw [F.globals]; exact T.g.keeps I.keep) (mg_of X T.g e) (PG.here _ I (gv_rv XH u) ⟨rfl, rfl⟩)) hd
    · rename_i e
      split at q
      · cases q
      · rename_i hne
        obtain ⟨u, hu, rfl⟩ := Option.map_eq_some_iff.mp q
        refine Name_function_global F.kind hx (loadGlobal_builtin (mg := mg) (mb := mb) (v := u) (by rw [F.globals]; exact T.g.keeps I.keep) (mg_none_of X T.g e) (by rw [F.builtins]; exact T.b.keeps I.keep)
          ((T.builtins x hne).trans hu) (PG.here _ I (by simp only [RV]) ⟨rfl, rfl⟩)) hd
    · cases q
  · cases q

/-- the objects of a def's own frame -/
noncomputable def Priv (env : Env) (kd : Kd) (a : Addr) : Prop := a = env.locals ∨ ∃ x, kd.lookup x = some .cell ∧ env.cells.lookup x = some a

theorem HInv.priv (I : HInv prog w base h S) {a : Addr} {ob : Obj} (e : S a = none) (b0 : base.get? a = none) (g : h.get? a = some ob) (nt : ∀ ws n, ob ≠ tupObj ws n) (k : ∀ b o, b ≠ a → h.get? b = some o → h'.get? b = some o) :
    HInv prog w base h' S := by
  have tk : TupK h h' := fun b ws n q => k b _ (by rintro rfl; rw [g] at q; exact nt _ _ (Option.some.inj q)) q
  exact ⟨fun b o q => k b o (by rintro rfl; rw [b0] at q; cases q) (I.keep b o q), fun b o q => (I.rep b o q).at (fun ob' z => k b ob' (by rintro rfl; rw [e] at q; cases q) z) tk, I.own⟩
theorem Ev.priv {X : Addr → Prop} {a : Addr} {ob : Obj} (xa : X a) (g : h.get? a = some ob) (nt : ∀ ws n, ob ≠ tupObj ws n) (k : ∀ b o, b ≠ a → h.get? b = some o → h'.get? b = some o) (live : h'.get? a ≠ none) : Ev X h S h' S := by
  refine ⟨fun b o n q _ => k b o (by rintro rfl; exact n xa) q, fun _ q => .inl q, fun _ _ q => q, fun b ws n q => k b _ (by rintro rfl; rw [g] at q; exact nt _ _ (Option.some.inj q)) q, fun b q => ?_⟩
  cases z : h.get? b with
  | none => rfl
  | some o =>
    by_cases n : b = a
    · subst n; exact absurd q live
    · rw [k b o n z] at q; cases q

noncomputable def PrivX (env : Env) (kd : Kd) (x : Str) (a : Addr) : Prop := a = env.locals ∨ (kd.lookup x = some .cell ∧ env.cells.lookup x = some a)
theorem PrivX.priv {x : Str} {a : Addr} (z : PrivX env kd x a) : Priv env kd a := z.elim .inl fun q => .inr ⟨x, q⟩
/-- what a store of a name leaves -/
theorem store_sound {x : Str} {v : V} {y : Value} (I : HInv prog w base s.heap S) (F : Frame env kd m s.heap S) (b0 : ∀ a, PrivX env kd x a → base.get? a = none) (hk : bindOk kd x = true) (rv : RV s.heap v y) {Q : Unit → Shared → Prop}
    (h : ∀ h' tk, HInv prog w base h' S → Ev (PrivX env kd x) s.heap S h' S → Frame env kd (setM m x v) h' S → Q () { s with heap := h', toks := tk }) :
    wpAny (model prog w) A (storeName env x y) Q E s := by
  simp only [bindOk, Bool.or_eq_true, beq_iff_eq] at hk
  obtain ⟨ml, hn, hl⟩ := F.loc
  rcases hk with hk | hk
  · refine wpAny_storeName_local ((F.names x).trans hk) hn (fun h' hn' hsb => ?_) (by rw [F.kind]; rfl)
    refine hide fun G0 g0 => ?_
    obtain ⟨oL, es, ep, gL, dL, rL⟩ := id hn
    refine g0 ?_
    clear g0 G0
    have nt : ∀ ws n, oL ≠ tupObj ws n := fun ws n q => by rw [q] at dL; cases dL
    have kk : ∀ b o, b ≠ env.locals → s.heap.get? b = some o → h'.get? b = some o := fun b o n e => hsb.extBut b o n e
    refine hide fun G0 g0 => ?_
    obtain ⟨oL', es', ep', gL', _⟩ := id hn'
    refine g0 ?_
    clear g0 G0
    have ev : Ev (PrivX env kd x) s.heap S h' S := Ev.priv (.inl rfl) gL nt kk (by rw [gL']; exact fun z => nomatch z)
    refine h h' _ (I.priv F.locS (b0 _ (.inl rfl)) gL nt kk) ev ⟨F.kind, F.names, F.globals, F.builtins, ⟨_, hn', fun z u hz hu => ?_⟩, F.locS, fun z hz => ?_, F.apart⟩
    · unfold setM at hu
      by_cases q : z = x
      · subst q; rw [if_pos rfl] at hu; cases hu; exact ⟨y, by simp, rv.mono ev.tup⟩
      · rw [if_neg q] at hu
        obtain ⟨u', e', ru⟩ := hl z u hz hu
        exact ⟨u', by simp [q, e'], ru.mono ev.tup⟩
    · refine hide fun G0 g0 => ?_
      obtain ⟨c, cv, hc, hcell, hs, hne, hv⟩ := F.cell z hz
      refine g0 ?_
      clear g0 G0
      refine ⟨c, cv, hc, hcell.sameBut hsb hne, hs, hne, fun u hu => ?_⟩
      unfold setM at hu
      have q : z ≠ x := by rintro rfl; rw [hk] at hz; cases hz
      rw [if_neg q] at hu
      obtain ⟨u', e', ru⟩ := hv u hu
      exact ⟨u', e', ru.mono ev.tup⟩
  · refine hide fun G0 g0 => ?_
    obtain ⟨c, cv, hc, hcell, hs, hne, hv⟩ := F.cell x hk
    refine g0 ?_
    clear g0 G0
    refine wpAny_storeName_cell F.kind ((F.names x).trans hk) hc hcell fun h' hc' hsb => ?_
    obtain ⟨oc, gc, dc⟩ := id hcell
    have nt : ∀ ws n, oc ≠ tupObj ws n := fun ws n q => by rw [q] at dc; cases dc
    have kk : ∀ b o, b ≠ c → s.heap.get? b = some o → h'.get? b = some o := fun b o n e => hsb.extBut b o n e
    obtain ⟨oc', gc', _⟩ := id hc'
    have ev : Ev (PrivX env kd x) s.heap S h' S := Ev.priv (.inr ⟨hk, hc⟩) gc nt kk (by rw [gc']; exact fun z => nomatch z)
    refine h h' s.toks (I.priv hs (b0 _ (.inr ⟨hk, hc⟩)) gc nt kk) ev ⟨F.kind, F.names, F.globals, F.builtins, ⟨ml, hn.sameBut hsb (Ne.symm hne), fun z u hz hu => ?_⟩, F.locS, fun z hz => ?_, F.apart⟩
    · unfold setM at hu
      have q : z ≠ x := by rintro rfl; rw [hk] at hz; cases hz
      rw [if_neg q] at hu
      obtain ⟨u', e', ru⟩ := hl z u hz hu
      exact ⟨u', e', ru.mono ev.tup⟩
    · by_cases q : z = x
      · subst q
        refine ⟨c, _, hc, hc', hs, hne, fun u hu => ?_⟩
        unfold setM at hu; rw [if_pos rfl] at hu; cases hu
        exact ⟨y, rfl, rv.mono ev.tup⟩
      · refine hide fun G0 g0 => ?_
        obtain ⟨c2, cv2, hc2, hcell2, hs2, hne2, hv2⟩ := F.cell z hz
        refine g0 ?_
        clear g0 G0
        have hcc : c2 ≠ c := by rintro rfl; exact q (F.apart _ _ _ hc2 hc)
        refine ⟨c2, cv2, hc2, hcell2.sameBut hsb hcc, hs2, hne2, fun u hu => ?_⟩
        unfold setM at hu; rw [if_neg q] at hu
        obtain ⟨u', e', ru⟩ := hv2 u hu
        exact ⟨u', e', ru.mono ev.tup⟩
end
end Mine
end
section
open PySem PySem.W PyProof.Rows PySem.Calls
set_option maxRecDepth 100000
set_option linter.unusedVariables false
namespace Mine

section
variable (prog : Program) (w : World) (base : Heap) (K : Frag) (call : Value → List V → St → (V → St → Prop) → Prop) (d : Nat)
noncomputable def CallOk : Prop := ∀ (A : Around) (g : Value) (vs : List V) (ws : List Value) (S : St) (s : Shared) (Q : V → St → Prop) (E : Value → Shared → Prop), Room A d → RVs s.heap vs ws → HInv prog w base s.heap S → call g vs S Q →
  wpAny (model prog w) A (PySem.call g ws) (PG prog w base RV S s Q) E s
noncomputable def RKV (h : Heap) : List (Str × V) → List (Value × Value) → Prop
  | [], ws => ws = []
  | (x, v) :: fs, ws => ∃ t y r, ws = (.str x t, y) :: r ∧ RV h v y ∧ RKV h fs r
noncomputable def RVsN (n : Nat) (h : Heap) (vs : List V) (ws : List Value) : Prop := RVs h vs ws ∧ ws.length = n
noncomputable def RKVN (n : Nat) (h : Heap) (vs : List (Str × V)) (ws : List (Value × Value)) : Prop := RKV h vs ws ∧ ws.length = n
noncomputable def RBool (_ : Heap) (b : Bool) (v : Value) : Prop := v = .bool b

noncomputable def EC (n : Nat) : Prop := ∀ (A : Around) (env : Env) (kd : Kd) (m : MM) (e : Expr) (S : St) (s : Shared) (Q : V → St → Prop) (E : Value → Shared → Prop), Room A d → Frame env kd m s.heap S → HInv prog w base s.heap S →
  wE K call n kd m e S Q → wpAny (model prog w) A (eval e env) (PG prog w base RV S s Q) E s
noncomputable def TC (n : Nat) : Prop := ∀ (A : Around) (env : Env) (kd : Kd) (m : MM) (e : Expr) (S : St) (s : Shared) (Q : Bool → St → Prop) (E : Value → Shared → Prop), Room A d → Frame env kd m s.heap S → HInv prog w base s.heap S →
  wT K call n kd m e S Q → wpAny (model prog w) A (isTrue e env (eval e env)) (PG prog w base REq S s Q) E s
noncomputable def AC (n : Nat) : Prop := ∀ (A : Around) (env : Env) (kd : Kd) (m : MM) (op : BoolOp) (es : List Expr) (S : St) (s : Shared) (Q : Bool → St → Prop) (E : Value → Shared → Prop), Room A d → Frame env kd m s.heap S → HInv prog w base s.heap S →
  wAll K call n kd m op es S Q → wpAny (model prog w) A (allTrue op es env) (PG prog w base REq S s Q) E s
noncomputable def BC (n : Nat) : Prop := ∀ (A : Around) (env : Env) (kd : Kd) (m : MM) (pos : Pos) (op : BoolOp) (es : List Expr) (S : St) (s : Shared) (Q : V → St → Prop) (E : Value → Shared → Prop), Room A d → Frame env kd m s.heap S → HInv prog w base s.heap S →
  wBool K call n kd m op es S Q → wpAny (model prog w) A (boolOp pos op (evalEach es env)) (PG prog w base RV S s Q) E s
noncomputable def CC (n : Nat) : Prop := ∀ (A : Around) (env : Env) (kd : Kd) (m : MM) (pos : Pos) (a : V) (wa : Value) (ops : List CmpOp) (cs : List Expr) (S : St) (s : Shared) (Q : Bool → St → Prop) (E : Value → Shared → Prop), Room A d → Frame env kd m s.heap S → HInv prog w base s.heap S →
  RV s.heap a wa → wChain K call n kd m a ops cs S Q → wpAny (model prog w) A (testChain pos wa ops (evalEach cs env)) (PG prog w base REq S s Q) E s ∧ wpAny (model prog w) A (compareChain pos wa ops (evalEach cs env)) (PG prog w base RBool S s Q) E s
noncomputable def LC (n : Nat) : Prop := ∀ (A : Around) (env : Env) (kd : Kd) (m : MM) (pos : Pos) (es : List Expr) (S : St) (s : Shared) (Q : List V → St → Prop) (E : Value → Shared → Prop), Room A d → Frame env kd m s.heap S → HInv prog w base s.heap S →
  wEs K call n kd m es S Q → wpAny (model prog w) A (spliced (backTo pos (starEach es env))) (PG prog w base (RVsN es.length) S s Q) E s
noncomputable def OC (n : Nat) : Prop := ∀ (A : Around) (env : Env) (kd : Kd) (m : MM) (e : Option Expr) (S : St) (s : Shared) (Q : Option Int → St → Prop) (E : Value → Shared → Prop), Room A d → Frame env kd m s.heap S → HInv prog w base s.heap S →
  wOpt K call n kd m e S Q → wpAny (model prog w) A (evalPart e env) (PG prog w base ROpt S s Q) E s
noncomputable def DC (n : Nat) : Prop := ∀ (A : Around) (env : Env) (kd : Kd) (m : MM) (pos : Pos) (ks : List (Option Expr)) (es : List Expr) (S : St) (s : Shared) (Q : List (Str × V) → St → Prop) (E : Value → Shared → Prop), Room A d → Frame env kd m s.heap S → HInv prog w base s.heap S →
  wDict K call n kd m ks es S Q → wpAny (model prog w) A (evalPairs (pairTrees ks es env pos)) (PG prog w base (RKVN ks.length) S s Q) E s
end

section
variable {prog : Program} {w : World} {base : Heap} {K : Frag} {call : Value → List V → St → (V → St → Prop) → Prop} {d : Nat} {A : Around} {E : Value → Shared → Prop} {S S1 : St} {s : Shared} {env : Env} {kd : Kd} {m : MM} {n : Nat}

theorem PG.step {α β γ : Type} {R : Heap → α → β → Prop} {Q : α → St → Prop} {t : Sem β} {Qf : β → Shared → Prop} (h : wpAny (model prog w) A t (PG prog w base R S s Q) E s)
    (k : ∀ v b S1 h1 tk, R h1 v b → HInv prog w base h1 S1 → Ev noX s.heap S h1 S1 → Q v S1 → Qf b { s with heap := h1, toks := tk }) : wpAny (model prog w) A t Qf E s :=
  wpAny_mono h (fun b s1 ⟨v, S1, h1, tk, e, r, i, ev, q⟩ => by subst e; exact k v b S1 h1 tk r i ev q) fun _ _ x => x
theorem PG.cont {α β : Type} {R : Heap → α → β → Prop} {Q : α → St → Prop} {t : Sem β} {h1 : Heap} {t1 : Nat} (ev : Ev noX s.heap S h1 S1)
    (h : wpAny (model prog w) A t (PG prog w base R S1 { s with heap := h1, toks := t1 } Q) E { s with heap := h1, toks := t1 }) : wpAny (model prog w) A t (PG prog w base R S s Q) E { s with heap := h1, toks := t1 } :=
  wpAny_mono h (fun _ _ x => PG.trans ev x) fun _ _ x => x

theorem notSuper_base {o : Expr} {name : Str} {t : Sem Value} (h : notSuper o = true) : attributeBase o name env t = t := by
  induction o using PySem.Expr.casesOn with
  | Call f _ _ _ => induction f using PySem.Expr.casesOn with
    | Name _ _ => cases h
    | _ => rfl
  | _ => rfl

theorem starEach_plain {e : Expr} {es : List Expr} (h : plainE e = true) : starEach (e :: es) env = (false, eval e env) :: starEach es env := by
  cases e with
  | Starred _ _ => cases h
  | _ => rfl
theorem marks_plain {op : CmpOp} {e : Expr} (h : plainE e = true) : behindInMarks op e = false := by
  cases e with
  | Set _ _ _ => cases h
  | _ => rfl
theorem lastMarks_plain : ∀ {ops : List CmpOp} {cs : List Expr}, cs.all plainE = true → lastMarks ops cs = false
  | [], _, _ => by simp [lastMarks]
  | _ :: _, [], _ => by simp [lastMarks]
  | [op], [c], h => by
    simp only [List.all_cons, List.all_nil, Bool.and_true] at h
    simpa [lastMarks] using marks_plain h
  | [_], _ :: _ :: _, _ => by simp [lastMarks]
  | _ :: _ :: _, [_], _ => by simp [lastMarks]
  | _ :: o :: ops, c :: e :: es, h => by
    simp only [List.all_cons, Bool.and_eq_true] at h
    have := lastMarks_plain (ops := o :: ops) (cs := e :: es) (by simp only [List.all_cons, Bool.and_eq_true]; exact h.2)
    simpa [lastMarks] using this

theorem AC.succ (T : TC prog w base K call d n) (B : AC prog w base K call d n) : AC prog w base K call d (n + 1) := by
  intro A env kd m op es S s Q E rm F I h
  induction es using List.casesOn with
  | nil => cases op with
    | And => exact wpAny_allTrue_And_nil (PG.here _ I rfl (E_a_and0.mp h))
    | Or => exact wpAny_allTrue_Or_nil (PG.here _ I rfl (E_a_or0.mp h))
  | cons e es =>
    cases op with
    | And =>
      have h := E_a_and.mp h
      refine wpAny_allTrue_And_cons (PG.step (γ := Unit) (T A env kd m e S s _ E rm F I h) fun v b S1 h1 tk r I1 ev q => ?_)
      cases r
      induction v using Bool.casesOn with
      | true => exact PG.cont ev (B A env kd m .And es S1 _ Q E rm (F.evN ev) I1 q)
      | false => exact PG.trans ev (PG.here (s := { s with heap := h1, toks := tk }) _ I1 rfl q)
    | Or =>
      have h := E_a_or.mp h
      refine wpAny_allTrue_Or_cons (PG.step (γ := Unit) (T A env kd m e S s _ E rm F I h) fun v b S1 h1 tk r I1 ev q => ?_)
      cases r
      induction v using Bool.casesOn with
      | false => exact PG.cont ev (B A env kd m .Or es S1 _ Q E rm (F.evN ev) I1 q)
      | true => exact PG.trans ev (PG.here (s := { s with heap := h1, toks := tk }) _ I1 rfl q)

theorem BC.succ (C : EC prog w base K call d n) (B : BC prog w base K call d n) : BC prog w base K call d (n + 1) := by
  intro A env kd m pos op es S s Q E rm F I h
  induction es using List.casesOn with
  | nil => exact (show False from h).elim
  | cons e es =>
    induction es using List.casesOn with
    | nil => have h := E_b_last.mp h; exact C A env kd m e S s Q E rm F I h
    | cons e2 es =>
      have body : ∀ k : Sem Value, boolOp pos op (evalEach (e :: e2 :: es) env) = (do
          let v ← eval e env
          standAt pos
          let t ← holding [v] (truthy v)
          match op, t with
          | .And, false | .Or, true => pure v
          | _, _ => boolOp pos op (evalEach (e2 :: es) env)) := fun _ => rfl
      rw [body (pure .none)]
      cases op with
      | And =>
        have h := E_b_and.mp h
        refine wpAny_bind (PG.step (γ := Unit) (C A env kd m e S s _ E rm F I h) fun v b S1 h1 tk r I1 ev q => ?_)
        obtain ⟨t, ht, q⟩ := q
        refine wpAny_bind (wpAny_standAt (wpAny_bind (wpAny_holding (wpAny_mono (truth_sound (s := { s with heap := h1, toks := tk }) I1 r ht) (fun c s2 hc => ?_) fun _ _ x => x))))
        obtain ⟨rfl, tk2, rfl⟩ := hc
        induction c using Bool.casesOn with
        | true => exact PG.cont (s := s) (t1 := tk2) ev (B A env kd m pos .And (e2 :: es) S1 _ Q E rm (F.evN ev) I1 q)
        | false => exact wpAny_pure (PG.trans (s := s) ev (PG.here (s := { s with heap := h1, toks := tk2 }) _ I1 r q))
      | Or =>
        have h := E_b_or.mp h
        refine wpAny_bind (PG.step (γ := Unit) (C A env kd m e S s _ E rm F I h) fun v b S1 h1 tk r I1 ev q => ?_)
        obtain ⟨t, ht, q⟩ := q
        refine wpAny_bind (wpAny_standAt (wpAny_bind (wpAny_holding (wpAny_mono (truth_sound (s := { s with heap := h1, toks := tk }) I1 r ht) (fun c s2 hc => ?_) fun _ _ x => x))))
        obtain ⟨rfl, tk2, rfl⟩ := hc
        induction c using Bool.casesOn with
        | false => exact PG.cont (s := s) (t1 := tk2) ev (B A env kd m pos .Or (e2 :: es) S1 _ Q E rm (F.evN ev) I1 q)
        | true => exact wpAny_pure (PG.trans (s := s) ev (PG.here (s := { s with heap := h1, toks := tk2 }) _ I1 r q))

theorem LC.succ (C : EC prog w base K call d n) (B : LC prog w base K call d n) : LC prog w base K call d (n + 1) := by
  intro A env kd m pos es S s Q E rm F I h
  induction es using List.casesOn with
  | nil => exact wpAny_items_nil (PG.here [] I ⟨rfl, rfl⟩ (E_e_nil.mp h))
  | cons e es =>
    have h := E_e_cons.mp h
    refine wpAny_items_cons (PG.step (γ := Unit) (C A env kd m e S s _ E rm F I h.2) fun v b S1 h1 tk r I1 ev q => ?_) (starEach_plain h.1)
    refine PG.step (γ := Unit) (B A env kd m pos es S1 _ _ E rm (F.evN ev) I1 q) fun vs bs S2 h2 tk2 r2 I2 ev2 q2 => ?_
    exact PG.trans (s := s) ev ⟨v :: vs, S2, h2, tk2, rfl, ⟨RVs.cons (r.mono ev2.tup) r2.1, by simp [r2.2]⟩, I2, ev2, q2⟩

theorem OC.succ (C : EC prog w base K call d n) : OC prog w base K call d (n + 1) := by
  intro A env kd m e S s Q E rm F I h
  induction e using Option.casesOn with
  | none => exact wpAny_pure (PG.here none I rfl (E_o_none.mp h))
  | some e =>
    have h := E_o_some.mp h
    show wpAny _ _ (eval e env) _ _ _
    refine PG.step (γ := Unit) (C A env kd m e S s _ E rm F I h) fun v b S1 h1 tk r I1 ev q => ?_
    obtain ⟨i, rfl, q⟩ := q
    exact ⟨some i, S1, h1, tk, rfl, r.int, I1, ev, q⟩

theorem RKV.mono {h h' : Heap} (k : TupK h h') : ∀ {fs : List (Str × V)} {ws : List (Value × Value)}, RKV h fs ws → RKV h' fs ws
  | [], _, e => e
  | (x, v) :: fs, _, e => by
    simp only [RKV] at e ⊢
    obtain ⟨t, y, r, rfl, hw, hr⟩ := e
    exact ⟨t, y, r, rfl, hw.mono k, RKV.mono k hr⟩
theorem DC.succ (C : EC prog w base K call d n) (B : DC prog w base K call d n) : DC prog w base K call d (n + 1) := by
  intro A env kd m pos ks es S s Q E rm F I h
  induction ks using List.casesOn with
  | nil => induction es using List.casesOn with
    | nil => exact pairTrees_nil_walk (PG.here [] I ⟨rfl, rfl⟩ (E_d_nil.mp h))
    | cons _ _ => exact (show False from h).elim
  | cons k ks => induction k using Option.casesOn with
    | none => cases es <;> exact (show False from h).elim
    | some k => induction es using List.casesOn with
      | nil => exact (show False from h).elim
      | cons e es =>
        have h := E_d_cons.mp h
        refine pairTrees_cons_walk (PG.step (γ := Unit) (C A env kd m k S s _ E rm F I h) fun v b S1 h1 tk r I1 ev q => ?_)
        obtain ⟨x, rfl, q⟩ := q
        obtain ⟨t, rfl⟩ := r.str
        refine PG.step (γ := Unit) (C A env kd m e S1 _ _ E rm (F.evN ev) I1 q) fun v2 b2 S2 h2 tk2 r2 I2 ev2 q2 => ?_
        refine PG.step (γ := Unit) (B A env kd m pos ks es S2 _ _ E rm ((F.evN ev).evN ev2) I2 q2) fun vs bs S3 h3 tk3 r3 I3 ev3 q3 => ?_
        exact ⟨(x, v2) :: vs, S3, h3, tk3, rfl, ⟨⟨t, b2, bs, rfl, r2.mono ev3.tup, r3.1⟩, by simp [r3.2]⟩, I3, (ev.trans ev2).trans ev3, q3⟩

theorem CC.succ (C : EC prog w base K call d n) (B : CC prog w base K call d n) : CC prog w base K call d (n + 1) := by
  intro A env kd m pos a wa ops cs S s Q E rm F I ra h
  induction ops using List.casesOn with
  | nil => exact (show False from h).elim
  | cons op ops => induction cs using List.casesOn with
    | nil => cases ops <;> exact (show False from h).elim
    | cons c cs =>
      have cmp : ∀ {k : Bool → Prop} {v : V} {b : Value} {S1 : St} {h1 : Heap} {tk : Nat} (E : Value → Shared → Prop), RV h1 v b → HInv prog w base h1 S1 → Ev noX s.heap S h1 S1 → wCmp op a v S1 k →
          wpAny (model prog w) A (compareOp op wa b) (fun r s' => ∃ b, r = .bool b ∧ s' = { s with heap := h1, toks := tk } ∧ k b) E { s with heap := h1, toks := tk } :=
        fun E r I1 ev q => cmp_sound (s := { s with heap := _, toks := _ }) rm I1 (ra.mono ev.tup) r q
      induction ops using List.casesOn with
      | nil => induction cs using List.casesOn with
        | nil =>
          have h := E_c_one.mp h
          constructor
          · refine test_last (PG.step (γ := Unit) (C A env kd m c S s _ E rm F I h) fun v b S1 h1 tk r I1 ev q => ?_)
            refine wpAny_mono (cmp E r I1 ev q) (fun cv s2 hc => ?_) fun _ _ x => x
            obtain ⟨t, rfl, rfl, q2⟩ := hc
            exact wpAny_truthy_bool (PG.trans (s := s) ev (PG.here (s := { s with heap := h1, toks := tk }) _ I1 rfl q2))
          · refine chain_last (PG.step (γ := Unit) (C A env kd m c S s _ E rm F I h) fun v b S1 h1 tk r I1 ev q => ?_)
            refine wpAny_mono (cmp E r I1 ev q) (fun cv s2 hc => ?_) fun _ _ x => x
            obtain ⟨t, rfl, rfl, q2⟩ := hc
            exact PG.trans (s := s) ev (PG.here (s := { s with heap := h1, toks := tk }) t I1 rfl q2)
        | cons c2 cs => exact (show False from h).elim
      | cons op2 ops => induction cs using List.casesOn with
        | nil => exact (show False from h).elim
        | cons c2 cs =>
          have h := E_c_two.mp h
          constructor
          · refine test_link (PG.step (γ := Unit) (C A env kd m c S s _ E rm F I h) fun v b S1 h1 tk r I1 ev q => ?_)
            refine wpAny_mono (cmp E r I1 ev q) (fun cv s2 hc => ?_) fun _ _ x => x
            obtain ⟨t, rfl, rfl, q2⟩ := hc
            refine wpAny_truthy_bool ?_
            induction t using Bool.casesOn with
            | true => exact PG.cont (s := s) ev (B A env kd m pos v b (op2 :: ops) (c2 :: cs) S1 _ Q E rm (F.evN ev) I1 r q2).1
            | false => exact PG.trans (s := s) ev (PG.here (s := { s with heap := h1, toks := tk }) _ I1 rfl q2)
          · refine chain_link (PG.step (γ := Unit) (C A env kd m c S s _ E rm F I h) fun v b S1 h1 tk r I1 ev q => ?_)
            refine wpAny_mono (cmp E r I1 ev q) (fun cv s2 hc => ?_) fun _ _ x => x
            obtain ⟨t, rfl, rfl, q2⟩ := hc
            refine wpAny_truthy_bool ?_
            induction t using Bool.casesOn with
            | true => exact PG.cont (s := s) ev (B A env kd m pos v b (op2 :: ops) (c2 :: cs) S1 _ Q E rm (F.evN ev) I1 r q2).2
            | false => exact PG.trans (s := s) ev (PG.here (s := { s with heap := h1, toks := tk }) false I1 rfl q2)
end
end Mine
end
section
open PySem PySem.W PyProof.Rows PySem.Calls
set_option maxRecDepth 100000
set_option linter.unusedVariables false
namespace Mine

noncomputable def ChF (h0 h : Heap) (S : St) (h' : Heap) : Prop := ∃ P : Addr → Prop, (∀ a, P a → h0.get? a = none) ∧ (∀ a, P a → S a = none) ∧ (∀ a, P a → ∃ o, h.get? a = some o ∧ ∃ vs, o.data = .fields vs) ∧ (∀ b o, ¬ P b → h.get? b = some o → h'.get? b = some o)
/-- private objects of a statement's own change: none of them was there when it began -/
noncomputable def Ch (h0 h : Heap) (S : St) (h' : Heap) : Prop := ∃ P : Addr → Prop, (∀ a, P a → h0.get? a = none) ∧ (∀ a, P a → S a = none) ∧ (∀ a, P a → ∀ ws n, h.get? a ≠ some (tupObj ws n)) ∧ (∀ b o, ¬ P b → h.get? b = some o → h'.get? b = some o)

section
variable {prog : Program} {w : World} {base : Heap} {K : Frag} {d : Nat} {A : Around} {E : Value → Shared → Prop} {S S0 S' : St} {s : Shared} {env : Env} {kd : Kd} {m : MM} {h0 h h' : Heap} {X : Addr → Prop}

theorem Ch.grow (k : ∀ b o, h.get? b = some o → h'.get? b = some o) : Ch h0 h S h' := ⟨fun _ => False, fun _ f => f.elim, fun _ f => f.elim, fun _ f => f.elim, fun b o _ e => k b o e⟩
theorem Ch.tup (c : Ch h0 h S h') : TupK h h' := by
  obtain ⟨P, _, _, nt, k⟩ := c
  exact fun a ws n e => k a _ (fun p => nt a p ws n e) e
theorem Ch.ev (c : Ch h0 h S h') (x : Ev X h0 S0 h S) : Ev X h0 S0 h' S := by
  have tk := c.tup
  refine hide fun G0 g0 => ?_
  obtain ⟨P, p1, p2, nt, k⟩ := c
  refine g0 ?_
  clear g0 G0
  have off : ∀ a o, h0.get? a = some o → ¬ P a := fun a o e p => by rw [p1 a p] at e; cases e
  refine ⟨fun b o n e q => k b o (off b o e) (x.keep b o n e q), x.dom, x.ro, x.tup.trans tk, fun a e => ?_⟩
  cases z : h0.get? a with
  | none => rfl
  | some o =>
    exfalso
    cases y : h.get? a with
    | none => rw [x.live a y] at z; cases z
    | some o' => rw [k a o' (off a o z) y] at e; cases e
theorem Ch.inv (c : Ch h0 h S h') (I0 : ∀ b o, base.get? b = some o → h0.get? b = some o) (I : HInv prog w base h S) : HInv prog w base h' S := by
  have tk := c.tup
  refine hide fun G0 g0 => ?_
  obtain ⟨P, p1, p2, nt, k⟩ := c
  refine g0 ?_
  clear g0 G0
  refine ⟨fun b o e => k b o (fun p => ?_) (I.keep b o e), fun a o e => (I.rep a o e).at (fun ob z => k a ob (fun p => ?_) z) tk, I.own⟩
  · have := I0 b o e; rw [p1 b p] at this; cases this
  · rw [p2 a p] at e; cases e
theorem Frame.keeps (F : Frame env kd m h S) (k : ∀ b o, Priv env kd b → h.get? b = some o → h'.get? b = some o) (t : TupK h h') : Frame env kd m h' S := by
  obtain ⟨ml, hn, hl⟩ := F.loc
  refine ⟨F.kind, F.names, F.globals, F.builtins, ⟨ml, hn.at' fun o e => k _ o (.inl rfl) e, fun x v a b => ?_⟩, F.locS, fun y hk => ?_, F.apart⟩
  · obtain ⟨z, e, r⟩ := hl x v a b
    exact ⟨z, e, r.mono t⟩
  · refine hide fun G0 g0 => ?_
    obtain ⟨c, cv, hc, ⟨oc, gc, dc⟩, hs, hne, hv⟩ := F.cell y hk
    refine g0 ?_
    clear g0 G0
    refine ⟨c, cv, hc, ⟨oc, k c oc (.inr ⟨y, hk, hc⟩) gc, dc⟩, hs, hne, fun v e => ?_⟩
    obtain ⟨z, e', rv⟩ := hv v e
    exact ⟨z, e', rv.mono t⟩
theorem Frame.alive (F : Frame env kd m h S) {b : Addr} (p : Priv env kd b) : h.get? b ≠ none := by
  rcases p with rfl | ⟨x, hk, hc⟩
  · refine hide fun G0 g0 => ?_
    obtain ⟨ml, ⟨o, es, ep, g, _⟩, _⟩ := F.loc
    refine g0 ?_
    clear g0 G0
    rw [g]; exact fun z => nomatch z
  · refine hide fun G0 g0 => ?_
    obtain ⟨c, cv, hc', ⟨oc, gc, _⟩, _⟩ := F.cell x hk
    refine g0 ?_
    clear g0 G0
    rw [hc] at hc'; cases hc'
    rw [gc]; exact fun z => nomatch z
theorem Ch.frame (c : Ch h0 h S h') (F : Frame env kd m h S) (al : ∀ b, Priv env kd b → h0.get? b ≠ none) : Frame env kd m h' S := by
  have tk := c.tup
  refine hide fun G0 g0 => ?_
  obtain ⟨P, p1, p2, nt, k⟩ := c
  refine g0 ?_
  clear g0 G0
  exact F.keeps (fun b o p e => k b o (fun q => al b p (p1 b q)) e) tk

noncomputable def Mine1 (h0 h : Heap) (S : St) (r : Addr) : Prop := h0.get? r = none ∧ S r = none ∧ ∃ o, h.get? r = some o ∧ ∃ vs, o.data = .fields vs
theorem ChF.ch (c : ChF h0 h S h') : Ch h0 h S h' := by
  obtain ⟨P, a, b, f, k⟩ := c
  refine ⟨P, a, b, fun a p ws n q => ?_, k⟩
  obtain ⟨o, e, vs, hd⟩ := f a p
  rw [q] at e; cases e; cases hd
theorem ChF.at (c : ChF h0 h S h') {b : Addr} {o : Obj} (e : h.get? b = some o) (n : ∀ vs, o.data ≠ .fields vs) : h'.get? b = some o := by
  obtain ⟨P, a, z, f, k⟩ := c
  refine k b o (fun p => ?_) e
  obtain ⟨o', e', vs, hd⟩ := f b p
  rw [e] at e'; cases e'; exact n vs hd
theorem ChF.frame (c : ChF h0 h S h') (F : Frame env kd m h S) : Frame env kd m h' S := by
  refine F.keeps (fun b o p e => c.at e fun vs q => ?_) c.ch.tup
  rcases p with rfl | ⟨x, hk, hc⟩
  · obtain ⟨ml, ⟨o', es, ep, g, hd, _⟩, _⟩ := F.loc
    rw [e] at g; cases g; rw [hd] at q; cases q
  · obtain ⟨c', cv, hc', ⟨oc, gc, dc⟩, _⟩ := F.cell x hk
    rw [hc] at hc'; cases hc'
    rw [e] at gc; cases gc; rw [dc] at q; cases q
noncomputable def IterR (h0 h : Heap) (S : St) : Itr → Value → Prop
  | .rng ks, x => ∃ r a b c t u v, x = .ref r ∧ IsRange h r a b c t u v ∧ Builtin.Range.small a b c = true ∧ ks = (List.range (Builtin.Range.rangeSize a b c).toNat).map (fun (k : Nat) => a + (k : Int) * c) ∧ 0 ≤ Builtin.Range.rangeSize a b c
  | .lst a vs, x => x = .ref a ∧ lstOf S a = some vs
  | .enm a vs, x => ∃ e it, x = .ref e ∧ e ≠ it ∧ Mine1 h0 h S e ∧ Mine1 h0 h S it ∧ IsEnum h e it 0 .none ∧ h.IsListIter it a 0 ∧ lstOf S a = some vs
  | .tup vs, x => RV h (.vT vs) x

noncomputable def ItAt (h0 h : Heap) (S : St) (x : Value) : Itr → Nat → Prop
  | .rng ks, i => ∃ r a c n, x = .ref r ∧ Mine1 h0 h S r ∧ ks = (List.range n).map (fun (k : Nat) => a + (k : Int) * c) ∧ IsRangeIter h r (a + (i : Int) * c) ((n : Int) - (i : Int)) c
  | .lst a vs, i => ∃ r, x = .ref r ∧ Mine1 h0 h S r ∧ h.IsListIter r a i
  | .enm a vs, i => ∃ e it old, x = .ref e ∧ e ≠ it ∧ Mine1 h0 h S e ∧ Mine1 h0 h S it ∧ IsEnum h e it (i : Int) old ∧ h.IsListIter it a i
  | .tup vs, i => ∃ r t n ws, x = .ref r ∧ Mine1 h0 h S r ∧ h.IsTupleIter r t i ∧ h.get? t = some (tupObj ws n) ∧ RVs h vs ws

theorem Frame.privData (F : Frame env kd m h S) {b : Addr} {o : Obj} (p : Priv env kd b) (e : h.get? b = some o) : (∃ es ep, o.data = .dict es ep) ∨ (∃ v, o.data = .cell v) := by
  rcases p with rfl | ⟨x, hk, hc⟩
  · refine hide fun G0 g0 => ?_
    obtain ⟨ml, ⟨o', es, ep, g, hd, _⟩, _⟩ := F.loc
    refine g0 ?_
    clear g0 G0
    rw [e] at g; cases g; exact .inl ⟨_, _, hd⟩
  · refine hide fun G0 g0 => ?_
    obtain ⟨c', cv, hc', ⟨oc, gc, dc⟩, _⟩ := F.cell x hk
    refine g0 ?_
    clear g0 G0
    rw [hc] at hc'; cases hc'
    rw [e] at gc; cases gc; exact .inr ⟨_, dc⟩
theorem Frame.offF (F : Frame env kd m h S) : ∀ a o, Priv env kd a → h.get? a = some o → ∀ vs, o.data ≠ .fields vs := fun a o p e vs q => by
  rcases F.privData p e with ⟨_, _, d⟩ | ⟨_, d⟩ <;> (rw [d] at q; cases q)
theorem Mine1.ev {r : Addr} (z : Mine1 h0 h S r) (x : Ev X h S h' S') (hX : ∀ a o, X a → h.get? a = some o → ∀ vs, o.data ≠ .fields vs) : Mine1 h0 h' S' r ∧ (∀ o, h.get? r = some o → h'.get? r = some o) := by
  refine hide fun G0 g0 => ?_
  obtain ⟨z1, z2, o, z3, z4⟩ := z
  refine g0 ?_
  clear g0 G0
  have k := x.keep r o (fun q => z4.elim fun vs hd => hX r o q z3 vs hd) z3 (notOwn_none z2)
  refine ⟨⟨z1, x.noneAt z3 z2, o, k, z4⟩, fun o' e => ?_⟩
  rw [z3] at e; cases e; exact k
theorem ItAt.ev {v : Value} {itr : Itr} {i : Nat} (z : ItAt h0 h S v itr i) (x : Ev X h S h' S') (hX : ∀ a o, X a → h.get? a = some o → ∀ vs, o.data ≠ .fields vs) : ItAt h0 h' S' v itr i := by
  induction itr using Itr.casesOn with
  | rng ks =>
    refine hide fun G0 g0 => ?_
    obtain ⟨r, a, c, n, e, z, hk, g⟩ := z
    refine g0 ?_
    clear g0 G0
    exact ⟨r, a, c, n, e, (z.ev x hX).1, hk, (z.ev x hX).2 _ g⟩
  | lst a vs =>
    refine hide fun G0 g0 => ?_
    obtain ⟨r, e, z, g⟩ := z
    refine g0 ?_
    clear g0 G0
    exact ⟨r, e, (z.ev x hX).1, g.at (z.ev x hX).2⟩
  | enm a vs =>
    refine hide fun G0 g0 => ?_
    obtain ⟨e, it, old, q, ne, z1, z2, g1, g2⟩ := z
    refine g0 ?_
    clear g0 G0
    exact ⟨e, it, old, q, ne, (z1.ev x hX).1, (z2.ev x hX).1, (z1.ev x hX).2 _ g1, g2.at (z2.ev x hX).2⟩
  | tup vs =>
    refine hide fun G0 g0 => ?_
    obtain ⟨r, t, n, ws, e, z, ⟨o, ho, g⟩, g2, g3⟩ := z
    refine g0 ?_
    clear g0 G0
    exact ⟨r, t, n, ws, e, (z.ev x hX).1, ⟨o, (z.ev x hX).2 _ ho, g⟩, x.tup _ _ _ g2, g3.mono x.tup⟩

theorem mine_new {o : Obj} (hf : o.isFreed = false) (nt : ∃ vs, o.data = .fields vs) (I : HInv prog w base h S) (lv : ∀ a, h.get? a = none → h0.get? a = none) : Mine1 h0 (h.push o) S h.objs.size :=
  ⟨lv _ (get_new h), I.noneAt (get_new h), o, Heap.get?_push_size _ hf, nt⟩
theorem iter_sound {itr : Itr} {x : Value} (I : HInv prog w base s.heap S) (lv : ∀ a, s.heap.get? a = none → h0.get? a = none) (r : IterR h0 s.heap S itr x) :
    wpAny (model prog w) A (pyIter x) (fun y s' => ∃ h' tk, s' = { s with heap := h', toks := tk } ∧ (∀ b o, s.heap.get? b = some o → h'.get? b = some o) ∧ ItAt h0 h' S y itr 0) E s := by
  induction itr using Itr.casesOn with
  | rng ks =>
    refine hide fun G0 g0 => ?_
    obtain ⟨r, a, b, c, t, u, v, rfl, hr, hs, hk, h0'⟩ := r
    refine g0 ?_
    clear g0 G0
    refine wpAny_pyIter_range hr hs ⟨_, s.toks, rfl, fun b o e => Heap.get?_push_of_some _ e, s.heap.objs.size, a, c, _, rfl, mine_new rfl ⟨_, rfl⟩ I lv, hk, ?_⟩
    have := Heap.get?_push_size s.heap (o := { cls := .type "range_iterator", data := .fields #[rawInt a, rawInt (Builtin.Range.rangeSize a b c), rawInt c] }) rfl
    rw [IsRangeIter, this]
    have e1 : a + ((0 : Nat) : Int) * c = a := by simp
    have e2 : (((Builtin.Range.rangeSize a b c).toNat : Nat) : Int) - ((0 : Nat) : Int) = Builtin.Range.rangeSize a b c := by lia
    rw [e1, e2]
  | lst a vs =>
    obtain ⟨rfl, hl⟩ := r
    refine hide fun G0 g0 => ?_
    obtain ⟨hb, ws, n, g, rr⟩ := lstOf_rep I hl
    refine g0 ?_
    clear g0 G0
    refine wpAny_pyIter_list (items := ws.toArray) ⟨_, g, rfl, n, rfl⟩ ⟨_, s.toks, rfl, fun b o e => Heap.get?_push_of_some _ e, s.heap.objs.size, rfl, mine_new rfl ⟨_, rfl⟩ I lv, ?_⟩
    exact ⟨_, Heap.get?_push_size _ rfl, rfl, rfl⟩
  | enm a vs =>
    refine hide fun G0 g0 => ?_
    obtain ⟨e, it, rfl, ne, z1, z2, g1, g2, hl⟩ := r
    refine g0 ?_
    clear g0 G0
    refine wpAny_pyIter_enum g1 ⟨_, s.toks, rfl, fun b o e => e, e, it, .none, rfl, ne, z1, z2, g1, g2⟩
  | tup vs =>
    refine hide fun G0 g0 => ?_
    obtain ⟨a, n, ws, rfl, g, rr⟩ := RV.tup r
    refine g0 ?_
    clear g0 G0
    refine wpAny_pyIter_tuple (items := ws.toArray) ⟨_, g, rfl, n, rfl⟩ ⟨_, s.toks, rfl, fun b o e => Heap.get?_push_of_some _ e, s.heap.objs.size, a, n, ws, rfl, mine_new rfl ⟨_, rfl⟩ I lv, ?_, ?_, ?_⟩
    · exact ⟨_, Heap.get?_push_size _ rfl, rfl, rfl⟩
    · exact Heap.get?_push_of_some _ g
    · exact rr.mono (TupK.of fun b o e => Heap.get?_push_of_some _ e)

theorem self_sound {itr : Itr} {x : Value} {i : Nat} {Q : Value → Shared → Prop} (hh : A.handled = none) (I : HInv prog w base s.heap S) (r : ItAt h0 s.heap S x itr i) (c : compIt itr = true) (hc : itChk itr S) (q : Q x s) : wpAny (model prog w) A (pyIter x) Q E s := by
  induction itr using Itr.casesOn with
  | rng ks =>
    obtain ⟨r, a, c, n, rfl, z, hk, g⟩ := r
    exact wpAny_pyIter_rangeiter g q
  | lst a vs =>
    obtain ⟨r, rfl, z, g⟩ := r
    exact wpAny_pyIter_listiter g q
  | enm _ _ => cases c
  | tup _ => cases c

theorem next_end {itr : Itr} {x : Value} {i : Nat} (hh : A.handled = none) (I : HInv prog w base s.heap S) (r : ItAt h0 s.heap S x itr i) (hc : itChk itr S) (hi : (itItems itr)[i]? = none) :
    wpAny (model prog w) A (pyNext x) (fun y s' => y = none ∧ ∃ h', s' = { s with heap := h' } ∧ ChF h0 s.heap S h') E s := by
  have mk : ∀ {r : Addr} {h' : Heap}, Mine1 h0 s.heap S r → Heap.ExtBut r s.heap h' → ChF h0 s.heap S h' := fun {r h'} z k => by
    refine hide fun G0 g0 => ?_
    obtain ⟨z1, z2, o, z3, z4⟩ := z
    refine g0 ?_
    clear g0 G0
    refine ⟨fun a => a = r, fun a e => by subst e; exact z1, fun a e => by subst e; exact z2, fun a e => by subst e; exact ⟨o, z3, z4⟩, fun b o n e => k b o n e⟩
  induction itr using Itr.casesOn with
  | rng ks =>
    refine hide fun G0 g0 => ?_
    obtain ⟨r, a, c, n, rfl, z, hk, g⟩ := r
    refine g0 ?_
    clear g0 G0
    have hn : n ≤ i := by
      simp only [itItems, hk] at hi
      simpa using hi
    exact wpAny_pyNext_range_end hh g (by lia) fun h' k => ⟨rfl, h', rfl, mk z k⟩
  | lst a vs =>
    refine hide fun G0 g0 => ?_
    obtain ⟨r, rfl, z, g⟩ := r
    refine g0 ?_
    clear g0 G0
    refine hide fun G0 g0 => ?_
    obtain ⟨hb, ws, n, gl, rr⟩ := lstOf_rep I hc
    refine g0 ?_
    clear g0 G0
    have hw := rr.length
    have hi' : ws.toArray[i]? = none := by
      simp only [itItems, List.getElem?_eq_none_iff] at hi
      simp; lia
    exact wpAny_pyNext_list_end hh g ⟨_, gl, rfl, n, rfl⟩ hi' fun h' k => ⟨rfl, h', rfl, mk z k⟩
  | enm a vs =>
    refine hide fun G0 g0 => ?_
    obtain ⟨e, it, old, rfl, ne, z1, z2, g1, g2⟩ := r
    refine g0 ?_
    clear g0 G0
    refine hide fun G0 g0 => ?_
    obtain ⟨hb, ws, n, gl, rr⟩ := lstOf_rep I hc
    refine g0 ?_
    clear g0 G0
    have hw := rr.length
    have hi' : ws.toArray[i]? = none := by
      simp only [itItems, List.getElem?_eq_none_iff, List.length_map, List.length_zipIdx] at hi
      simp; lia
    exact wpAny_pyNext_enum_end hh g1 g2 ⟨_, gl, rfl, n, rfl⟩ hi' fun h' k => ⟨rfl, h', rfl, mk z2 k⟩
  | tup vs =>
    refine hide fun G0 g0 => ?_
    obtain ⟨r, t, n, ws, rfl, z, g, gt, rr⟩ := r
    refine g0 ?_
    clear g0 G0
    have hw := rr.length
    have hi' : ws.toArray[i]? = none := by
      simp only [itItems, List.getElem?_eq_none_iff] at hi
      simp; lia
    exact wpAny_pyNext_tuple_end hh g ⟨_, gt, rfl, n, rfl⟩ hi' fun h' k => ⟨rfl, h', rfl, mk z k⟩

noncomputable def tgtFit (t : Expr) (itr : Itr) : Bool := match t with
  | .Name _ _ => notEnm itr
  | .Tuple _ _ _ => !(notEnm itr)
  | _ => false
theorem next_item1 {itr : Itr} {x : Value} {i : Nat} {v : V} (I : HInv prog w base s.heap S) (r : ItAt h0 s.heap S x itr i) (hc : itChk itr S) (hn : notEnm itr = true) (hi : (itItems itr)[i]? = some v) :
    wpAny (model prog w) A (pyNext x) (fun y s2 => ∃ y' h' tk, y = some y' ∧ s2 = { s with heap := h', toks := tk } ∧ ChF h0 s.heap S h' ∧ RV h' v y' ∧ ItAt h0 h' S x itr (i + 1)) E s := by
  have mk : ∀ {r : Addr} {h' : Heap}, Mine1 h0 s.heap S r → Heap.SameBut r s.heap h' → ChF h0 s.heap S h' := fun {r h'} z k => by
    refine hide fun G0 g0 => ?_
    obtain ⟨z1, z2, o, z3, z4⟩ := z
    refine g0 ?_
    clear g0 G0
    refine ⟨fun a => a = r, fun a e => by subst e; exact z1, fun a e => by subst e; exact z2, fun a e => by subst e; exact ⟨o, z3, z4⟩, fun b o n e => k.extBut b o n e⟩
  induction itr using Itr.casesOn with
  | rng ks =>
    refine hide fun G0 g0 => ?_
    obtain ⟨r, a, c, n, rfl, z, hk, g⟩ := r
    refine g0 ?_
    clear g0 G0
    have hn : i < n ∧ v = .vI (a + (i : Int) * c) := by
      simp only [itItems, hk, List.map_map, List.getElem?_map, Option.map_eq_some_iff] at hi
      obtain ⟨k, hk', e⟩ := hi
      have := List.getElem?_eq_some_iff.mp hk'
      obtain ⟨h1, h2⟩ := this
      simp only [List.length_range] at h1
      simp only [List.getElem_range] at h2
      subst h2
      exact ⟨h1, by simpa using e.symm⟩
    refine wpAny_pyNext_range_item g (by lia) fun h' g' hs => ?_
    refine ⟨_, h', _, rfl, rfl, mk z hs, by rw [hn.2]; exact rvI, r, a, c, n, rfl, ?_, hk, ?_⟩
    · obtain ⟨z1, z2, _⟩ := z
      exact ⟨z1, z2, _, g', ⟨_, rfl⟩⟩
    · rw [IsRangeIter, g']
      have e1 : a + (i : Int) * c + c = a + ((i + 1 : Nat) : Int) * c := by rw [Int.natCast_add, Int.add_mul]; lia
      have e2 : (n : Int) - (i : Int) - 1 = (n : Int) - ((i + 1 : Nat) : Int) := by lia
      rw [e1, e2]
  | lst a vs =>
    refine hide fun G0 g0 => ?_
    obtain ⟨r, rfl, z, g⟩ := r
    refine g0 ?_
    clear g0 G0
    refine hide fun G0 g0 => ?_
    obtain ⟨hb, ws, n, gl, rr⟩ := lstOf_rep I hc
    refine g0 ?_
    clear g0 G0
    obtain ⟨y, hy, ry⟩ := rr.get hi
    refine wpAny_pyNext_list_item g ⟨_, gl, rfl, n, rfl⟩ (by simpa using hy) fun h' g' hs => ?_
    have c := mk z hs
    refine ⟨_, h', _, rfl, rfl, c, ry.mono c.ch.tup, r, rfl, ?_, g'⟩
    obtain ⟨z1, z2, _⟩ := z
    refine hide fun G0 g0 => ?_
    obtain ⟨o, ho, hc', hd⟩ := g'
    refine g0 ?_
    clear g0 G0
    exact ⟨z1, z2, o, ho, ⟨_, hd⟩⟩
  | enm a vs => cases hn
  | tup vs =>
    refine hide fun G0 g0 => ?_
    obtain ⟨r, t', n, ws, rfl, z, g, gt, rr⟩ := r
    refine g0 ?_
    clear g0 G0
    obtain ⟨y, hy, ry⟩ := rr.get hi
    refine wpAny_pyNext_tuple_item g ⟨_, gt, rfl, n, rfl⟩ (by simpa using hy) fun h' g' hs => ?_
    have c := mk z hs
    refine ⟨_, h', _, rfl, rfl, c, ry.mono c.ch.tup, r, t', n, ws, rfl, ?_, g', c.ch.tup _ _ _ gt, rr.mono c.ch.tup⟩
    obtain ⟨z1, z2, _⟩ := z
    refine hide fun G0 g0 => ?_
    obtain ⟨o, ho, hc', hd⟩ := g'
    refine g0 ?_
    clear g0 G0
    exact ⟨z1, z2, o, ho, ⟨_, hd⟩⟩
theorem next_item {itr : Itr} {x : Value} {i : Nat} {v : V} {t : Expr} (I : HInv prog w base s.heap S) (r : ItAt h0 s.heap S x itr i) (hc : itChk itr S) (ht : tgtFit t itr = true) (hi : (itItems itr)[i]? = some v) :
    wpAny (model prog w) A (pyNext x) (fun y s1 => ∃ y', y = some y' ∧ wpAny (model prog w) A (letOwnedTupleGo t x y') (fun _ s2 => ∃ h' tk, s2 = { s with heap := h', toks := tk } ∧ ChF h0 s.heap S h' ∧ RV h' v y' ∧ ItAt h0 h' S x itr (i + 1)) E s1) E s := by
  have nm : notEnm itr = true → ∀ y, letOwnedTupleGo t x y = pure () := fun q y => by
    cases t <;> first | rfl | (simp [tgtFit, q] at ht)
  by_cases hn : notEnm itr = true
  · refine wpAny_mono (next_item1 (A := A) (E := E) I r hc hn hi) (fun y s2 hy => ?_) fun _ _ x => x
    refine hide fun G0 g0 => ?_
    obtain ⟨y', h', tk, rfl, rfl, c, rv, ia⟩ := hy
    refine g0 ?_
    clear g0 G0
    refine ⟨y', rfl, ?_⟩
    rw [nm hn]
    exact wpAny_pure ⟨h', tk, rfl, c, rv, ia⟩
  induction itr using Itr.casesOn with
  | rng ks => exact absurd rfl hn
  | lst a vs => exact absurd rfl hn
  | tup vs => exact absurd rfl hn
  | enm a vs =>
    refine hide fun G0 g0 => ?_
    obtain ⟨e, it, old, rfl, ne, z1, z2, g1, g2⟩ := r
    refine g0 ?_
    clear g0 G0
    refine hide fun G0 g0 => ?_
    obtain ⟨hb, ws, n, gl, rr⟩ := lstOf_rep I hc
    refine g0 ?_
    clear g0 G0
    simp only [itItems, List.getElem?_map, Option.map_eq_some_iff] at hi
    refine hide fun G0 g0 => ?_
    obtain ⟨⟨u, j⟩, hj, rfl⟩ := hi
    refine g0 ?_
    clear g0 G0
    rw [List.getElem?_zipIdx] at hj
    obtain ⟨u', hu, hj⟩ := Option.map_eq_some_iff.mp hj
    cases hj
    obtain ⟨y, hy, ry⟩ := rr.get hu
    refine wpAny_pyNext_enum_item g1 g2 ⟨_, gl, rfl, n, rfl⟩ (by simpa using hy) ne fun h1 go gi gt hz hk => ⟨_, rfl, ?_⟩
    induction t using PySem.Expr.casesOn with
    | Tuple elts ctx pos =>
      refine wpAny_letOwnedTupleGo_enum go fun h2 he hs => ?_
      replace hs : Heap.SameBut e h1 h2 := hs
      have hlt : e < s.heap.objs.size := Heap.lt_size g1
      have c : ChF h0 s.heap S h2 := by
        refine hide fun G0 g0 => ?_
        obtain ⟨y1, y2, o, y3, y4⟩ := z1
        refine g0 ?_
        clear g0 G0
        refine hide fun G0 g0 => ?_
        obtain ⟨w1, w2, o', w3, w4⟩ := z2
        refine g0 ?_
        clear g0 G0
        refine ⟨fun a => a = e ∨ a = it, fun a q => ?_, fun a q => ?_, fun a q => ?_, fun b o n q => ?_⟩
        · rcases q with rfl | rfl <;> assumption
        · rcases q with rfl | rfl <;> assumption
        · rcases q with rfl | rfl
          · exact ⟨o, y3, y4⟩
          · exact ⟨o', w3, w4⟩
        · exact hs.extBut b o (fun z => n (.inl z)) (hk b o (fun z => n (.inl z)) (fun z => n (.inr z)) q)
      have gt2 := hs.extBut _ _ (show s.heap.objs.size ≠ e from Nat.ne_of_gt hlt) gt
      refine ⟨h2, _, rfl, c, ?_, e, it, _, rfl, ne, ?_, ?_, he, gi.extBut hs.extBut (Ne.symm ne)⟩
      · simp only [RV]
        refine ⟨_, 0, [.int (i : Int) s.toks, y], rfl, gt2, RVs.cons ?_ (RVs.cons (ry.mono c.ch.tup) RVs.nil)⟩
        simpa using (rvI (h := h2) (i := (i : Int)) (t := s.toks))
      · exact ⟨z1.1, z1.2.1, _, he, ⟨_, rfl⟩⟩
      · refine hide fun G0 g0 => ?_
        obtain ⟨o, ho, hc', hd⟩ := gi.extBut hs.extBut (Ne.symm ne)
        refine g0 ?_
        clear g0 G0
        exact ⟨z2.1, z2.2.1, o, ho, ⟨_, hd⟩⟩
    | _ => simp [tgtFit, notEnm] at ht
end
end Mine
end
section
open PySem PySem.W PyProof.Rows PySem.Calls
set_option maxRecDepth 100000
set_option linter.unusedVariables false
namespace Mine

section
variable {prog : Program} {w : World} {base : Heap} {K : Frag} {call : Value → List V → St → (V → St → Prop) → Prop} {d : Nat} {A : Around} {E : Value → Shared → Prop} {S S1 : St} {s : Shared} {env : Env} {kd : Kd} {m : MM} {n : Nat}

theorem plain_trees {pos : Pos} {args : List Expr} (hp : args.all plainE = true) : (backTo pos (starEach args env)).any (·.1) = false := by
  induction args with
  | nil => rfl
  | cons e es ih =>
    simp only [List.all_cons, Bool.and_eq_true] at hp
    rw [starEach_plain hp.1]
    simp only [backTo, List.map_cons, List.any_cons, Bool.false_or]
    exact ih hp.2
theorem plain_trees_all {pos : Pos} {args : List Expr} (hp : args.all plainE = true) : (backTo pos (starEach args env)).all (fun x => !x.1) = true := by
  have := plain_trees (env := env) (pos := pos) hp
  rw [List.all_eq_true]
  intro x hx
  cases h : x.1 with
  | false => rfl
  | true => rw [List.any_eq_true.mpr ⟨x, hx, h⟩] at this; cases this

theorem args_plain {f : Value} {pos : Pos} {args : List Expr} {Q : Args → Shared → Prop} (hp : args.all plainE = true)
    (h : wpAny (model prog w) A (spliced (backTo pos (starEach args env))) (fun vs s' => Q ⟨vs, []⟩ s') E s) : wpAny (model prog w) A (evalArgs f true (backTo pos (starEach args env)) []) Q E s := by
  induction args using List.casesOn with
  | nil =>
    show wpAny (model prog w) A (evalArgs f true [] []) Q E s
    replace h : wpAny (model prog w) A (spliced []) (fun vs s' => Q ⟨vs, []⟩ s') E s := h
    unfold evalArgs
    show wpAny (model prog w) A (spliced [] >>= _) Q E s
    refine wpAny_bind (wpAny_mono h (fun vs s' h' => ?_) fun _ _ x => x)
    refine wpAny_bind (wpAny_pure ?_)
    refine wpAny_holding ?_
    exact wpAny_bind (wpAny_pure (wpAny_bind (wpAny_pure (wpAny_pure h'))))
  | cons e es =>
    simp only [List.all_cons, Bool.and_eq_true] at hp
    rw [starEach_plain hp.1] at h ⊢
    exact evalArgs_plain h

theorem callWith_sound {g : Value} {first : List Value} {args : List Expr} {pos pos' : Pos} {Q : Value → Shared → Prop} (hk : keepOk K g = true) (hp : args.all plainE = true)
    (h : wpAny (model prog w) A (spliced (backTo pos (starEach args env))) (fun vs s1 => K.In s1.heap ∧ wpAny (model prog w) A (PySem.call g (first ++ vs)) Q E s1) E s) :
    wpAny (model prog w) A (callWith pos' g first (backTo pos (starEach args env)) []) Q E s := by
  refine callWith_of (P := fun h => K.In h) ?_ (fun hp1 X => ?_) (args_plain hp h)
  · rw [plain_trees hp]; rfl
  · unfold keepOk at hk
    split at hk
    · exact keeps_K hk hp1 X
    · exact ⟨.machine, .inr (.inl rfl), Looks.now⟩
    · exact ⟨.machine, .inr (.inl rfl), Looks.now⟩
    · cases hk

noncomputable def IC (prog : Program) (w : World) (base : Heap) (K : Frag) (call : Value → List V → St → (V → St → Prop) → Prop) (d : Nat) (n : Nat) : Prop :=
  ∀ (A : Around) (env : Env) (kd : Kd) (m : MM) (e : Expr) (S : St) (s : Shared) (k : Itr → St → Prop) (E : Value → Shared → Prop), Room A d → Frame env kd m s.heap S → HInv prog w base s.heap S →
  wIter K call n kd m e S k → wpAny (model prog w) A (eval e env) (fun x s' => ∃ it S' h' tk, s' = { s with heap := h', toks := tk } ∧ IterR s.heap h' S' it x ∧ HInv prog w base h' S' ∧ Ev noX s.heap S h' S' ∧ itChk it S' ∧ k it S') E s

theorem rangeSize_down (a b : Int) : Builtin.Range.rangeSize a b (-1) = if b < a then a - b else 0 := by
  unfold Builtin.Range.rangeSize
  rw [if_neg (by decide)]
  simp only [Int.neg_neg, Int.ediv_one]
  by_cases h : b < a
  · rw [if_pos h, if_pos (show a > b from h)]; lia
  · rw [if_neg h, if_neg (show ¬ a > b from h)]
theorem small_down {a b : Int} (ha : -1000000 ≤ a) (ha' : a ≤ 1000000) (hb : -1000000 ≤ b) (hb' : b ≤ 1000000) : Builtin.Range.small a b (-1) = true := by
  unfold Builtin.Range.small
  rw [rangeSize_down]
  simp only [Builtin.Range.rangeFitsLong, Bool.and_eq_true, Bool.or_eq_true, decide_eq_true_eq, beq_iff_eq, show ¬ ((-1 : Int) > 0) by decide, if_false]
  split <;> lia
theorem ups (a b : Int) : upInts a b = (List.range (Builtin.Range.rangeSize a b 1).toNat).map (fun (k : Nat) => a + (k : Int) * 1) := by
  rw [rangeSize_one]
  unfold upInts
  have : (if a < b then b - a else 0).toNat = (b - a).toNat := by split <;> lia
  rw [this]; simp
theorem downs (a b : Int) : downInts a b = (List.range (Builtin.Range.rangeSize a b (-1)).toNat).map (fun (k : Nat) => a + (k : Int) * (-1)) := by
  rw [rangeSize_down]
  unfold downInts
  have : (if b < a then a - b else 0).toNat = (a - b).toNat := by split <;> lia
  rw [this]
  congr 1
  funext k; lia

theorem range_inv {vs : List V} {k : List Int → Prop} {G : Prop} (q : rangeW vs k) (h1 : ∀ b, vs = [.vI b] → (-1000000 ≤ b ∧ b ≤ 1000000 ∧ k (upInts 0 b)) → G) (h2 : ∀ a b, vs = [.vI a, .vI b] → (-1000000 ≤ a ∧ a ≤ 1000000 ∧ -1000000 ≤ b ∧ b ≤ 1000000 ∧ k (upInts a b)) → G)
    (h3 : ∀ a b, vs = [.vI a, .vI b, .vI (-1)] → (-1000000 ≤ a ∧ a ≤ 1000000 ∧ -1000000 ≤ b ∧ b ≤ 1000000 ∧ k (downInts a b)) → G) : G := by
  obtain ⟨us, hu⟩ : ∃ us, vs = us := ⟨_, rfl⟩
  replace q : rangeW us k := hu ▸ q
  rcases us with _ | ⟨v, us⟩
  · exact False.elim q
  rcases us with _ | ⟨w, us⟩
  · rcases v with _ | _ | a | _ | _ | _ | _
    case vI => exact h1 a hu q
    all_goals exact False.elim q
  rcases us with _ | ⟨z, us⟩
  · rcases v with _ | _ | a | _ | _ | _ | _
    case vI =>
      rcases w with _ | _ | b | _ | _ | _ | _
      case vI => exact h2 a b hu q
      all_goals exact False.elim q
    all_goals exact False.elim q
  rcases us with _ | ⟨y, us⟩
  · rcases v with _ | _ | a | _ | _ | _ | _
    case vI =>
      rcases w with _ | _ | b | _ | _ | _ | _
      case vI =>
        rcases z with _ | _ | c | _ | _ | _ | _
        case vI =>
          have e : c = -1 := And.left q
          exact h3 a b (e ▸ hu) (And.right q)
        all_goals exact False.elim q
      all_goals exact False.elim q
    all_goals exact False.elim q
  · rcases v with _ | _ | a | _ | _ | _ | _
    case vI =>
      rcases w with _ | _ | b | _ | _ | _ | _
      case vI =>
        rcases z with _ | _ | c | _ | _ | _ | _
        all_goals exact False.elim q
      all_goals exact False.elim q
    all_goals exact False.elim q
theorem range_sound {h0 : Heap} {vs : List V} {ws : List Value} {k : List Int → Prop} (I : HInv prog w base s.heap S) (r : RVs s.heap vs ws) (q : rangeW vs k) :
    wpAny (model prog w) A (PySem.call (.type "range") ws) (fun x s' => ∃ ks h' tk, s' = { s with heap := h', toks := tk } ∧ (∀ b o, s.heap.get? b = some o → h'.get? b = some o) ∧ IterR h0 h' S (.rng ks) x ∧ k ks) E s := by
  refine range_inv q ?_ ?_ ?_
  · rintro b rfl ⟨h1, h2, hk⟩
    clear q
    simp only [RVs] at r
    obtain ⟨y, r', rfl, ry, rfl⟩ := r
    obtain ⟨t, rfl⟩ := ry.int
    refine call_range_1 ⟨upInts 0 b, _, _, rfl, fun b o e => Heap.get?_push_of_some _ e, ⟨_, 0, b, 1, _, _, _, rfl, IsRange.new _ _ _ _ _ _ _, small_one (by lia) (by lia) (by lia) (by lia), ups 0 b, ?_⟩, hk⟩
    rw [rangeSize_one]; split <;> lia
  · rintro a b rfl ⟨h1, h2, h3, h4, hk⟩
    clear q
    simp only [RVs] at r
    obtain ⟨y, r', rfl, ry, z, r'', rfl, rz, rfl⟩ := r
    obtain ⟨t, rfl⟩ := ry.int; obtain ⟨u, rfl⟩ := rz.int
    refine call_range_2 ⟨upInts a b, _, _, rfl, fun b o e => Heap.get?_push_of_some _ e, ⟨_, a, b, 1, _, _, _, rfl, IsRange.new _ _ _ _ _ _ _, small_one (by lia) (by lia) (by lia) (by lia), ups a b, ?_⟩, hk⟩
    rw [rangeSize_one]; split <;> lia
  · rintro a b rfl ⟨h1, h2, h3, h4, hk⟩
    clear q
    simp only [RVs] at r
    obtain ⟨y, r', rfl, ry, z, r'', rfl, rz, x, r3, rfl, rx, rfl⟩ := r
    obtain ⟨t, rfl⟩ := ry.int; obtain ⟨u, rfl⟩ := rz.int; obtain ⟨v, rfl⟩ := rx.int
    refine call_range_3 (by decide) ⟨downInts a b, _, _, rfl, fun b o e => Heap.get?_push_of_some _ e, ⟨_, a, b, -1, _, _, _, rfl, IsRange.new _ _ _ _ _ _ _, small_down (by lia) (by lia) (by lia) (by lia), downs a b, ?_⟩, hk⟩ (.inl (PyProof.noPylong_small (by lia)))
    rw [rangeSize_down]; split <;> lia

theorem enum_sound {l : Addr} {xs : List V} (I : HInv prog w base s.heap S) {h0 : Heap} (lv : ∀ a, s.heap.get? a = none → h0.get? a = none) (q : lstOf S l = some xs) :
    wpAny (model prog w) A (PySem.call (.type "enumerate") [.ref l]) (fun x s' => ∃ h', s' = { s with heap := h' } ∧ (∀ b o, s.heap.get? b = some o → h'.get? b = some o) ∧ IterR h0 h' S (.enm l xs) x) E s := by
  refine hide fun G0 g0 => ?_
  obtain ⟨hb, ws, n, gl, rr⟩ := lstOf_rep I q
  refine g0 ?_
  clear g0 G0
  refine call_enumerate_list (items := ws.toArray) ⟨_, gl, rfl, n, rfl⟩ fun h' he hi hz hk => ⟨h', rfl, hk, s.heap.objs.size + 1, s.heap.objs.size, rfl, Nat.succ_ne_self _, ?_, ?_, he, hi, q⟩
  · have := get_big s.heap (Nat.le_succ s.heap.objs.size)
    exact ⟨lv _ this, I.noneAt this, _, he, ⟨_, rfl⟩⟩
  · refine hide fun G0 g0 => ?_
    obtain ⟨o, ho, hc', hd⟩ := hi
    refine g0 ?_
    clear g0 G0
    exact ⟨lv _ (get_new _), I.noneAt (get_new _), o, ho, ⟨_, hd⟩⟩

theorem isStr_eq {x : Str} {s : String} (h : isStr x s = true) : x = Str.ofString s := by simpa [isStr] using h

theorem iter_inv {e : Expr} {k : Itr → St → Prop} {G : Prop} (h : wIter K call (n + 1) kd m e S k)
    (h1 : ∀ f p a pos, e = .Call (.Name f p) [a] [] pos → (isStr f "enumerate" = true ∧ nameV K kd m f = some (.vF (.type "enumerate")) ∧ wEs K call n kd m [a] S fun vs S1 => ∃ l xs, vs = [.vR l] ∧ lstOf S1 l = some xs ∧ k (.enm l xs) S1) → G)
    (h2 : ∀ f p a pos, e = .Call (.Name f p) [a] [] pos → (isStr f "range" = true ∧ nameV K kd m f = some (.vF (.type "range")) ∧ wEs K call n kd m [a] S fun vs S1 => rangeW vs fun ks => k (.rng ks) S1) → G)
    (h3 : ∀ f p args pos, e = .Call (.Name f p) args [] pos → (isStr f "range" = true ∧ args.all plainE = true ∧ nameV K kd m f = some (.vF (.type "range")) ∧ wEs K call n kd m args S fun vs S1 => rangeW vs fun ks => k (.rng ks) S1) → G)
    (h4 : ∀ u, e = u → (plainE u = true ∧ wE K call n kd m u S fun v S1 => match v with
      | .vR a => ∃ xs, lstOf S1 a = some xs ∧ k (.lst a xs) S1
      | .vT vs => k (.tup vs) S1
      | _ => False) → G) : G := by
  obtain ⟨u, hu⟩ : ∃ u, e = u := ⟨_, rfl⟩
  replace h : wIter K call (n + 1) kd m u S k := hu ▸ h
  induction u using PySem.Expr.casesOn with
  | Call f as ks p => induction f using PySem.Expr.casesOn with
    | Name x q => induction ks using List.casesOn with
      | nil => induction as using List.casesOn with
        | nil => exact h3 x q [] p hu h
        | cons a as => induction as using List.casesOn with
          | cons b as => exact h3 x q (a :: b :: as) p hu h
          | nil =>
            by_cases c : isStr x "enumerate" = true
            · exact h1 x q a p hu ⟨c, (E_i_enum c).mp h⟩
            · have c : isStr x "enumerate" = false := by simpa using c
              by_cases c2 : isStr x "range" = true
              · exact h2 x q a p hu ⟨c2, (E_i_range1 c c2).mp h⟩
              · have h : (if isStr x "enumerate" = true then _ else if isStr x "range" = true then _ else False) := h
                rw [c, if_neg (by decide), if_neg c2] at h
                exact h.elim
      | cons _ _ => induction as using List.casesOn with
        | nil => exact h4 _ hu h
        | cons _ as => induction as using List.casesOn with
          | nil => exact h4 _ hu h
          | cons _ _ => exact h4 _ hu h
    | _ => exact h4 _ hu h
  | _ => exact h4 _ hu h
theorem ic_other (C : EC prog w base K call d n) {e : Expr} {k : Itr → St → Prop} (rm : Room A d) (F : Frame env kd m s.heap S) (I : HInv prog w base s.heap S) (h : plainE e = true ∧ (wE K call n kd m e S fun v S1 => match v with
      | .vR a => ∃ xs, lstOf S1 a = some xs ∧ k (.lst a xs) S1
      | .vT vs => k (.tup vs) S1
      | _ => False)) : wpAny (model prog w) A (eval e env) (fun x s' => ∃ it S' h' tk, s' = { s with heap := h', toks := tk } ∧ IterR s.heap h' S' it x ∧ HInv prog w base h' S' ∧ Ev noX s.heap S h' S' ∧ itChk it S' ∧ k it S') E s := by
  refine PG.step (γ := Unit) (C A env kd m e S s _ E rm F I h.2) fun v b S1 h1 tk r I1 ev q => ?_
  induction v using V.casesOn with
  | vR a =>
    obtain ⟨xs, hl, q⟩ := q
    exact ⟨.lst a xs, S1, h1, tk, rfl, ⟨r.ref, hl⟩, I1, ev, hl, q⟩
  | vT vs => exact ⟨.tup vs, S1, h1, tk, rfl, r, I1, ev, trivial, q⟩
  | _ => exact q.elim
theorem ic_rng (X : K.In base) {p : Program} {loose : List Str} {mg mb : Str → Option Value} (T : TopRead p loose mg mb base) (L : LC prog w base K call d n) {k : Itr → St → Prop} (rm : Room A d) (F : Frame env kd m s.heap S) (I : HInv prog w base s.heap S) {f : Str} {p1 pos : Pos} {args : List Expr} (hf : isStr f "range" = true) (hv : nameV K kd m f = some (.vF (.type "range"))) (hp : args.all plainE = true)
    (he : wEs K call n kd m args S (fun vs S1 => rangeW vs fun ks => k (.rng ks) S1)) : wpAny (model prog w) A (eval (.Call (.Name f p1) args [] pos) env) (fun x s' => ∃ it S' h' tk, s' = { s with heap := h', toks := tk } ∧ IterR s.heap h' S' it x ∧ HInv prog w base h' S' ∧ Ev noX s.heap S h' S' ∧ itChk it S' ∧ k it S') E s := by
  have hd : (f == ("__debug__" : Str)) = false := by rw [isStr_eq hf]; decide
  refine wpAny_Call_Name_kw (PG.step (γ := Unit) (name_sound X T I F hd hv) fun v b S1 h1 tk r I1 ev q => ?_)
  obtain ⟨rfl, rfl⟩ := q
  have := r.fn; subst this
  refine callWith_sound (K := K) (g := .type "range") (first := []) rfl hp (PG.step (γ := Unit) (L A env kd m pos args S1 { s with heap := h1, toks := tk } _ E rm (F.evN ev) I1 he) fun vs bs S2 h2 tk2 r2 I2 ev2 q2 => ⟨X.keeps I2.keep, ?_⟩)
  refine wpAny_mono (range_sound (h0 := s.heap) (s := { s with heap := h2, toks := tk2 }) I2 r2.1 q2) (fun x s3 h3 => ?_) fun _ _ x => x
  obtain ⟨ks, h3, tk3, rfl, kk, ir, hq⟩ := h3
  exact ⟨.rng ks, S2, h3, tk3, rfl, ir, I2.grow kk, (ev.trans ev2).trans (Ev.grow kk), trivial, hq⟩
theorem one_plain {a : Expr} {Q : List V → St → Prop} (he : wEs K call n kd m [a] S Q) : [a].all plainE = true := by
  induction n using Nat.casesOn with
  | zero => exact (show False from he).elim
  | succ n => exact Bool.and_eq_true_iff.mpr ⟨(E_e_cons.mp he).1, rfl⟩
theorem IC.succ (X : K.In base) {p : Program} {loose : List Str} {mg mb : Str → Option Value} (T : TopRead p loose mg mb base) (C : EC prog w base K call d n) (L : LC prog w base K call d n) : IC prog w base K call d (n + 1) := by
  intro A env kd m e S s k E rm F I h
  refine iter_inv h (fun f p1 a pos e hx => ?_) (fun f p1 a pos e hx => ?_) (fun f p1 a pos e hx => ?_) fun u e hx => ?_
  all_goals subst e; clear h
  · have hd : (f == ("__debug__" : Str)) = false := by rw [isStr_eq hx.1]; decide
    refine wpAny_Call_Name_kw (PG.step (γ := Unit) (name_sound X T I F hd hx.2.1) fun v b S1 h1 tk r I1 ev q => ?_)
    obtain ⟨rfl, rfl⟩ := q
    have := r.fn; subst this
    refine callWith_sound (K := K) (g := .type "enumerate") (first := []) rfl (one_plain hx.2.2) (PG.step (γ := Unit) (L A env kd m pos [a] S1 { s with heap := h1, toks := tk } _ E rm (F.evN ev) I1 hx.2.2) fun vs bs S2 h2 tk2 r2 I2 ev2 q2 => ⟨X.keeps I2.keep, ?_⟩)
    obtain ⟨l, xs, rfl, hl, hk⟩ := q2
    replace r2 := r2.1
    simp only [RVs] at r2
    obtain ⟨y, r', rfl, ry, rfl⟩ := r2
    rw [ry.ref]
    refine wpAny_mono (enum_sound (s := { s with heap := h2, toks := tk2 }) I2 (fun a e => ev.live a (ev2.live a e)) hl) (fun x s3 h3 => ?_) fun _ _ x => x
    obtain ⟨h3, rfl, kk, ir⟩ := h3
    exact ⟨.enm l xs, S2, h3, tk2, rfl, ir, I2.grow kk, (ev.trans ev2).trans (Ev.grow kk), hl, hk⟩
  · exact ic_rng X T L rm F I hx.1 hx.2.1 (one_plain hx.2.2) hx.2.2
  · exact ic_rng X T L rm F I hx.1 hx.2.2.1 hx.2.1 hx.2.2.2
  · exact ic_other C rm F I hx
end
end Mine
end
section
open PySem PySem.W PyProof.Rows PySem.Calls
set_option maxRecDepth 100000
set_option linter.unusedVariables false
namespace Mine

section
variable {prog : Program} {w : World} {base : Heap} {K : Frag} {call : Value → List V → St → (V → St → Prop) → Prop} {d : Nat} {A : Around} {E : Value → Shared → Prop} {S S1 : St} {s : Shared} {env : Env} {kd : Kd} {m : MM} {n : Nat}

theorem part_sound (O : OC prog w base K call d n) (rm : Room A d) (e : Option Expr) (F : Frame env kd m s.heap S) (I : HInv prog w base s.heap S) {Q : Option Int → St → Prop} (h : wOpt K call n kd m e S Q) {Qf : Value → Shared → Prop}
    (k : ∀ v x S1 h1 tk, IsPart x v → HInv prog w base h1 S1 → Ev noX s.heap S h1 S1 → Q v S1 → Qf x { s with heap := h1, toks := tk }) : wpAny (model prog w) A (evalPart e env) Qf E s := by
  refine PG.step (γ := Unit) (O A env kd m e S s Q E rm F I h) fun v b S1 h1 tk r I1 ev q => ?_
  refine k v b S1 h1 tk ?_ I1 ev q
  induction v using Option.casesOn with
  | none => cases r; exact .none
  | some i => obtain ⟨t, rfl⟩ := r; exact .int i t

theorem slice_tail {o : Expr} {lo hi st : Option Expr} {p : Pos} {vl vu vs : Value} {l h t : Option Int} {a : Addr} {xs zs : List V} {Q : V → St → Prop} (I : HInv prog w base s.heap S) (hl : lstOf S a = some xs) (pl : IsPart vl l) (pu : IsPart vu h) (ps : IsPart vs t) (h0 : t ≠ some 0)
    (hz : zs.length ≤ xs.length) (hr : ∀ (ws : List Value) (hp : Heap), RVs hp xs ws → RVs hp zs (slicePick ws.toArray l h t).toList) (q : ∀ r, Fresh S r → Q (.vR r) (put S r (.lst zs)))
    (hs : ∀ i, subscripted (.Slice lo hi st p) false (.ref a) (.ref i) = operate [.ref i, .ref a] (getItem (.ref a) (.ref i)) ∨ subscripted (.Slice lo hi st p) false (.ref a) (.ref i) = operate [.ref a, .ref i] (getItem (.ref a) (.ref i))) :
    wpAny (model prog w) A (subscriptTail o (.Slice lo hi st p) (.ref a) (.ref s.heap.objs.size)) (PG prog w base RV S s Q) E { s with heap := s.heap.push { cls := .type "slice", data := .fields #[vl, vu, vs] } } := by
  refine hide fun G0 g0 => ?_
  obtain ⟨hb, ws, n, g, rr⟩ := lstOf_rep I hl
  refine g0 ?_
  clear g0 G0
  have hw := rr.length
  have hls : s.heap.IsList a ws.toArray := ⟨_, g, rfl, n, rfl⟩
  have hg : wpAny (model prog w) A (getItem (.ref a) (.ref s.heap.objs.size)) (PG prog w base RV S s Q) E { s with heap := s.heap.push { cls := .type "slice", data := .fields #[vl, vu, vs] } } := by
    refine wpAny_getItem_list_slice (hls.push _) (Heap.IsSliceOf.new ..) pl pu ps h0 ?_ (by have := lb_line; simp only [List.size_toArray]; lia)
    have kk : ∀ b o, s.heap.get? b = some o → ((s.heap.push { cls := .type "slice", data := .fields #[vl, vu, vs] }).push { cls := .type "list", data := .seq (slicePick ws.toArray l h t) }).get? b = some o :=
      fun b o e => Heap.get?_push_of_some _ (Heap.get?_push_of_some _ e)
    have hsz : (s.heap.push { cls := .type "slice", data := .fields #[vl, vu, vs] }).objs.size = s.heap.objs.size + 1 := Heap.size_push ..
    have hn : s.heap.get? (s.heap.push { cls := .type "slice", data := .fields #[vl, vu, vs] }).objs.size = none := by rw [hsz]; exact get_big _ (Nat.le_succ _)
    refine PG.alloc (s := s) (tk := s.toks) _ I kk hn ?_ rvR (q _ ?_)
    · refine ⟨by lia, (slicePick ws.toArray l h t).toList, 0, ?_, (hr ws _ rr).mono (TupK.of kk)⟩
      have := Heap.get?_push_size (s.heap.push { cls := .type "slice", data := .fields #[vl, vu, vs] }) (o := { cls := .type "list", data := .seq (slicePick ws.toArray l h t) }) rfl
      simpa using this
    · intro b hb; rw [hsz] at hb; exact I.noneAt (get_big _ (Nat.le_of_succ_le hb))
  have hT := Heap.IsList.typeIs (s := { s with heap := s.heap.push { cls := .type "slice", data := .fields #[vl, vu, vs] } }) (hls.push _)
  rcases hs s.heap.objs.size with e | e
  · exact tail_any hT slot_list_getitem.lookup hg e
  · exact tail_any hT slot_list_getitem.lookup hg e

theorem slice_RVs {h : Heap} {xs : List V} {ws : List Value} (r : RVs h xs ws) (lo hi : Option Int) : RVs h (sliceL xs lo hi) (slicePick ws.toArray lo hi none).toList := by
  rw [slicePick_plain]
  simp only [List.size_toArray, List.toList_toArray, r.length]
  unfold sliceL
  have e : ∀ n i, clip n i = clipAt n i := fun n i => rfl
  exact (r.drop _).take _

theorem strPairs_of {h : Heap} : ∀ {fs : List (Str × V)} {ws : List (Value × Value)}, RKV h fs ws → allStrKeys ws = true ∧ (strPairs ws).map (·.1) = fs.map (·.1) ∧ RBs h fs (strPairs ws) ∧ ws.length = fs.length
  | [], _, e => by simp only [RKV] at e; subst e; exact ⟨rfl, rfl, rfl, rfl⟩
  | (x, v) :: fs, _, e => by
    simp only [RKV] at e
    refine hide fun G0 g0 => ?_
    obtain ⟨t, y, r, rfl, ry, rr⟩ := e
    refine g0 ?_
    clear g0 G0
    refine hide fun G0 g0 => ?_
    obtain ⟨a, b, c, l⟩ := strPairs_of rr
    refine g0 ?_
    clear g0 G0
    refine ⟨by simpa [allStrKeys] using a, by simp [strPairs, b], ?_, by simp [l]⟩
    exact ⟨y, strPairs r, rfl, ry, c⟩
theorem adopt {h0 h : Heap} {S0 S : St} {r : Addr} {o : AO} {X : Addr → Prop} (I : HInv prog w base h S) (I0 : ∀ b o, base.get? b = some o → h0.get? b = some o) (x : Ev X h0 S0 h S) (hr : h0.get? r = none) (h0S : S0 r = none) (rep : Rep prog w h r o) :
    HInv prog w base h (put S r o) ∧ Ev X h0 S0 h (put S r o) := by
  refine ⟨⟨I.keep, fun a o' e => ?_, fun a q => ?_⟩, ⟨x.keep, fun a e => ?_, fun a vs e => ?_, x.tup, x.live⟩⟩
  · by_cases n : a = r
    · subst n; rw [put_self] at e; cases e; exact rep
    · rw [put_ne n] at e; exact I.rep a o' e
  · rcases q.put with rfl | q
    · cases z : base.get? a with
      | none => rfl
      | some o' => rw [I0 a o' z] at hr; cases hr
    · exact I.own a q
  · by_cases n : a = r
    · subst n; exact .inr hr
    · rw [put_ne n] at e; exact x.dom a e
  · have n : a ≠ r := by rintro rfl; rw [h0S] at e; cases e
    rw [put_ne n]; exact x.ro a vs e

noncomputable def CompC (prog : Program) (w : World) (base : Heap) (K : Frag) (call : Value → List V → St → (V → St → Prop) → Prop) (d n : Nat) : Prop :=
  ∀ (A : Around) (env : Env) (kd : Kd) (m : MM) (elt : Expr) (x : Str) (px : Pos) (iter : Expr) (scope : Scope) (pos : Pos) (S : St) (s : Shared) (Q : V → St → Prop) (E : Value → Shared → Prop), Room A d → Frame env kd m s.heap S → HInv prog w base s.heap S →
  wE K call (n + 1) kd m (.ListComp elt [⟨.Name x px, iter, [], 0⟩] scope pos) S Q → wpAny (model prog w) A (eval (.ListComp elt [⟨.Name x px, iter, [], 0⟩] scope pos) env) (PG prog w base RV S s Q) E s

theorem EC.succ (X : K.In base) {p : Program} {loose : List Str} {mg mb : Str → Option Value} (TR : TopRead p loose mg mb base) (HC : CallOk prog w base call d)
    (C : EC prog w base K call d n) (T : TC prog w base K call d n) (B : BC prog w base K call d n) (CH : CC prog w base K call d n) (L : LC prog w base K call d n) (O : OC prog w base K call d n) (D : DC prog w base K call d n)
    (LCo : CompC prog w base K call d n) : EC prog w base K call d (n + 1) := by
  intro A env kd m e S s Q E rm F I h
  have hF := h
  induction e using PySem.Expr.casesOn with
  | Constant v j p => induction v using PySem.Const.casesOn with
    | none => exact wpAny_Constant_none (PG.here _ I rvN (E_s_none.mp h))
    | bool b => exact wpAny_Constant_bool (PG.here _ I rvB (E_s_bool.mp h))
    | int b => exact wpAny_Constant_int (PG.tok _ I rvI (E_s_int.mp h))
    | str b => exact wpAny_Constant_str (PG.tok _ I rvS (E_s_str.mp h))
    | _ => exact (show False from h).elim
  | Name x p =>
    have h := E_s_name.mp h
    refine hide fun G0 g0 => ?_
    obtain ⟨hd, v, hv, q⟩ := h
    refine g0 ?_
    clear g0 G0
    refine PG.step (γ := Unit) (name_sound X TR I F hd hv) fun v' b S1 h1 tk r I1 ev q' => ?_
    refine hide fun G0 g0 => ?_
    obtain ⟨rfl, rfl⟩ := q'
    refine g0 ?_
    clear g0 G0
    exact ⟨v', S1, h1, tk, rfl, r, I1, ev, q⟩
  | BinOp l op r p =>
    have h := E_s_bin.mp h
    refine wpAny_BinOp (PG.step (γ := Unit) (C A env kd m _ S s _ E rm F I h) fun v b S1 h1 tk r I1 ev q => ?_)
    refine PG.step (γ := Unit) (C A env kd m _ S1 _ _ E rm (F.evN ev) I1 q) fun v2 b2 S2 h2 tk2 r2 I2 ev2 q2 => ?_
    exact PG.cont (s := s) (ev.trans ev2) (binop_sound (s := { s with heap := h2, toks := tk2 }) I2 (r.mono ev2.tup) r2 q2)
  | UnaryOp op x p => induction op using PySem.UnaryOp.casesOn with
    | USub =>
      have h := E_s_neg.mp h
      refine wpAny_UnaryOp (PG.step (γ := Unit) (C A env kd m _ S s _ E rm F I h) fun v b S1 h1 tk r I1 ev q => ?_)
      refine hide fun G0 g0 => ?_
      obtain ⟨i, rfl, q⟩ := q
      refine g0 ?_
      clear g0 G0
      obtain ⟨t, rfl⟩ := r.int
      exact P.neg_int (PG.trans (s := s) ev (PG.tok (s := { s with heap := h1, toks := tk }) _ I1 rvI q))
    | _ => exact (show False from h).elim
  | IfExp t b o p =>
    have h := E_s_ifexp.mp h
    unfold JOIN at h
    refine wpAny_IfExp (PG.step (γ := Unit) (T A env kd m _ S s _ E rm F I h) fun v b S1 h1 tk r I1 ev q => ?_)
    cases r
    induction v using Bool.casesOn with
    | true => exact PG.cont (s := s) ev (C A env kd m _ S1 _ Q E rm (F.evN ev) I1 q)
    | false => exact PG.cont (s := s) ev (C A env kd m _ S1 _ Q E rm (F.evN ev) I1 q)
  | BoolOp op es p =>
    have h := E_s_boolop.mp h
    rw [arm_eval_BoolOp]
    exact B A env kd m _ _ _ S s Q E rm F I h
  | Compare l ops cs p =>
    have h := E_s_cmp.mp h
    rw [arm_eval_Compare, markedEach_of_false _ _ _ (lastMarks_plain h.1)]
    refine wpAny_bind (PG.step (γ := Unit) (C A env kd m _ S s _ E rm F I h.2) fun v b S1 h1 tk r I1 ev q => ?_)
    refine PG.step (γ := Unit) (CH A env kd m _ v b _ _ S1 { s with heap := h1, toks := tk } _ E rm (F.evN ev) I1 r q).2 fun v2 b2 S2 h2 tk2 r2 I2 ev2 q2 => ?_
    have e : b2 = .bool v2 := r2
    subst e
    exact ⟨.vB v2, S2, h2, tk2, rfl, rvB, I2, ev.trans ev2, q2⟩
  | Call f args kws pos =>
    obtain ⟨rfl, hf⟩ := call_inv h
    rcases hf with ⟨o, name, apos, rfl⟩ | ⟨f, p1, rfl⟩
    · have h := E_s_meth.mp h
      obtain ⟨h1, h2⟩ := h
      simp only [Bool.and_eq_true, beq_iff_eq, decide_eq_true_eq] at h1
      refine hide fun G0 g0 => ?_
      obtain ⟨⟨⟨g1, g2⟩, g3⟩, g4⟩ := h1
      refine g0 ?_
      clear g0 G0
      rw [arm_eval_Call, notSuper_base g1]
      refine wpAny_bind (PG.step (γ := Unit) (C A env kd m _ S s _ E rm F I h2) fun v b S1 h1 tk r I1 ev q => wpAny_bind (wpAny_standAt ?_))
      refine hide fun G0 g0 => ?_
      obtain ⟨a, rfl, q⟩ := q
      refine g0 ?_
      clear g0 G0
      have := r.ref; subst this
      have hform : methodCallForm (args.length + ([] : List Keyword).length) (backTo pos (starEach args env)) (backToKw pos (keywordEach [] env)) = true := by
        unfold methodCallForm
        rw [plain_trees_all g4]
        simp [backToKw, keywordEach]; lia
      have hpos : ∀ few, methodCallPos few o env apos pos = pure pos := fun few => by unfold methodCallPos; simp [g2]
      have go : ∀ {g : Value} {Qf : Value → Shared → Prop}, keepOk K g = true → (∀ Q', Q' (g, [.ref a]) { s with heap := h1, toks := tk } → wpAny (model prog w) A (getMethod (.ref a) name (do return (← importBound o env).getD true)) Q' E { s with heap := h1, toks := tk }) →
          wpAny (model prog w) A (spliced (backTo pos (starEach args env))) (fun vs s1 => K.In s1.heap ∧ wpAny (model prog w) A (PySem.call g ([.ref a] ++ vs)) Qf E s1) E { s with heap := h1, toks := tk } →
          wpAny (model prog w) A (methodCall o name apos pos env (.ref a) (args.length + ([] : List Keyword).length) (backTo pos (starEach args env)) (backToKw pos (keywordEach [] env))) Qf E { s with heap := h1, toks := tk } := fun {g Qf} hk hm hc => by
        unfold methodCall calleeOf
        rw [hform, hpos]
        exact wpAny_bind (wpAny_holding (hm _ (wpAny_bind (wpAny_pure (callWith_sound hk g4 hc)))))
      have X1 := X.keeps I1.keep
      split at q
      · rename_i CC dx ho
        refine hide fun G0 g0 => ?_
        obtain ⟨fs, f, hx, hn, hm, q⟩ := q
        refine g0 ?_
        clear g0 G0
        refine hide fun G0 g0 => ?_
        obtain ⟨es, nn, gd, re, hel, IA⟩ := inst_at (s := { s with heap := h1, toks := tk }) I1 ho hx
        refine g0 ?_
        clear g0 G0
        unfold methOf at hm
        split at hm
        · rename_i hp
          split at hm
          · rename_i f' hf
            split at hm
            · rename_i hfn
              cases hm
              simp only [Bool.and_eq_true] at hfn
              have hs : shadowIn (some (dictOf es nn)) name = some false := by
                show (getL name es).map (·.isSome) = some false
                rw [re.getN hn]; rfl
              refine go (g := .ref f) hfn.2 (fun Q' hq => method_fn X1 IA (plainGet_of hp).1 (plainGet_of hp).2 hf (beq_iff_eq.mp hfn.1) hs hq) ?_
              refine PG.step (γ := Unit) (L A env kd m pos args S1 _ _ E rm (F.evN ev) I1 q) fun vs bs S2 h2 tk2 r2 I2 ev2 q2 => ⟨X.keeps I2.keep, ?_⟩
              exact PG.cont (s := s) (ev.trans ev2) (HC A (.ref f) (.vR a :: vs) ([.ref a] ++ bs) S2 { s with heap := h2, toks := tk2 } Q E rm (RVs.cons rvR r2.1) I2 q2)
            · cases hm
          · cases hm
        · cases hm
      · rename_i xs ho
        obtain ⟨hok, q⟩ := q
        obtain ⟨sl, ty⟩ := listId_slot hok
        refine hide fun G0 g0 => ?_
        obtain ⟨hb, ws, nn, gl, rr⟩ := I1.rep _ _ ho
        refine g0 ?_
        clear g0 G0
        refine go (g := .builtin (listId name)) rfl (fun Q' hq => getMethod_builtin (T := "list") ⟨_, gl, rfl⟩ PySem.F.plainAttrs_list sl ty (fun a' e => ⟨_, by cases e; exact gl, rfl⟩) hq) ?_
        refine PG.step (γ := Unit) (L A env kd m pos args S1 _ _ E rm (F.evN ev) I1 q) fun vs bs S2 h2 tk2 r2 I2 ev2 q2 => ⟨X.keeps I2.keep, ?_⟩
        exact PG.cont (s := s) (ev.trans ev2) (listMeth_sound (s := { s with heap := h2, toks := tk2 }) I2 r2.1 q2)
      · exact q.elim
    · have h := E_s_call.mp h
      obtain ⟨h1, h2⟩ := h
      simp only [Bool.and_eq_true, decide_eq_true_eq] at h1
      refine wpAny_Call_Name_kw (PG.step (γ := Unit) (C A env kd m _ S s _ E rm F I h2) fun v b S1 h1' tk r I1 ev q => ?_)
      refine hide fun G0 g0 => ?_
      obtain ⟨g, rfl, hk, q⟩ := q
      refine g0 ?_
      clear g0 G0
      have := r.fn; subst this
      refine callWith_sound hk h1.2 (PG.step (γ := Unit) (L A env kd m pos args S1 _ _ E rm (F.evN ev) I1 q) fun vs bs S2 h2 tk2 r2 I2 ev2 q2 => ⟨X.keeps I2.keep, ?_⟩)
      exact PG.cont (s := s) (ev.trans ev2) (HC A b vs bs S2 { s with heap := h2, toks := tk2 } Q E rm r2.1 I2 q2)
  | Attribute o name pos =>
    have h := E_s_attr.mp h
    refine Attribute_any_ (PG.step (γ := Unit) (C A env kd m _ S s _ E rm F I h.2) fun v b S1 h1 tk r I1 ev q => ?_) (by rw [show eval (.Attribute o name pos) env = (do
      let o' ← attributeBase o name env (eval o env)
      standAt pos.atName
      let r ← holding [o'] (getAttr o' name true)
      letTemporaryGo o o' r
      pure r) from rfl, notSuper_base h.1])
    refine PG.step (γ := Unit) (getA_sound (s := { s with heap := h1, toks := tk }) X I1 r q) fun v2 b2 S2 h2 tk2 r2 I2 ev2 q2 => ?_
    obtain ⟨rfl, q2⟩ := q2
    exact ⟨v2, S2, h2, tk2, rfl, r2, I2, ev.trans ev2, q2⟩
  | Subscript o i pos =>
    rcases sub_inv h with ⟨lo, hi, st, p, rfl⟩ | h
    · rcases slice_inv h with rfl | ⟨rfl, rfl, st, rfl⟩
      · have h := E_s_slice.mp h
        refine Subscript_ (PG.step (γ := Unit) (C A env kd m _ S s _ E rm F I h) fun v b S1 h1 tk r I1 ev q => ?_)
        refine wpAny_Slice (part_sound (s := { s with heap := h1, toks := tk }) O rm lo (F.evN ev) I1 q fun l x2 S2 h2 tk2 pl I2 ev2 q2 => ?_)
        refine part_sound (s := { s with heap := h2, toks := tk2 }) O rm hi ((F.evN ev).evN ev2) I2 q2 fun u x3 S3 h3 tk3 pu I3 ev3 q3 => ?_
        refine hide fun G0 g0 => ?_
        obtain ⟨a, vs, rfl, hl, q3⟩ := q3
        refine g0 ?_
        clear g0 G0
        have := r.ref; subst this
        refine wpAny_pure ?_
        refine wpAny_mono (slice_tail (s := { s with heap := h3, toks := tk3 }) (t := none) (zs := sliceL vs l u) I3 hl pl pu .none (by simp) ?_ (fun ws hp rw' => slice_RVs rw' l u) q3 (fun i => .inl rfl)) (fun _ _ x => PG.trans (s := s) ((ev.trans ev2).trans ev3) x) fun _ _ x => x
        unfold sliceL; simp; lia
      · have h := (E_s_rev (k := 0)).mp h
        refine Subscript_ (PG.step (γ := Unit) (C A env kd m _ S s _ E rm F I h) fun v b S1 h1 tk r I1 ev q => ?_)
        refine wpAny_Slice (wpAny_pure (wpAny_pure (PG.step (γ := Unit) (C A env kd m st S1 _ _ E rm (F.evN ev) I1 q) fun v2 b2 S2 h2 tk2 r2 I2 ev2 q2 => ?_)))
        refine hide fun G0 g0 => ?_
        obtain ⟨rfl, a, vs, rfl, hl, q2⟩ := q2
        refine g0 ?_
        clear g0 G0
        obtain ⟨t, rfl⟩ := r2.int
        have := r.ref; subst this
        refine wpAny_mono (slice_tail (s := { s with heap := h2, toks := tk2 }) (l := none) (h := none) (t := some (-1)) (zs := vs.reverse) I2 hl .none .none (.int _ _) (by decide) (by simp) (fun ws hp rw' => ?_) q2 (fun i => ?_)) (fun _ _ x => PG.trans (s := s) (ev.trans ev2) x) fun _ _ x => x
        · rw [krv_pick]; simpa using rw'.reverse
        · exact .inr rfl
    · refine Subscript_ (PG.step (γ := Unit) (C A env kd m _ S s _ E rm F I h.2) fun v b S1 h1 tk r I1 ev q => ?_)
      refine PG.step (γ := Unit) (C A env kd m _ S1 _ _ E rm (F.evN ev) I1 q) fun v2 b2 S2 h2 tk2 r2 I2 ev2 q2 => ?_
      refine PG.step (γ := Unit) (item_sound (s := { s with heap := h2, toks := tk2 }) h.1 I2 (r.mono ev2.tup) r2 q2) fun v3 b3 S3 h3 tk3 r3 I3 ev3 q3 => ?_
      obtain ⟨rfl, q3⟩ := q3
      exact ⟨v3, S3, h3, tk3, rfl, r3, I3, (ev.trans ev2).trans ev3, q3⟩
  | Tuple es k p =>
    have h := E_s_tuple.mp h
    obtain ⟨hlen, h⟩ := h
    refine Tuple_ (PG.step (γ := Unit) (L A env kd m _ _ S s _ E rm F I h) fun vs bs S1 h1 tk r I1 ev q => ?_)
    have kk : ∀ b o, h1.get? b = some o → (h1.push { cls := .type "tuple", data := .seq bs.toArray }).get? b = some o := fun b o e => Heap.get?_push_of_some _ e
    refine wpAny_newTuple (PG.trans (s := s) ev (PG.grown (s := { s with heap := h1, toks := tk }) (.vT vs) I1 kk ?_ q)) ?_
    · simp only [RV]
      exact ⟨_, 0, bs, rfl, Heap.get?_push_size _ rfl, r.1.mono (TupK.of kk)⟩
    · rw [r.2]; have := lb_line; have : LB = 4096 := rfl; lia
  | List es p =>
    have h := E_s_list.mp h
    obtain ⟨hlen, h⟩ := h
    refine List_ (PG.step (γ := Unit) (L A env kd m _ _ S s _ E rm F I h) fun vs bs S1 h1 tk r I1 ev q => ?_)
    have kk : ∀ b o, h1.get? b = some o → (h1.push { cls := .type "list", data := .seq bs.toArray }).get? b = some o := fun b o e => Heap.get?_push_of_some _ e
    refine wpAny_newList (PG.trans (s := s) ev (PG.alloc (s := { s with heap := h1, toks := tk }) _ I1 kk (get_new _) ?_ rvR (q _ I1.fresh))) ?_
    · have hl := r.1.length
      refine ⟨by rw [← hl, r.2]; have : LB = 4096 := rfl; lia, bs, 0, Heap.get?_push_size _ rfl, r.1.mono (TupK.of kk)⟩
    · rw [r.2]; have := lb_line; have : LB = 4096 := rfl; lia
  | Dict ks es pos =>
    have h := E_s_dict.mp h
    obtain ⟨hs, h⟩ := h
    simp only [Bool.and_eq_true, decide_eq_true_eq] at hs
    refine hide fun G0 g0 => ?_
    obtain ⟨⟨⟨hs1, hs2⟩, hs3⟩, hs4⟩ := hs
    refine g0 ?_
    clear g0 G0
    have k0 : ∀ b o, s.heap.get? b = some o → (s.heap.push { cls := .type "dict", data := .dict #[] }).get? b = some o := fun b o e => Heap.get?_push_of_some _ e
    refine wpAny_Dict_walk (knd := strKind prog w) hs1 hs2 (fun e => by rw [e] at hs3; simp at hs3) hs4 ?_
    refine PG.step (γ := Unit) (s := { s with heap := s.heap.push { cls := .type "dict", data := .dict #[] } }) (D A env kd m pos ks es S _ _ E rm (F.evN (Ev.grow k0)) (I.grow k0) h) fun fs bs S1 h1 tk r I1 ev q => ?_
    obtain ⟨nd, q⟩ := q
    refine hide fun G0 g0 => ?_
    obtain ⟨a1, a2, a3, a4⟩ := strPairs_of r.1
    refine g0 ?_
    clear g0 G0
    have hr0 : S s.heap.objs.size = none := I.noneAt (get_new _)
    have gD : (s.heap.push { cls := .type "dict", data := .dict #[] }).get? s.heap.objs.size = some { cls := .type "dict", data := .dict #[] } := Heap.get?_push_size _ rfl
    have gD1 := ev.keep _ _ id gD (notOwn_none hr0)
    have hr1 : S1 s.heap.objs.size = none := ev.noneAt gD hr0
    refine display_done_str a1 (by rw [a2]; exact nd) ?_ fun h' hd hsb => ?_
    · refine hide fun G0 g0 => ?_
      obtain ⟨o, es, ep, g, r⟩ := Heap.DictOf.new (knd := strKind prog w) s.heap
      refine g0 ?_
      clear g0 G0
      exact ⟨o, es, ep, ev.keep _ _ id g (notOwn_none hr0), r⟩
    · have kk : ∀ b o, b ≠ s.heap.objs.size → h1.get? b = some o → h'.get? b = some o := fun b o n e => hsb.extBut b o n e
      have ch : Ch s.heap h1 S1 h' := by
        refine ⟨fun a => a = s.heap.objs.size, ?_, ?_, ?_, kk⟩
        · rintro a rfl; exact get_new _
        · rintro a rfl; exact hr1
        · rintro a rfl ws n q; rw [gD1] at q; exact nomatch congrArg Obj.data (Option.some.inj q)
      have evA : Ev noX s.heap S h1 S1 := (Ev.grow (S := S) k0).trans ev
      have ad := adopt (o := .dict fs) (r := s.heap.objs.size) (ch.inv I.keep I1) I.keep (ch.ev evA) (get_new _) hr0 ⟨by rw [← a4, r.2]; lia, strPairs bs, hd, a3.mono ch.tup⟩
      exact ⟨.vR s.heap.objs.size, _, h', _, rfl, rvR, ad.1, ad.2, q _ I.fresh hr1⟩
  | ListComp elt gens scope p =>
    refine hide fun G0 g0 => ?_
    obtain ⟨x, p1, iter, rfl⟩ := comp_inv h
    refine g0 ?_
    clear g0 G0
    exact LCo A env kd m _ _ _ _ _ _ S s Q E rm F I hF
  | _ => exact (show False from h).elim

theorem TC.succ (C : EC prog w base K call d n) (T : TC prog w base K call d n) (AL : AC prog w base K call d n) (CH : CC prog w base K call d n) : TC prog w base K call d (n + 1) := by
  intro A env kd m e S s Q E rm F I h
  have other : (isTrue e env (eval e env) = (do let v ← eval e env; standAt e.pos; holding [v] (truthy v))) → (wE K call n kd m e S fun v S1 => ∃ b, truth S1 v = some b ∧ Q b S1) → wpAny (model prog w) A (isTrue e env (eval e env)) (PG prog w base REq S s Q) E s := fun he h => by
    refine isTrue_plain (PG.step (γ := Unit) (C A env kd m e S s _ E rm F I h) fun v b S1 h1 tk r I1 ev q => ?_) he
    obtain ⟨t, ht, q⟩ := q
    refine wpAny_mono (truth_sound (s := { s with heap := h1, toks := tk }) I1 r ht) (fun c s2 hc => ?_) fun _ _ x => x
    obtain ⟨rfl, tk2, rfl⟩ := hc
    exact PG.trans (s := s) ev (PG.tok (s := { s with heap := h1, toks := tk }) c I1 rfl q)
  have key : plainT e = true → (isTrue e env (eval e env) = (do let v ← eval e env; standAt e.pos; holding [v] (truthy v))) → wpAny (model prog w) A (isTrue e env (eval e env)) (PG prog w base REq S s Q) E s := fun h1 he => other he ((E_t_else h1).mp h)
  induction e using PySem.Expr.casesOn with
  | UnaryOp op x p => induction op using PySem.UnaryOp.casesOn with
    | Not =>
      have h := E_t_not.mp h
      refine wpAny_isTrue_Not (PG.step (γ := Unit) (T A env kd m _ S s _ E rm F I h) fun v b S1 h1 tk r I1 ev q => ?_)
      cases r
      exact ⟨!v, S1, h1, tk, rfl, rfl, I1, ev, q⟩
    | _ => exact key rfl rfl
  | BoolOp op es p =>
    have h := E_t_bool.mp h
    exact wpAny_isTrue_BoolOp (AL A env kd m _ _ S s Q E rm F I h)
  | IfExp a b c p => exact (show False from h).elim
  | Compare l ops cs p =>
    have h := E_t_cmp.mp h
    rw [arm_isTrue_Compare, markedEach_of_false _ _ _ (lastMarks_plain h.1)]
    refine wpAny_bind (PG.step (γ := Unit) (C A env kd m _ S s _ E rm F I h.2) fun v b S1 h1 tk r I1 ev q => ?_)
    exact PG.cont (s := s) ev (CH A env kd m _ v b _ _ S1 { s with heap := h1, toks := tk } _ E rm (F.evN ev) I1 r q).1
  | _ => exact key rfl rfl
end
end Mine
end
section
open PySem PySem.W PyProof.Rows PySem.Calls
set_option maxRecDepth 100000
set_option linter.unusedVariables false
namespace Mine

noncomputable def clOf (env : Env) : List (Str × NameKind) → List (Str × Addr) → List (Str × Addr)
  | [], acc => acc
  | (x, k) :: r, acc => clOf env r (if (k == NameKind.free) = true then (x, (env.cells.lookup x).getD 0) :: acc else acc)
theorem clOf_lookup {env : Env} {x : Str} : ∀ (names : List (Str × NameKind)) (acc : List (Str × Addr)), (∀ y ∈ names, y.2 = .free → (env.cells.lookup y.1).isSome = true) →
    (clOf env names acc).lookup x = if (x, NameKind.free) ∈ names then env.cells.lookup x else acc.lookup x
  | [], acc, _ => by simp [clOf]
  | (y, k) :: r, acc, h => by
    unfold clOf
    rw [clOf_lookup r _ fun z hz => h z (List.mem_cons_of_mem _ hz)]
    by_cases m : (x, NameKind.free) ∈ r
    · rw [if_pos m, if_pos (List.mem_cons_of_mem _ m)]
    · rw [if_neg m]
      by_cases q : k = .free
      · subst q
        simp only [beq_self_eq_true, if_true]
        by_cases e : x = y
        · subst e
          rw [if_pos (List.mem_cons_self ..)]
          have := h (x, .free) (List.mem_cons_self ..) rfl
          obtain ⟨c, hc⟩ := Option.isSome_iff_exists.mp this
          simp only at hc
          rw [hc]
          simp
        · have hb : (x == y) = false := beq_eq_false_iff_ne.mpr e
          rw [List.lookup_cons, hb]
          rw [if_neg]
          simp [e, m]
      · have hb : (k == NameKind.free) = false := beq_eq_false_iff_ne.mpr q
        rw [hb]
        rw [if_neg Bool.false_ne_true, if_neg]
        rw [List.mem_cons]
        rintro (e | e)
        · cases e; exact q rfl
        · exact m e
theorem closure_go {env : Env} : ∀ (names : List (Str × NameKind)) (acc : List (Str × Addr)), (∀ y ∈ names, y.2 = .free → (env.cells.lookup y.1).isSome = true) →
    (forIn names acc fun (p : Str × NameKind) (r : List (Str × Addr)) => (if (p.2 == NameKind.free) = true then do let a ← cellOf env p.1; pure (ForInStep.yield ((p.1, a) :: r)) else pure (ForInStep.yield r) : Sem (ForInStep (List (Str × Addr))))) = (pure (clOf env names acc) : Sem _)
  | [], acc, _ => rfl
  | (y, k) :: r, acc, h => by
    rw [List.forIn_cons]
    have ih := fun acc => closure_go (env := env) r acc fun z hz => h z (List.mem_cons_of_mem _ hz)
    unfold clOf
    cases q : (k == NameKind.free) with
    | true =>
      have hk : k = .free := beq_iff_eq.mp q
      obtain ⟨c, hc⟩ := Option.isSome_iff_exists.mp (h (y, k) (List.mem_cons_self ..) hk)
      simp only at hc
      have e : cellOf env y = (pure c : Sem Addr) := by unfold cellOf; rw [hc]
      simp only [q, if_true, e, hc, Option.getD_some]
      exact ih _
    | false =>
      simp only [q, Bool.false_eq_true, if_false]
      exact ih _
theorem closure_eq {env : Env} {scope : Scope} (h : ∀ y ∈ scope.names, y.2 = .free → (env.cells.lookup y.1).isSome = true) : closureFor scope env = pure (clOf env scope.names []) := by
  unfold closureFor
  have := closure_go (env := env) scope.names [] h
  show (forIn scope.names [] _ >>= _) = _
  rw [show (forIn scope.names ([] : List (Str × Addr)) fun (p : Str × NameKind) (r : List (Str × Addr)) => (if (p.2 == NameKind.free) = true then do let a ← cellOf env p.1; pure (ForInStep.yield ((p.1, a) :: r)) else pure (ForInStep.yield r) : Sem (ForInStep (List (Str × Addr))))) = pure (clOf env scope.names []) from this]
  rfl

theorem folded_ok {K : Frag} {call : Value → List V → St → (V → St → Prop) → Prop} {n : Nat} {kd : Kd} {m : MM} {e : Expr} {S : St} {k : Itr → St → Prop} {env : Env} (h : wIter K call n kd m e S k) (x : Value) : foldedSetIterable e env x = pure x := by
  cases e with
  | Set elts kk p =>
    induction n using Nat.casesOn with
    | zero => simp only [wIter] at h
    | succ n => simp [wIter, plainE] at h
  | _ => rfl

theorem lookup_nodup : ∀ {names : List (Str × NameKind)} {y : Str × NameKind}, (names.map (·.1)).Nodup → y ∈ names → names.lookup y.1 = some y.2
  | [], _, _, h => by simp at h
  | (z, k) :: r, y, nd, h => by
    rw [List.map_cons, List.nodup_cons] at nd
    rw [List.lookup_cons]
    rcases List.mem_cons.mp h with e | e
    · subst e; simp
    · have hne : y.1 ≠ z := fun q => nd.1 (q ▸ List.mem_map_of_mem (f := (·.1)) e)
      have hb : (y.1 == z) = false := beq_eq_false_iff_ne.mpr hne
      rw [hb]
      exact lookup_nodup nd.2 e
theorem setM_setM {m : MM} {x : Str} {u v : V} : setM (setM m x u) x v = setM m x v := by
  funext y; unfold setM; split <;> rfl

theorem compKd_cell {kd : Kd} {scope : Scope} {x : Str} (h : ∀ y ∈ scope.names, y.2 ≠ .cell) (e : (compKd kd scope).lookup x = some .cell) : (x, NameKind.free) ∈ scope.names ∧ kd.lookup x = some .cell := by
  unfold compKd at e
  generalize scope.names = names at h e
  induction names with
  | nil => simp at e
  | cons p r ih =>
    obtain ⟨y, k⟩ := p
    rw [List.map_cons] at e
    have hr := fun z hz => h z (List.mem_cons_of_mem _ hz)
    split at e
    · rename_i q
      rw [List.lookup_cons] at e
      by_cases n : x = y
      · subst n
        exact ⟨by rw [show k = .free from q.1]; exact List.mem_cons_self .., q.2⟩
      · have hb : (x == y) = false := beq_eq_false_iff_ne.mpr n
        simp only [hb] at e
        obtain ⟨a, b⟩ := ih hr e
        exact ⟨List.mem_cons_of_mem _ a, b⟩
    · rw [List.lookup_cons] at e
      by_cases n : x = y
      · subst n
        simp only [beq_self_eq_true] at e
        cases e
        exact absurd rfl (h _ (List.mem_cons_self ..))
      · have hb : (x == y) = false := beq_eq_false_iff_ne.mpr n
        simp only [hb] at e
        obtain ⟨a, b⟩ := ih hr e
        exact ⟨List.mem_cons_of_mem _ a, b⟩

section
variable {prog : Program} {w : World} {base : Heap} {K : Frag} {call : Value → List V → St → (V → St → Prop) → Prop} {d : Nat} {A : Around} {E : Value → Shared → Prop} {S S1 : St} {s : Shared} {env : Env} {kd : Kd} {m : MM} {n : Nat}

theorem compKd_eq {scope : Scope} {h : Heap} (F : Frame env kd m h S) : (relabel scope env).names = compKd kd scope := by
  unfold relabel compKd
  apply List.map_congr_left
  rintro ⟨y, k⟩ _
  have e : (k == NameKind.free && env.scope.kind == ScopeKind.function && env.kindOf y == some NameKind.cell) = decide (k = .free ∧ kd.lookup y = some .cell) := by
    rw [F.kind, F.names y]
    by_cases a : k = .free <;> by_cases b : kd.lookup y = some .cell <;> simp [a, b]
  simp only [e, decide_eq_true_eq]

theorem comp_sound (X : K.In base) (C : EC prog w base K call d n) (IT : IC prog w base K call d n) {elt : Expr} {x : Str} {px : Pos} {iter : Expr} {scope : Scope} {pos pos' : Pos} {Q : V → St → Prop} {use : Option (Value → Sem Unit)} {Qf : Value → Shared → Prop}
    (rm : Room A d) (F : Frame env kd m s.heap S) (I : HInv prog w base s.heap S)
    (h : compOk kd scope x = true ∧ wIter K call n kd m iter S fun it S1 => compIt it = true ∧
        compW (itChk it) (fun v S' Q' => wE K call n (compKd kd scope) (setM (compM kd scope m) x v) elt S' Q') (itItems it) [] S1 fun acc S' => ∀ r, Fresh S1 r → S' r = none → Q (.vR r) (put S' r (.lst acc)))
    (fin : ∀ D C h5 tk S5 ml, s.heap.get? C = none → S5 C = none → h5.Ns C ml → HInv prog w base h5 S5 → Ev noX s.heap S h5 S5 → Q (.vR D) S5 → compPost (model prog w) A E use Qf (.ref D) C (.ok .next) { s with heap := h5, toks := tk }) :
    wpAny (model prog w) A (comprehension (.ListComp elt [⟨.Name x px, iter, [], 0⟩] scope pos) scope env pos' (newList []) false (eval iter env) use) Qf E s := by
  have hh := rm.handled
  obtain ⟨hok, h⟩ := h
  simp only [compOk, Bool.and_eq_true, beq_iff_eq, List.all_eq_true, decide_eq_true_eq, Bool.or_eq_true, bne_iff_ne] at hok
  refine hide fun G0 g0 => ?_
  obtain ⟨⟨⟨⟨o1, o2⟩, o3⟩, o4⟩, o5⟩ := hok
  refine g0 ?_
  clear g0 G0
  have o4' : ∀ y ∈ scope.names, y.2 = .free → kd.lookup y.1 = some .cell := fun y hy e => (o4 y hy).resolve_left fun q => q e
  have hcl := closure_eq (env := env) (scope := scope) fun y hy e => by
    refine hide fun G0 g0 => ?_
    obtain ⟨c, cv, hc, _⟩ := F.cell y.1 (o4' y hy e)
    refine g0 ?_
    clear g0 G0
    rw [hc]; rfl
  have hcell : ∀ {y c}, (clOf env scope.names []).lookup y = some c → env.cells.lookup y = some c ∧ kd.lookup y = some .cell := fun {y c} e => by
    rw [clOf_lookup scope.names [] fun y hy e => by
      refine hide fun G0 g0 => ?_
      obtain ⟨c, cv, hc, _⟩ := F.cell y.1 (o4' y hy e)
      refine g0 ?_
      clear g0 G0
      rw [hc]; rfl] at e
    split at e
    · rename_i hm; exact ⟨e, o4' _ hm rfl⟩
    · simp at e
  have hnd : ∀ y ∈ scope.names, y.2 = .local → scope.names.lookup y.1 = some .local := fun y hy e => by
    rw [lookup_nodup o3 hy, e]
  refine wpAny_comprehension_free (g := ⟨.Name x px, iter, [], 0⟩) (gs := []) rfl (folded_ok h) hcl o1 hnd ?_
  refine wpAny_mono (IT A env kd m iter S s _ E rm F I h) (fun xv s1 hx => ?_) fun _ _ x => x
  refine hide fun G0 g0 => ?_
  obtain ⟨it, S1, h1, tk1, rfl, ir, I1, ev1, hc1, hcomp, hq⟩ := hx
  refine g0 ?_
  clear g0 G0
  refine wpAny_mono (iter_sound (s := { s with heap := h1, toks := tk1 }) I1 (fun a e => ev1.live a e) ir) (fun iv s2 hy => ?_) fun _ _ x => x
  refine hide fun G0 g0 => ?_
  obtain ⟨h2, tk2, rfl, k2, ia⟩ := hy
  refine g0 ?_
  clear g0 G0
  have I2 := I1.grow k2
  have ev2 := ev1.trans (Ev.grow k2)
  have F2 := F.evN ev2
  -- the list that is made
  refine wpAny_newList ?_
  have kA : ∀ b o, h2.get? b = some o → (h2.push { cls := .type "list", data := .seq ([] : List Value).toArray }).get? b = some o := fun b o e => Heap.get?_push_of_some _ e
  generalize hD : h2.push { cls := .type "list", data := .seq ([] : List Value).toArray } = hA at kA ⊢
  have gA : hA.get? h2.objs.size = some (lstObj [] 0) := by rw [← hD]; exact Heap.get?_push_size _ rfl
  have I3 := I2.grow kA
  have ev3 := ev2.trans (Ev.grow kA)
  have rS1 : S1 h2.objs.size = none := I2.noneAt (get_new _)
  have r0 : s.heap.get? h2.objs.size = none := ev2.live _ (get_new _)
  refine wpAny_newFunctionEnv (around := some env) o2 (by intro y hy; simp at hy) (fun h4 hns hsb => ?_) o1
  dsimp only at hns hsb ⊢
  have kC : ∀ b o, hA.get? b = some o → h4.get? b = some o := fun b o e => hsb.extBut b o (Nat.ne_of_lt (Heap.lt_size e)) (Heap.get?_push_of_some _ e)
  have I4 := I3.grow kC
  have ev4 := ev3.trans (Ev.grow kC)
  have cS1 : S1 hA.objs.size = none := I3.noneAt (get_new _)
  have c0 : s.heap.get? hA.objs.size = none := ev3.live _ (get_new _)
  have hrc : h2.objs.size ≠ hA.objs.size := Nat.ne_of_lt (Heap.lt_size gA)
  have ia4 : ItAt s.heap h4 S1 iv it 0 := ItAt.ev (X := noX) ia (Ev.grow fun b o e => kC b o (kA b o e)) (fun a o f => f.elim)
  have gA4 : h4.get? h2.objs.size = some (lstObj [] 0) := kC _ _ gA
  have F4 : Frame (compEnvC scope (clOf env scope.names []) hA.objs.size env) (compKd kd scope) (compM kd scope m) h4 S1 := by
    refine ⟨o1, fun y => ?_, F.globals, F.builtins, ⟨_, hns, fun y v hk hv => ?_⟩, cS1, fun y hk => ?_, fun y z c e1 e2 => F.apart y z c (hcell e1).1 (hcell e2).1⟩
    · show (relabel scope env).names.lookup y = _
      rw [compKd_eq F]
    · unfold compM at hv
      rw [hk] at hv
      rw [if_neg (by simp)] at hv
      cases hv
    · obtain ⟨hm, hkd⟩ := compKd_cell (fun y hy => o2 y hy) hk
      refine hide fun G0 g0 => ?_
      obtain ⟨c, cv, hc, ⟨oc, gc, dc⟩, hs, hne, hv⟩ := F.cell y hkd
      refine g0 ?_
      clear g0 G0
      have F4' := F.evN ev4
      refine hide fun G0 g0 => ?_
      obtain ⟨c', cv', hc', hcc', hs', hne', hv'⟩ := F4'.cell y hkd
      refine g0 ?_
      clear g0 G0
      refine ⟨c', cv', ?_, hcc', hs', ?_, fun v e => ?_⟩
      · show (clOf env scope.names []).lookup y = _
        rw [clOf_lookup scope.names [] fun y hy e => by
          refine hide fun G0 g0 => ?_
          obtain ⟨c, cv, hc, _⟩ := F.cell y.1 (o4' y hy e)
          refine g0 ?_
          clear g0 G0
          rw [hc]; rfl]
        rw [if_pos hm]; exact hc'
      · rw [hc] at hc'; cases hc'
        intro e
        have e : c = hA.objs.size := e
        rw [e, c0] at gc; cases gc
      · unfold compM at e
        rw [if_pos hk] at e
        exact hv' v e
  have hxk : (compKd kd scope).lookup x = some .local := by
    rw [← compKd_eq F]; exact lookup_relabel_local o5
  have loop : ∀ s4 : Shared, s4 = { s with heap := h4, toks := s4.toks } → codeAny (model prog w) A (.compLoop (.ListComp elt [⟨.Name x px, iter, [], 0⟩] scope pos) 0 iv (.ref h2.objs.size) (compEnvC scope (clOf env scope.names []) hA.objs.size env))
      (compPost (model prog w) A E use Qf (.ref h2.objs.size) hA.objs.size) s4 := by
    intro s4 hs4
    refine codeAny_compLoop_list (fun k s' => ∃ (i : Nat) (acc : List V) (ws : List Value) (gn : Nat) (S' : St) (h' : Heap) (tk : Nat) (mm : MM), k = (itItems it).length - i ∧ i ≤ (itItems it).length ∧ s' = { s with heap := h', toks := tk } ∧ ItAt s.heap h' S' iv it i ∧
      HInv prog w base h' S' ∧ Ev noX s.heap S h' S' ∧ Frame (compEnvC scope (clOf env scope.names []) hA.objs.size env) (compKd kd scope) mm h' S' ∧ (∀ v, setM mm x v = setM (compM kd scope m) x v) ∧
      h'.get? h2.objs.size = some (lstObj ws gn) ∧ RVs h' acc ws ∧ acc.length ≤ LB ∧ S' h2.objs.size = none ∧
      compW (itChk it) (fun v S' Q' => wE K call n (compKd kd scope) (setM (compM kd scope m) x v) elt S' Q') ((itItems it).drop i) acc S' (fun acc S' => ∀ r, Fresh S1 r → S' r = none → Q (.vR r) (put S' r (.lst acc)))) ?_ (itItems it).length
      ⟨0, [], [], 0, S1, h4, s4.toks, compM kd scope m, by simp, Nat.zero_le _, hs4, ia4, I4, ev4, F4, fun _ => rfl, gA4, rfl, Nat.zero_le _, rS1, by simpa using hq⟩
    intro k s' x00
    refine hide fun G0 g0 => ?_
    obtain ⟨i, acc, ws, gn, S', h', tk, mm, rfl, hi, rfl, ia', I', ev', F', hmm, gD', rD', hlen, sD', hw⟩ := x00
    refine g0 ?_
    clear g0 G0
    cases hv : (itItems it)[i]? with
    | none =>
      have hdrop : (itItems it).drop i = [] := List.drop_eq_nil_of_le (List.getElem?_eq_none_iff.mp hv)
      rw [hdrop] at hw
      have hw := compW_nil.mp hw
      refine wpAny_mono (next_end (s := { s with heap := h', toks := tk }) hh I' ia' hw.1 hv) (fun y s5 hy => ?_) fun _ _ x => x
      refine hide fun G0 g0 => ?_
      obtain ⟨rfl, h5, rfl, ch⟩ := hy
      refine g0 ?_
      clear g0 G0
      have I5 := ch.ch.inv I.keep I'
      have ev5 := ch.ch.ev ev'
      obtain ⟨ml, hn5, _⟩ := (ch.frame F').loc
      have gD5 := ch.at gD' (fun vs e => by cases e)
      have ad := adopt (o := .lst acc) (r := h2.objs.size) I5 I.keep ev5 r0 (by
        cases z : S h2.objs.size with
        | none => rfl
        | some o => have := ev2.live _ (get_new h2); have := I.noneAt this; rw [this] at z; cases z) ⟨hlen, ws, gn, gD5, rD'.mono ch.ch.tup⟩
      exact fin h2.objs.size hA.objs.size h5 tk _ ml c0 (by rw [put_ne (Ne.symm hrc)]; exact F'.locS) hn5 ad.1 ad.2 (hw.2 _ I2.fresh sD')
    | some v =>
      have hilt : i < (itItems it).length := (List.getElem?_eq_some_iff.mp hv).1
      have hdrop : (itItems it).drop i = v :: (itItems it).drop (i + 1) := by
        rw [List.drop_eq_getElem_cons hilt]; congr 1; exact (List.getElem?_eq_some_iff.mp hv).2
      rw [hdrop] at hw
      have hw := compW_cons.mp hw
      refine wpAny_mono (next_item1 (s := { s with heap := h', toks := tk }) I' ia' hw.1 (by cases it <;> first | rfl | cases hcomp) hv) (fun y s5 hy => ?_) fun _ _ x => x
      refine hide fun G0 g0 => ?_
      obtain ⟨y', h5, tk5, rfl, rfl, ch, rv, ia5⟩ := hy
      refine g0 ?_
      clear g0 G0
      have I5 := ch.ch.inv I.keep I'
      have ev5 := ch.ch.ev ev'
      have F5 := ch.frame F'
      have gD5 := ch.at gD' (fun vs e => by cases e)
      have rD5 := rD'.mono ch.ch.tup
      refine wpAny_assign_Name (store_sound (s := { s with heap := h5, toks := tk5 }) I5 F5 (fun a z => ?_) (by simp [bindOk, hxk]) rv fun h6 tk6 I6 ev6 F6 => ?_)
      · rcases z with rfl | ⟨z, _⟩
        · cases q : base.get? hA.objs.size with
          | none => exact q
          | some o => have := I.keep _ o q; rw [c0] at this; cases this
        · rw [hxk] at z; cases z
      have xC : ∀ a, PrivX (compEnvC scope (clOf env scope.names []) hA.objs.size env) (compKd kd scope) x a → a = hA.objs.size := fun a z => by
        rcases z with rfl | ⟨z, _⟩
        · rfl
        · rw [hxk] at z; cases z
      have ev6' : Ev noX s.heap S h6 S' := Ev.drop ((ev5.weaken (fun _ f => f.elim)).trans ev6) fun a z => .inr (by rw [xC a z]; exact c0)
      have ia6 := ia5.ev ev6 (fun a o z e => F5.offF a o z.priv e)
      have gD6 := ev6.keep _ _ (fun z => hrc (xC _ z)) gD5 (notOwn_none sD')
      have rD6 := rD5.mono ev6.tup
      rw [hmm v] at F6
      refine PG.step (γ := Unit) (C A _ _ _ elt S' { s with heap := h6, toks := tk6 } _ _ rm F6 I6 hw.2) fun u b S7 h7 tk7 ru I7 ev7 q7 => ?_
      have gD7 := ev7.keep _ _ id gD6 (notOwn_none sD')
      have sD7 := ev7.noneAt gD6 sD'
      have rD7 := rD6.mono ev7.tup
      have F7 := F6.evN ev7
      have ia7 := ia6.ev ev7 (fun a o f => f.elim)
      have hlw := rD7.length
      refine wpAny_list_append_plain (s := { s with heap := h7, toks := tk7 }) (items := ws.toArray) ⟨gn, gD7⟩ (fun h8 hl8 hsb8 => ?_) (by have := lb_line; simp only [List.size_toArray]; lia)
      obtain ⟨gn8, gD8⟩ := hl8
      have gD7' : h7.get? h2.objs.size = some (lstObj ws gn) := gD7
      have ch8 : Ch s.heap h7 S7 h8 := by
        refine ⟨fun a => a = h2.objs.size, ?_, ?_, ?_, fun b o nb e => hsb8.extBut b o nb e⟩
        · rintro a rfl; exact r0
        · rintro a rfl; exact sD7
        · rintro a rfl ws n q; rw [gD7'] at q; have := congrArg Obj.cls (Option.some.inj q); simp at this
      have F8 : Frame _ _ _ h8 S7 := F7.keeps (fun b o p e => hsb8.extBut b o (by
        rintro rfl
        have e : h7.get? h2.objs.size = some o := e
        rw [gD7'] at e; cases e
        rcases F7.privData p gD7' with ⟨_, _, q⟩ | ⟨_, q⟩ <;> cases q) e) ch8.tup
      have ia8 : ItAt s.heap h8 S7 iv it (i + 1) := by
        refine ItAt.ev (X := fun a => a = h2.objs.size) ia7 (Ev.priv (ob := lstObj ws gn) rfl gD7' (fun ws n q => by have := congrArg Obj.cls q; simp at this) (fun b o nb e => hsb8.extBut b o nb e) (by rw [gD8]; exact fun q => nomatch q)) ?_
        rintro a o rfl e vs q
        rw [gD7'] at e; cases e; cases q
      refine ⟨(itItems it).length - (i + 1), by lia, i + 1, acc ++ [u], ws ++ [b], gn8, S7, h8, tk7, _, rfl, hilt, rfl, ia8, ch8.inv I.keep I7, ch8.ev (ev6'.trans ev7), F8, fun v' => ?_, ?_, ?_, ?_, sD7, q7.2⟩
      · rw [setM_setM]
      · rw [gD8]; simp
      · exact (rD7.mono ch8.tup).append (RVs.cons (ru.mono ch8.tup) RVs.nil)
      · simpa using q7.1
  refine codeAny_compStart_list (loop _ rfl) ?_
  exact self_sound (A := A) hh I4 ia4 hcomp hc1 (loop _ rfl)

theorem let_go {h5 h6 : Heap} {S5 : St} {C : Addr} {ml : Str → Option Value} {h0 : Heap} {S0 : St} {X : Addr → Prop} (c0 : h0.get? C = none) (cS : S5 C = none) (hn : h5.Ns C ml) (hsb : Heap.SameBut C h5 h6) (k0 : ∀ b o, base.get? b = some o → h0.get? b = some o) (I : HInv prog w base h5 S5) (ev : Ev X h0 S0 h5 S5) :
    HInv prog w base h6 S5 ∧ Ev X h0 S0 h6 S5 ∧ TupK h5 h6 := by
  refine hide fun G0 g0 => ?_
  obtain ⟨oC, es, ep, gC, dC, _⟩ := id hn
  refine g0 ?_
  clear g0 G0
  have ch6 : Ch h0 h5 S5 h6 := by
    refine ⟨fun a => a = C, ?_, ?_, ?_, fun b o nb e => hsb.extBut b o nb e⟩
    · rintro a rfl; exact c0
    · rintro a rfl; exact cS
    · rintro a rfl ws n q
      rw [gC] at q; cases q; cases dC
  exact ⟨ch6.inv k0 I, ch6.ev ev, ch6.tup⟩
theorem CompC.of (X : K.In base) (C : EC prog w base K call d n) (IT : IC prog w base K call d n) : CompC prog w base K call d n := by
  intro A env kd m elt x px iter scope pos S s Q E rm F I h
  have h := E_s_comp.mp h
  rw [arm_eval_ListComp]
  dsimp only
  refine comp_sound (use := none) X C IT rm F I h fun D C h5 tk S5 ml c0 cS hn I5 ev5 q => ⟨ml, hn, fun h6 hsb => ?_⟩
  obtain ⟨a, b, c⟩ := let_go c0 cS hn hsb I.keep I5 ev5
  exact ⟨.vR D, S5, h6, tk, rfl, rvR, a, b, q⟩
end
end Mine
end
section
open PySem PySem.W PyProof.Rows PySem.Calls
set_option maxRecDepth 100000
set_option linter.unusedVariables false
namespace Mine

section
variable {prog : Program} {w : World} {base : Heap} {K : Frag} {call : Value → List V → St → (V → St → Prop) → Prop} {d : Nat} {A : Around} {E : Value → Shared → Prop} {S S1 : St} {s : Shared} {env : Env} {kd : Kd} {m : MM} {n : Nat}

structure AllC (prog : Program) (w : World) (base : Heap) (K : Frag) (call : Value → List V → St → (V → St → Prop) → Prop) (d n : Nat) : Prop where
  e : EC prog w base K call d n
  t : TC prog w base K call d n
  a : AC prog w base K call d n
  b : BC prog w base K call d n
  c : CC prog w base K call d n
  l : LC prog w base K call d n
  o : OC prog w base K call d n
  dd : DC prog w base K call d n
  i : IC prog w base K call d n
theorem exprs (X : K.In base) {p : Program} {loose : List Str} {mg mb : Str → Option Value} (T : TopRead p loose mg mb base) (HC : CallOk prog w base call d) : ∀ n, AllC prog w base K call d n
  | 0 => by
    constructor
    · intro A env kd m e S s Q E _ _ _ h; exact (show False from h).elim
    · intro A env kd m e S s Q E _ _ _ h; exact (show False from h).elim
    · intro A env kd m op es S s Q E _ _ _ h; exact (show False from h).elim
    · intro A env kd m pos op es S s Q E _ _ _ h; exact (show False from h).elim
    · intro A env kd m pos a wa ops cs S s Q E _ _ _ _ h; exact (show False from h).elim
    · intro A env kd m pos es S s Q E _ _ _ h; exact (show False from h).elim
    · intro A env kd m e S s Q E _ _ _ h; exact (show False from h).elim
    · intro A env kd m pos ks es S s Q E _ _ _ h; exact (show False from h).elim
    · intro A env kd m e S s Q E _ _ _ h; exact (show False from h).elim
  | n + 1 => by
    have ih := exprs X T HC n
    exact ⟨EC.succ X T HC ih.e ih.t ih.b ih.c ih.l ih.o ih.dd (CompC.of X ih.e ih.i), TC.succ ih.e ih.t ih.a ih.c, AC.succ ih.t ih.a, BC.succ ih.e ih.b, CC.succ ih.e ih.c, LC.succ ih.e ih.l, OC.succ ih.e, DC.succ ih.e ih.dd, IC.succ X T ih.e ih.l⟩

/-! stores -/
theorem setMs_eq : ∀ (xs : List Str) (vs : List V) (m : MM) (y : Str), xs.Nodup → vs.length = xs.length → setMs m xs vs y = (match (xs.zip vs).lookup y with | some v => some v | none => m y)
  | [], vs, m, y, _, h => by cases vs <;> simp [setMs]
  | x :: xs, [], m, y, _, h => by simp at h
  | x :: xs, v :: vs, m, y, nd, h => by
    rw [List.nodup_cons] at nd
    show setMs (setM m x v) xs vs y = _
    rw [setMs_eq xs vs _ y nd.2 (by simpa using h), List.zip_cons_cons, List.lookup_cons]
    by_cases e : y = x
    · subst e
      simp only [beq_self_eq_true]
      have : (xs.zip vs).lookup y = none := by
        rw [List.lookup_eq_none_iff]
        intro p hp
        have := List.of_mem_zip hp
        have hne : y ≠ p.1 := fun q => nd.1 (by rw [q]; exact this.1)
        simpa using hne
      rw [this]; simp [setM]
    · have hb : (y == x) = false := beq_eq_false_iff_ne.mpr e
      simp only [hb]
      cases (xs.zip vs).lookup y <;> simp [setM, e]
theorem lookup_mem {α : Type} : ∀ {l : List (Str × α)} {y : Str} {v : α}, (l.map (·.1)).Nodup → (l.lookup y = some v ↔ (y, v) ∈ l)
  | [], _, _, _ => by simp
  | (x, u) :: r, y, v, nd => by
    rw [List.map_cons, List.nodup_cons] at nd
    rw [List.lookup_cons]
    by_cases e : y = x
    · subst e
      simp only [beq_self_eq_true, List.mem_cons, Prod.mk.injEq, true_and, Option.some.injEq]
      constructor
      · intro q; exact .inl q.symm
      · rintro (q | q)
        · exact q.symm
        · exact absurd (List.mem_map_of_mem (f := (·.1)) q) nd.1
    · have hb : (y == x) = false := beq_eq_false_iff_ne.mpr e
      rw [hb]
      simp only [List.mem_cons, Prod.mk.injEq, e, false_and, false_or]
      exact lookup_mem nd.2
theorem zip_rev : ∀ {xs : List Str} {vs : List V}, vs.length = xs.length → xs.reverse.zip vs.reverse = (xs.zip vs).reverse
  | [], [], _ => rfl
  | x :: xs, v :: vs, h => by
    have h' : vs.length = xs.length := by simpa using h
    rw [List.reverse_cons, List.reverse_cons, List.zip_append (by simp [h']), zip_rev h']
    simp
theorem nodup_rev {xs : List Str} (nd : xs.Nodup) : xs.reverse.Nodup := by
  unfold List.Nodup
  rw [List.pairwise_reverse]
  exact List.Pairwise.imp (fun h => Ne.symm h) nd
theorem setMs_rev {xs : List Str} {vs : List V} {m : MM} (nd : xs.Nodup) (h : vs.length = xs.length) : setMs m xs.reverse vs.reverse = setMs m xs vs := by
  funext y
  rw [setMs_eq _ _ _ _ (nodup_rev nd) (by simpa using h), setMs_eq _ _ _ _ nd h, zip_rev h]
  have nd1 : ((xs.zip vs).map (·.1)).Nodup := by rw [List.map_fst_zip (by lia)]; exact nd
  have nd2 : ((xs.zip vs).reverse.map (·.1)).Nodup := by rw [List.map_reverse]; exact nodup_rev nd1
  have : (xs.zip vs).reverse.lookup y = (xs.zip vs).lookup y := by
    cases q : (xs.zip vs).lookup y with
    | some v => rw [lookup_mem nd2]; rw [lookup_mem nd1] at q; simpa using q
    | none =>
      cases z : (xs.zip vs).reverse.lookup y with
      | none => rfl
      | some v => rw [lookup_mem nd2, List.mem_reverse, ← lookup_mem nd1, q] at z; cases z
  rw [this]

noncomputable def StoresX (prog : Program) (w : World) (A : Around) (E : Value → Shared → Prop) (env : Env) : List (Value → Sem Unit) → List Str → Prop
  | [], [] => True
  | t :: ts, x :: xs => (∀ v s Q, wpAny (model prog w) A (storeName env x v) Q E s → wpAny (model prog w) A (t v) Q E s) ∧ StoresX prog w A E env ts xs
  | _, _ => False
theorem StoresX.names : ∀ (xs : List Str), StoresX prog w A E env (xs.map fun x => bindName env x) xs
  | [] => trivial
  | x :: xs => ⟨fun v s Q h => wpAny_bindName h, StoresX.names xs⟩
theorem namesOf_cons {t : Expr} {ts : List Expr} {xs : List Str} (h : namesOf (t :: ts) = some xs) : ∃ x p ys, t = .Name x p ∧ namesOf ts = some ys ∧ xs = x :: ys := by
  induction t using PySem.Expr.casesOn with
  | Name x p =>
    obtain ⟨ys, hy, e⟩ := Option.map_eq_some_iff.mp (show (namesOf ts).map (x :: ·) = some xs from h)
    exact ⟨x, p, ys, rfl, hy, e.symm⟩
  | _ => exact nomatch (show (none : Option (List Str)) = some xs from h)
theorem namesOf_stores (A : Around) (E : Value → Shared → Prop) (env : Env) {ts : List Expr} {xs : List Str} (h : namesOf ts = some xs) : (assignEach ts env).length = xs.length ∧ (assignEach ts env).findIdx? (·.1) = none ∧ StoresX prog w A E env ((assignEach ts env).map (·.2)) xs := by
  induction ts generalizing xs with
  | nil => cases (show some [] = some xs from h); exact ⟨rfl, rfl, trivial⟩
  | cons t ts ih =>
    obtain ⟨x, p, ys, rfl, hy, rfl⟩ := namesOf_cons h
    obtain ⟨b, c, d⟩ := ih hy
    refine ⟨congrArg Nat.succ b, ?_, fun v s Q h => wpAny_assign_Name h, d⟩
    show ((false, assign (.Name x p) env) :: assignEach ts env).findIdx? (·.1) = none
    rw [List.findIdx?_cons, c]; rfl
theorem stores_sound {h0 : Heap} {S0 : St} (out : ∀ a, Priv env kd a → base.get? a = none) : ∀ (sts : List (Value → Sem Unit)) (xs : List Str) (vs : List V) (ys : List Value) (m : MM) (s : Shared) (Q : Unit → Shared → Prop), StoresX prog w A E env sts xs → vs.length = xs.length → RVs s.heap vs ys → xs.all (bindOk kd) = true →
    HInv prog w base s.heap S → Frame env kd m s.heap S → Ev (Priv env kd) h0 S0 s.heap S →
    (∀ h' tk, HInv prog w base h' S → Ev (Priv env kd) h0 S0 h' S → Frame env kd (setMs m xs vs) h' S → Q () { s with heap := h', toks := tk }) →
    wpAny (model prog w) A (assignInOrder sts ys) Q E s
  | [], [], vs, ys, m, s, Q, hs, hl, r, hb, I, F, ev, h => by
    induction vs using List.casesOn with
    | nil => exact wpAny_pure (h s.heap s.toks I ev F)
    | cons _ _ => simp at hl
  | [], _ :: _, vs, ys, m, s, Q, hs, hl, r, hb, I, F, ev, h => hs.elim
  | _ :: _, [], vs, ys, m, s, Q, hs, hl, r, hb, I, F, ev, h => hs.elim
  | t :: ts, x :: xs, [], ys, m, s, Q, hs, hl, r, hb, I, F, ev, h => by simp at hl
  | t :: ts, x :: xs, v :: vs, ys, m, s, Q, hs, hl, r, hb, I, F, ev, h => by
    simp only [RVs] at r
    obtain ⟨y, r', rfl, ry, rr⟩ := r
    simp only [List.all_cons, Bool.and_eq_true] at hb
    refine assignInOrder_cons (hs.1 _ _ _ (store_sound I F (fun a z => out a z.priv) hb.1 ry fun h1 tk1 I1 ev1 F1 => ?_))
    exact stores_sound out ts xs vs r' _ { s with heap := h1, toks := tk1 } Q hs.2 (by simpa using hl) (rr.mono ev1.tup) hb.2 I1 F1 (ev.trans (ev1.weaken fun a z => z.priv)) fun h2 tk2 I2 ev2 F2 => h h2 tk2 I2 ev2 F2

noncomputable def Out (base : Heap) (env : Env) (kd : Kd) : Prop := ∀ a, Priv env kd a → base.get? a = none
noncomputable def PA (prog : Program) (w : World) (base : Heap) (env : Env) (kd : Kd) (S : St) (s : Shared) (k : MM → St → Prop) (s' : Shared) : Prop :=
  ∃ m' S' h' tk, s' = { s with heap := h', toks := tk } ∧ HInv prog w base h' S' ∧ Ev (Priv env kd) s.heap S h' S' ∧ Frame env kd m' h' S' ∧ k m' S'

theorem unpacked {vs : List V} {k : MM → St → Prop} {xs : List Str} {sts : List (Value → Sem Unit)} (hh : A.handled = none) (out : Out base env kd) (F : Frame env kd m s.heap S) (I : HInv prog w base s.heap S) (hs : StoresX prog w A E env sts xs)
    (hl : vs.length = xs.length) (hb : xs.all (bindOk kd) = true) (q : k (setMs m xs vs) S) {h1 : Heap} {ws : List Value} (he : Heap.ExtBut s.heap.objs.size s.heap h1) (rw' : RVs s.heap vs ws) :
    wpAny (model prog w) A (assignInOrder sts ws) (fun _ => PA prog w base env kd S s k) E { s with heap := h1 } := by
  have kk : ∀ b o, s.heap.get? b = some o → h1.get? b = some o := fun b o e => he b o (Nat.ne_of_lt (Heap.lt_size e)) e
  refine stores_sound (h0 := s.heap) (S0 := S) out sts xs vs ws m { s with heap := h1 } _ hs hl (rw'.mono (TupK.of kk)) hb (I.grow kk) (F.keeps (fun b o _ e => kk b o e) (TupK.of kk)) (Ev.grow kk) fun h2 tk I2 ev2 F2 => ?_
  exact ⟨_, S, h2, tk, rfl, I2, ev2, F2, q⟩

theorem assign_sound (X : K.In base) (rm : Room A d) (AC : AllC prog w base K call d n) (out : Out base env kd) {t : Expr} {v : V} {y : Value} {k : MM → St → Prop} (F : Frame env kd m s.heap S) (I : HInv prog w base s.heap S) (r : RV s.heap v y) (h : wAsg K call n kd m t v S k) :
    wpAny (model prog w) A (assign t env y) (fun _ => PA prog w base env kd S s k) E s := by
  induction t using PySem.Expr.casesOn with
  | Name x p =>
    have h := E_w_name.mp h
    exact wpAny_assign_Name (store_sound I F (fun a z => out a z.priv) h.1 r fun h' tk I' ev' F' => ⟨_, S, h', tk, rfl, I', ev'.weaken fun a z => z.priv, F', h.2⟩)
  | Tuple ts kk p =>
    refine hide fun G0 g0 => ?_
    obtain ⟨xs, hx, nd, hb, vs, rfl, hl, q⟩ := E_w_tup.mp h
    refine g0 ?_
    clear g0 G0
    obtain ⟨a, b, c⟩ := namesOf_stores (prog := prog) (w := w) A E env hx
    refine hide fun G0 g0 => ?_
    obtain ⟨ad, nn, ws, rfl, g, rr⟩ := RV.tup r
    refine g0 ?_
    clear g0 G0
    have hw := rr.length
    refine wpAny_assign_Tuple (items := ws.toArray) rm.handled ⟨_, g, rfl, nn, rfl⟩ (by rw [a]; simp; lia) b fun h1 he => ?_
    exact unpacked rm.handled out F I c hl hb q he rr
  | Attribute o name p =>
    have h := E_w_attr.mp h
    rw [arm_assign_Attribute]
    refine wpAny_bind (wpAny_holding (PG.step (γ := Unit) (AC.e A env kd m o S s _ E rm F I h) fun v2 b S1 h1 tk r1 I1 ev q => ?_))
    refine wpAny_bind (wpAny_standAt (wpAny_bind (wpAny_holding (PG.step (γ := Unit) (setA_sound (s := { s with heap := h1, toks := tk }) X I1 r1 (r.mono ev.tup) q) fun _ _ S2 h2 tk2 _ I2 ev2 q2 => ?_))))
    exact wpAny_release' ⟨m, S2, h2, tk2, rfl, I2, (ev.trans ev2).weaken fun _ f => f.elim, (F.evN ev).evN ev2, q2⟩
  | Subscript o i p =>
    have h := E_w_sub.mp h
    rw [arm_assign_Subscript]
    refine wpAny_bind (wpAny_holding (PG.step (γ := Unit) (AC.e A env kd m o S s _ E rm F I h.2) fun v2 b S1 h1 tk r1 I1 ev q => ?_))
    refine wpAny_bind (wpAny_holding (PG.step (γ := Unit) (AC.e A env kd m i S1 _ _ E rm (F.evN ev) I1 q) fun v3 b3 S2 h2 tk2 r2 I2 ev2 q2 => ?_))
    refine wpAny_bind (wpAny_standAt (wpAny_bind (wpAny_holding (PG.step (γ := Unit) (setItem_sound (s := { s with heap := h2, toks := tk2 }) I2 (r1.mono ev2.tup) r2 ((r.mono ev.tup).mono ev2.tup) q2) fun _ _ S3 h3 tk3 _ I3 ev3 q3 => ?_))))
    exact wpAny_release' ⟨m, S3, h3, tk3, rfl, I3, ((ev.trans ev2).trans ev3).weaken fun _ f => f.elim, ((F.evN ev).evN ev2).evN ev3, q3⟩
  | _ => exact (show False from h).elim

theorem swapped_ok {ts vs : List Expr} {xs : List Str} {kk kk' : Nat} {p p' : Pos} (hx : namesOf ts = some xs) (ht : vs.all (constantsAlone 8) = false) :
    swappedStores [.Tuple ts kk p] (.Tuple vs kk' p') env = pure none ∨ swappedStores [.Tuple ts kk p] (.Tuple vs kk' p') env = pure (some xs) := by
  have fm : ∀ (line : Nat) {ts : List Expr} {xs : List Str}, namesOf ts = some xs → (ts.filterMap fun
      | .Name id pos => if env.kindOf id == some .local && pos.line == line then some id else none
      | _ => none).length ≤ ts.length ∧ ((ts.filterMap fun
      | .Name id pos => if env.kindOf id == some .local && pos.line == line then some id else none
      | _ => none).length = ts.length → (ts.filterMap fun
      | .Name id pos => if env.kindOf id == some .local && pos.line == line then some id else none
      | _ => none) = xs) := by
    intro line ts
    induction ts with
    | nil => intro xs h; cases (show some [] = some xs from h); exact ⟨Nat.le_refl _, fun _ => rfl⟩
    | cons t ts ih =>
      intro xs h
      refine hide fun G0 g0 => ?_
      obtain ⟨x, p, ys, rfl, hy, rfl⟩ := namesOf_cons h
      refine g0 ?_
      clear g0 G0
      obtain ⟨a, b⟩ := ih hy
      rw [List.filterMap_cons]
      by_cases c : (env.kindOf x == some .local && p.line == line) = true
      · simp only [c, if_true, List.length_cons]
        exact ⟨Nat.succ_le_succ a, fun e => by rw [b (Nat.succ.inj e)]⟩
      · simp only [Bool.not_eq_true] at c
        simp only [c, Bool.false_eq_true, if_false, List.length_cons]
        exact ⟨Nat.le_succ_of_le a, fun e => absurd (e ▸ a : ts.length + 1 ≤ ts.length) (Nat.not_succ_le_self _)⟩
  unfold swappedStores
  dsimp only
  split
  · exact .inl rfl
  · split
    · exact .inl rfl
    · split
      · exact .inl rfl
      · rename_i _ _ c3
        split
        · exact .inl rfl
        · split
          · rename_i c; rw [ht] at c; cases c
          · right
            obtain ⟨a, b⟩ := fm ((ts.head?.map (·.pos.line)).getD 0) hx
            simp only [Bool.or_eq_true, bne_iff_ne, not_or, ne_eq, Decidable.not_not] at c3
            exact congrArg (fun l => (pure (some l) : Sem (Option (List Str)))) (b c3.1)
end
end Mine
end
section
open PySem PySem.W PyProof.Rows PySem.Calls
set_option maxRecDepth 100000
set_option linter.unusedVariables false
namespace Mine

noncomputable def FlR (h : Heap) : Fl → Flow → Prop
  | .next, f => f = .next
  | .brk, f => f = .brk
  | .cont, f => f = .cont
  | .ret v, f => ∃ x, f = .ret x ∧ RV h v x

section
variable (prog : Program) (w : World) (base : Heap) (K : Frag) (call : Value → List V → St → (V → St → Prop) → Prop) (d : Nat)
noncomputable def PX (env : Env) (kd : Kd) (S : St) (s : Shared) (Q : Fl → MM → St → Prop) (f : Flow) (s' : Shared) : Prop :=
  ∃ fl m' S' h' tk, s' = { s with heap := h', toks := tk } ∧ FlR h' fl f ∧ HInv prog w base h' S' ∧ Ev (Priv env kd) s.heap S h' S' ∧ Frame env kd m' h' S' ∧ Q fl m' S'
noncomputable def XC (n : Nat) : Prop := ∀ (A : Around) (env : Env) (kd : Kd) (m : MM) (st : Stmt) (S : St) (s : Shared) (Q : Fl → MM → St → Prop) (E : Value → Shared → Prop), Room A d → Out base env kd → Frame env kd m s.heap S → HInv prog w base s.heap S →
  wX K call n kd m st S Q → wpAny (model prog w) A (exec st env) (PX prog w base env kd S s Q) E s
noncomputable def XsC (n : Nat) : Prop := ∀ (A : Around) (env : Env) (kd : Kd) (m : MM) (st : List Stmt) (S : St) (s : Shared) (Q : Fl → MM → St → Prop) (E : Value → Shared → Prop), Room A d → Out base env kd → Frame env kd m s.heap S → HInv prog w base s.heap S →
  wXs K call n kd m st S Q → wpAny (model prog w) A (execs st env) (PX prog w base env kd S s Q) E s
end

section
variable {prog : Program} {w : World} {base : Heap} {K : Frag} {call : Value → List V → St → (V → St → Prop) → Prop} {d : Nat} {A : Around} {E : Value → Shared → Prop} {S S1 : St} {s : Shared} {env : Env} {kd : Kd} {m : MM} {n : Nat}

theorem PX.trans {Q : Fl → MM → St → Prop} {f : Flow} {s2 : Shared} {h1 : Heap} {t1 : Nat} (e : Ev (Priv env kd) s.heap S h1 S1) (x : PX prog w base env kd S1 { s with heap := h1, toks := t1 } Q f s2) : PX prog w base env kd S s Q f s2 := by
  refine hide fun G0 g0 => ?_
  obtain ⟨fl, m', S', h', tk, rfl, r, i, e', fr, q⟩ := x
  refine g0 ?_
  clear g0 G0
  exact ⟨fl, m', S', h', tk, rfl, r, i, e.trans e', fr, q⟩
theorem PX.cont {Q : Fl → MM → St → Prop} {t : Sem Flow} {h1 : Heap} {t1 : Nat} (ev : Ev (Priv env kd) s.heap S h1 S1)
    (h : wpAny (model prog w) A t (PX prog w base env kd S1 { s with heap := h1, toks := t1 } Q) E { s with heap := h1, toks := t1 }) : wpAny (model prog w) A t (PX prog w base env kd S s Q) E { s with heap := h1, toks := t1 } :=
  wpAny_mono h (fun _ _ x => PX.trans ev x) fun _ _ x => x
theorem PX.step {Q : Fl → MM → St → Prop} {t : Sem Flow} {Qf : Flow → Shared → Prop} (h : wpAny (model prog w) A t (PX prog w base env kd S s Q) E s)
    (k : ∀ fl f m' S1 h1 tk, FlR h1 fl f → HInv prog w base h1 S1 → Ev (Priv env kd) s.heap S h1 S1 → Frame env kd m' h1 S1 → Q fl m' S1 → Qf f { s with heap := h1, toks := tk }) : wpAny (model prog w) A t Qf E s :=
  wpAny_mono h (fun b s1 ⟨fl, m', S1, h1, tk, e, r, i, ev, fr, q⟩ => by subst e; exact k fl b m' S1 h1 tk r i ev fr q) fun _ _ x => x
theorem PA.step {k : MM → St → Prop} {t : Sem Unit} {Qf : Unit → Shared → Prop} (h : wpAny (model prog w) A t (fun _ => PA prog w base env kd S s k) E s)
    (kk : ∀ m' S1 h1 tk, HInv prog w base h1 S1 → Ev (Priv env kd) s.heap S h1 S1 → Frame env kd m' h1 S1 → k m' S1 → Qf () { s with heap := h1, toks := tk }) : wpAny (model prog w) A t Qf E s :=
  wpAny_mono h (fun b s1 ⟨m', S1, h1, tk, e, i, ev, fr, q⟩ => by subst e; exact kk m' S1 h1 tk i ev fr q) fun _ _ x => x
theorem Ev.toPriv {h : Heap} {h' : Heap} {S' : St} (x : Ev noX h S h' S') : Ev (Priv env kd) h S h' S' := x.weaken fun _ f => f.elim

theorem XsC.succ (X1 : XC prog w base K call d n) (X2 : XsC prog w base K call d n) : XsC prog w base K call d (n + 1) := by
  intro A env kd m st S s Q E rm out F I h
  induction st using List.casesOn with
  | nil => exact wpAny_execs_nil ⟨.next, m, S, s.heap, s.toks, rfl, rfl, I, Ev.refl, F, h⟩
  | cons st rest =>
    refine wpAny_execs_cons (PX.step (X1 A env kd m st S s _ E rm out F I h) fun fl f m' S1 h1 tk r I1 ev F1 q => ?_)
    induction fl using Fl.casesOn with
    | next => have e : f = .next := r; subst e; exact PX.cont (s := s) ev (X2 A env kd m' rest S1 { s with heap := h1, toks := tk } Q E rm out F1 I1 q)
    | brk => have e : f = .brk := r; subst e; exact ⟨.brk, m', S1, h1, tk, rfl, rfl, I1, ev, F1, q⟩
    | cont => have e : f = .cont := r; subst e; exact ⟨.cont, m', S1, h1, tk, rfl, rfl, I1, ev, F1, q⟩
    | ret v => obtain ⟨x, rfl, rv⟩ := r; exact ⟨.ret v, m', S1, h1, tk, rfl, ⟨x, rfl, rv⟩, I1, ev, F1, q⟩

theorem assign_one {env : Env} {t : Expr} {y : Value} : assignAll y ((assignEach [t] env).map (·.2)) = assign t env y ∨ ∃ t' p', t = .Starred t' p' := by
  cases t with
  | Starred t' p' => exact .inr ⟨t', p', rfl⟩
  | _ => exact .inl rfl
theorem swp_t (t : Expr) : (∃ ts k p, t = .Tuple ts k p) ∨ (∃ ts p, t = .List ts p) ∨ ∀ v env, swappedStores [t] v env = pure none := by
  rcases t <;> first | exact .inl ⟨_, _, _, rfl⟩ | exact .inr (.inl ⟨_, _, rfl⟩) | exact .inr (.inr fun _ _ => rfl)
theorem swp_v (v : Expr) : (∃ ts k p, v = .Tuple ts k p) ∨ ∀ ts k p env, swappedStores [.Tuple ts k p] v env = pure none := by
  rcases v <;> first | exact .inl ⟨_, _, _, rfl⟩ | exact .inr fun _ _ _ _ => rfl
theorem noswap {env : PySem.Env} {t v : Expr} (ht : tupleOk t v = true) : swappedStores [t] v env = pure none ∨ ∃ ts vs kk p kk' p' xs, t = .Tuple ts kk p ∧ v = .Tuple vs kk' p' ∧ namesOf ts = some xs ∧ swappedStores [t] v env = pure (some xs) := by
  rcases swp_t t with ⟨ts, kk, p, rfl⟩ | ⟨ts, p, rfl⟩ | h
  · rcases swp_v v with ⟨vs, kk', p', rfl⟩ | h
    · simp only [tupleOk, Bool.and_eq_true, Bool.not_eq_true', Option.isSome_iff_exists] at ht
      obtain ⟨⟨xs, hx⟩, hc⟩ := ht
      exact (swapped_ok (env := env) (kk := kk) (kk' := kk') (p := p) (p' := p') hx hc).imp id fun e => ⟨ts, vs, kk, p, kk', p', xs, rfl, rfl, hx, e⟩
    · exact .inl (h _ _ _ _)
  · simp [tupleOk] at ht
  · exact .inl (h _ _)
theorem sole_t (t : Expr) : (∃ x p, t = .Name x p) ∨ ∀ elt gens scope cpos l env, swapsWithSole [t] (.ListComp elt gens scope cpos) l env = pure false := by
  rcases t <;> first | exact .inl ⟨_, _, rfl⟩ | exact .inr fun _ _ _ _ _ _ => rfl
theorem sole_v (v : Expr) : (∃ elt gens scope cpos, v = .ListComp elt gens scope cpos) ∨ (∀ K c n kd m S Q, wE K c n kd m v S Q → False) ∨ ∀ t l env, swapsWithSole [t] v l env = pure false := by
  rcases v <;> first | exact .inl ⟨_, _, _, _, rfl⟩ | exact .inr (.inr fun _ _ _ => rfl) | exact .inr (.inl fun K c n kd m S Q h => by cases n <;> exact h)
theorem assign_stmt (X : K.In base) (rm : Room A d) (AC : AllC prog w base K call d n) (AC' : ∀ k, k + 1 = n → AllC prog w base K call d k) (out : Out base env kd) {t v : Expr} {pos : Pos} {Q : Fl → MM → St → Prop} (F : Frame env kd m s.heap S) (I : HInv prog w base s.heap S) (ht : tupleOk t v = true)
    (h : wE K call n kd m v S fun r S1 => wAsg K call n kd m t r S1 fun m' S2 => Q .next m' S2) : wpAny (model prog w) A (exec (.Assign [t] v pos) env) (PX prog w base env kd S s Q) E s := by
  have plain : swapsWithSole [t] v pos.line env = pure false → (swappedStores [t] v env = pure none ∨ ∃ ts vs kk p kk' p' xs, t = .Tuple ts kk p ∧ v = .Tuple vs kk' p' ∧ namesOf ts = some xs ∧ swappedStores [t] v env = pure (some xs)) →
      wpAny (model prog w) A (exec (.Assign [t] v pos) env) (PX prog w base env kd S s Q) E s := by
    intro hs hw
    rw [exec_Assign]
    refine wpAny_bind (wpAny_standAt ?_)
    rw [hs]
    refine wpAny_bind (wpAny_pure ?_)
    rw [if_neg (by decide)]
    refine wpAny_bind (PG.step (γ := Unit) (AC.e A env kd m v S s _ E rm F I h) fun r y S1 h1 tk ry I1 ev q => ?_)
    rcases hw with hw | ⟨ts, vs, kk, p, kk', p', xs, rfl, rfl, hx, hw⟩
    · rw [hw]
      refine wpAny_bind (wpAny_pure ?_)
      have e1 : assignStores env y none ((assignEach [t] env).map (·.2)) = (do assignAll y ((assignEach [t] env).map (·.2)); pure .next) := rfl
      rw [e1]
      have e2 : wpAny (model prog w) A (assign t env y) (fun _ s' => PX prog w base env kd S s Q .next s') E { s with heap := h1, toks := tk } := by
        refine PA.step (s := { s with heap := h1, toks := tk }) (assign_sound X rm AC out (F.evN ev) I1 ry q) fun m' S2 h2 tk2 I2 ev2 F2 q2 => ?_
        exact ⟨.next, m', S2, h2, tk2, rfl, rfl, I2, ev.toPriv.trans ev2, F2, q2⟩
      rcases assign_one (env := env) (t := t) (y := y) with e3 | ⟨t', p', rfl⟩
      · rw [e3]; exact wpAny_bind (wpAny_mono e2 (fun _ _ x => wpAny_pure x) fun _ _ x => x)
      · exact (show False from q).elim
    · rw [hw]
      refine wpAny_bind (wpAny_pure ?_)
      show wpAny (model prog w) A (do rule "assign.swapped-stores"; let items ← unpackItems y xs.length none; assignInOrder (xs.reverse.map fun n => bindName env n) items.reverse; pure Flow.next) _ _ _
      refine hide fun G0 g0 => ?_
      obtain ⟨xs', hx', nd, hb, us, rfl, hl, q⟩ := E_w_tup.mp q
      refine g0 ?_
      clear g0 G0
      rw [hx] at hx'; cases hx'
      refine hide fun G0 g0 => ?_
      obtain ⟨ad, nn, ws, rfl, g, rr⟩ := RV.tup ry
      refine g0 ?_
      clear g0 G0
      have hw' := rr.length
      have hsz : xs.length = ws.toArray.size := by simp; lia
      rw [hsz]
      refine wpAny_bind (wpAny_rule (wpAny_bind (wpAny_unpackItems_tuple (items := ws.toArray) rm.handled ⟨_, g, rfl, nn, rfl⟩ fun h2 he => ?_)))
      refine wpAny_bind (wpAny_mono (unpacked (s := { s with heap := h1, toks := tk }) (k := fun m' S' => Q .next m' S') (xs := xs.reverse) (vs := us.reverse) rm.handled out (F.evN ev) I1 (StoresX.names _) (by simpa using hl) (by simpa using hb) (by rw [setMs_rev nd hl]; exact q) he (by simpa using rr.reverse)) (fun _ s5 h5 => ?_) fun _ _ x => x)
      refine hide fun G0 g0 => ?_
      obtain ⟨m', S2, h2, tk2, rfl, I2, ev2, F2, q2⟩ := h5
      refine g0 ?_
      clear g0 G0
      exact wpAny_pure ⟨.next, m', S2, h2, tk2, rfl, rfl, I2, ev.toPriv.trans ev2, F2, q2⟩
  replace plain := fun e => plain e (noswap (env := env) ht)
  rcases sole_v v with ⟨elt, gens, scope, cpos, rfl⟩ | h0 | h0
  · rcases sole_t t with ⟨x, p, rfl⟩ | h0
    · have hb : swapsWith (.ListComp elt gens scope cpos) (some (.Name x p)) pos.line env = pure (env.blockKind == .function && env.kindOf x == some .local && p.line == cpos.line && !(scope.names.any fun (n, k) => n == x && (k == .local || k == .cell))) := rfl
      generalize hbb : (env.blockKind == .function && env.kindOf x == some .local && p.line == cpos.line && !(scope.names.any fun (n, k) => n == x && (k == .local || k == .cell))) = b at hb
      induction b using Bool.casesOn with
      | false => exact plain hb
      | true =>
        rw [exec_Assign_Name_used _ _ _ _ hb]
        induction n using Nat.casesOn with
        | zero => exact (show False from h).elim
        | succ k =>
        have AK := AC' k rfl
        refine hide fun G0 g0 => ?_
        obtain ⟨x2, px, iter, rfl⟩ := comp_inv h
        refine g0 ?_
        clear g0 G0
        refine wpAny_bind (wpAny_standAt (wpAny_bind ?_))
        show wpAny _ A (do let _ ← comprehension (.ListComp elt [⟨.Name x2 px, iter, [], 0⟩] scope cpos) scope env _ (newList []) false (eval iter env) (some (assign (.Name x p) env))) _ _ s
        refine wpAny_bind (wpAny_mono (comp_sound (Q := fun r S1 => wAsg K call (k + 1) kd m (.Name x p) r S1 fun m' S2 => Q .next m' S2) (use := some (assign (.Name x p) env)) (Qf := fun _ s' => PX prog w base env kd S s Q .next s') X AK.e AK.i rm F I h fun D C h5 tk S5 ml c0 cS hn I5 ev5 q => ?_) (fun _ _ x => wpAny_pure (wpAny_pure x)) fun _ _ x => x)
        show wpAny _ A (assign (.Name x p) env (.ref D)) _ _ _
        have q := E_w_name.mp q
        have F5 := F.evN ev5
        refine wpAny_assign_Name (store_sound (s := { s with heap := h5, toks := tk }) I5 F5 (fun a z => out a z.priv) q.1 rvR fun h6 tk6 I6 ev6 F6 => ?_)
        refine hide fun G0 g0 => ?_
        obtain ⟨oC, es, ep, gC, dC⟩ := id hn
        refine g0 ?_
        clear g0 G0
        have nC : ¬ Priv env kd C := fun z => F.alive z c0
        have gC6 := ev6.keep C oC (fun z => nC z.priv) gC (notOwn_none cS)
        refine ⟨ml, ⟨oC, es, ep, gC6, dC⟩, fun h7 hsb => ?_⟩
        obtain ⟨a, b, c⟩ := let_go (h0 := s.heap) (S0 := S) (X := Priv env kd) c0 cS ⟨oC, es, ep, gC6, dC⟩ hsb I.keep I6 (ev5.toPriv.trans (ev6.weaken fun a z => z.priv))
        exact ⟨.next, _, S5, h7, tk6, rfl, rfl, a, b, F6.keeps (fun b o z e => hsb.extBut b o (fun e' => nC (e' ▸ z)) e) c, q.2⟩
    · exact plain (h0 _ _ _ _ _ _)
  · exact (h0 _ _ _ _ _ _ _ h).elim
  · exact plain (h0 _ _ _)
end
end Mine
end
section
open PySem PySem.W PyProof.Rows PySem.Calls
set_option maxRecDepth 100000
set_option linter.unusedVariables false
namespace Mine

section
variable {prog : Program} {w : World} {base : Heap} {K : Frag} {call : Value → List V → St → (V → St → Prop) → Prop} {d : Nat} {A : Around} {E : Value → Shared → Prop} {S S1 : St} {s : Shared} {env : Env} {kd : Kd} {m : MM} {n : Nat}

theorem bind_asg {t : Expr} {v : V} {itr : Itr} {k : MM → Prop} (ht : tgtOk kd t itr = true) (h : bindT t v m k) : wAsg K call n kd m t v S (fun m' S' => S' = S ∧ k m') ∧ tgtFit t itr = true := by
  induction t using PySem.Expr.casesOn with
  | Name x p =>
    have ht := Bool.and_eq_true_iff.mp ht
    exact ⟨⟨ht.1, rfl, h⟩, ht.2⟩
  | Tuple ts kk p2 =>
    cases e : twoOf (namesOf ts) with
    | none => delta tgtOk at ht; dsimp only at ht; rw [e] at ht; cases ht
    | some xy =>
      obtain ⟨x, y⟩ := xy
      delta tgtOk at ht; dsimp only at ht
      delta bindT at h; dsimp only at h
      rw [e] at ht h
      have ht : (bindOk kd x && bindOk kd y && decide (x ≠ y) && !(notEnm itr)) = true := ht
      simp only [Bool.and_eq_true, decide_eq_true_eq] at ht
      refine hide fun G0 g0 => ?_
      obtain ⟨⟨⟨h1, h2⟩, h3⟩, h4⟩ := ht
      refine g0 ?_
      clear g0 G0
      induction v using V.casesOn with
      | vT us => induction us using List.casesOn with
        | nil => exact h.elim
        | cons a us => induction us using List.casesOn with
          | nil => exact h.elim
          | cons b us => induction us using List.casesOn with
            | cons _ _ => exact h.elim
            | nil => exact ⟨⟨[x, y], twoOf_ok e, by simp [h3], by simp [h1, h2], [a, b], rfl, rfl, rfl, h⟩, h4⟩
      | _ => exact h.elim
  | _ => exact nomatch (show false = true from ht)

theorem while_sound (T : TC prog w base K call d n) (B : XsC prog w base K call d n) (rm : Room A d) (out : Out base env kd) {t : Expr} {b : List Stmt} {pos : Pos} {Q : Fl → MM → St → Prop} (F : Frame env kd m s.heap S) (I : HInv prog w base s.heap S) (k0 : Nat)
    (h : whileW (fun m' S' k' => wT K call n kd m' t S' k') (fun m' S' Q' => wXs K call n kd m' b S' Q') k0 m S Q) : wpAny (model prog w) A (exec (.While t b [] pos) env) (PX prog w base env kd S s Q) E s := by
  refine wpAny_While (codeAny_whileLoop (fun k s' => ∃ m' S' h' tk, s' = { s with heap := h', toks := tk } ∧ HInv prog w base h' S' ∧ Ev (Priv env kd) s.heap S h' S' ∧ Frame env kd m' h' S' ∧
    whileW (fun m' S' k' => wT K call n kd m' t S' k') (fun m' S' Q' => wXs K call n kd m' b S' Q') k m' S' Q) ?_ k0 ⟨m, S, s.heap, s.toks, rfl, I, Ev.refl, F, h⟩)
  intro k s' x00
  refine hide fun G0 g0 => ?_
  obtain ⟨m', S', h', tk, rfl, I', ev', F', hw⟩ := x00
  refine g0 ?_
  clear g0 G0
  induction k using Nat.casesOn with
  | zero => exact (show False from hw).elim
  | succ k =>
    have hw := whileW_succ.mp hw
    refine PG.step (γ := Unit) (T A env kd m' t S' { s with heap := h', toks := tk } _ _ rm F' I' hw) fun v c S1 h1 tk1 r I1 ev1 q => ?_
    cases r
    induction v using Bool.casesOn with
    | true =>
      simp only [if_true] at q ⊢
      refine PX.step (B A env kd m' b S1 { s with heap := h1, toks := tk1 } _ _ rm out (F'.evN ev1) I1 q) fun fl f m2 S2 h2 tk2 r2 I2 ev2 F2 q2 => ?_
      have ev3 := (ev'.trans ev1.toPriv).trans ev2
      induction fl using Fl.casesOn with
      | next => have e : f = .next := r2; subst e; exact ⟨k, Nat.lt_succ_self _, m2, S2, h2, tk2, rfl, I2, ev3, F2, q2⟩
      | cont => have e : f = .cont := r2; subst e; exact ⟨k, Nat.lt_succ_self _, m2, S2, h2, tk2, rfl, I2, ev3, F2, q2⟩
      | brk => have e : f = .brk := r2; subst e; exact ⟨.next, m2, S2, h2, tk2, rfl, rfl, I2, ev3, F2, q2⟩
      | ret v => obtain ⟨x, rfl, rv⟩ := r2; exact ⟨.ret v, m2, S2, h2, tk2, rfl, ⟨x, rfl, rv⟩, I2, ev3, F2, q2⟩
    | false =>
      simp only [Bool.false_eq_true, if_false] at q ⊢
      exact wpAny_execs_nil ⟨.next, m', S1, h1, tk1, rfl, rfl, I1, ev'.trans ev1.toPriv, F'.evN ev1, q⟩

theorem for_sound (X : K.In base) (AC : AllC prog w base K call d n) (B : XsC prog w base K call d n) (rm : Room A d) (out : Out base env kd) {t it : Expr} {b : List Stmt} {pos : Pos} {Q : Fl → MM → St → Prop} (F : Frame env kd m s.heap S) (I : HInv prog w base s.heap S)
    (h : wIter K call n kd m it S fun itr S1 => tgtOk kd t itr = true ∧ loopW (itChk itr) (fun v m' S' Q' => bindT t v m' fun m'' => wXs K call n kd m'' b S' Q') (itItems itr) m S1 Q) :
    wpAny (model prog w) A (exec (.For t it b [] pos) env) (PX prog w base env kd S s Q) E s := by
  have hh := rm.handled
  refine wpAny_For (wpAny_mono (AC.i A env kd m it S s _ E rm F I h) (fun xv s1 hx => ?_) fun _ _ x => x) (folded_ok h)
  refine hide fun G0 g0 => ?_
  obtain ⟨itr, S1, h1, tk1, rfl, ir, I1, ev1, hc1, hok, hq⟩ := hx
  refine g0 ?_
  clear g0 G0
  refine wpAny_mono (iter_sound (s := { s with heap := h1, toks := tk1 }) I1 (fun a e => ev1.live a e) ir) (fun iv s2 hy => ?_) fun _ _ x => x
  refine hide fun G0 g0 => ?_
  obtain ⟨h2, tk2, rfl, k2, ia⟩ := hy
  refine g0 ?_
  clear g0 G0
  have I2 := I1.grow k2
  have ev2 := ev1.trans (Ev.grow k2)
  have F2 := F.evN ev2
  refine codeAny_forLoop_any (fun k s' => ∃ (i : Nat) (m' : MM) (S' : St) (h' : Heap) (tk : Nat), k = (itItems itr).length - i ∧ i ≤ (itItems itr).length ∧ s' = { s with heap := h', toks := tk } ∧ ItAt s.heap h' S' iv itr i ∧
      HInv prog w base h' S' ∧ Ev (Priv env kd) s.heap S h' S' ∧ Frame env kd m' h' S' ∧ loopW (itChk itr) (fun v m' S' Q' => bindT t v m' fun m'' => wXs K call n kd m'' b S' Q') ((itItems itr).drop i) m' S' Q) ?_ (itItems itr).length
      ⟨0, m, S1, h2, tk2, by simp, Nat.zero_le _, rfl, ia, I2, ev2.toPriv, F2, by simpa using hq⟩
  intro k s' x00
  refine hide fun G0 g0 => ?_
  obtain ⟨i, m', S', h', tk, rfl, hi, rfl, ia', I', ev', F', hw⟩ := x00
  refine g0 ?_
  clear g0 G0
  cases hv : (itItems itr)[i]? with
  | none =>
    have hdrop : (itItems itr).drop i = [] := List.drop_eq_nil_of_le (List.getElem?_eq_none_iff.mp hv)
    rw [hdrop] at hw
    simp only [loopW] at hw
    refine wpAny_mono (next_end (s := { s with heap := h', toks := tk }) hh I' ia' hw.1 hv) (fun y s5 hy => ?_) fun _ _ x => x
    refine hide fun G0 g0 => ?_
    obtain ⟨rfl, h5, rfl, ch⟩ := hy
    refine g0 ?_
    clear g0 G0
    exact wpAny_execs_nil ⟨.next, m', S', h5, tk, rfl, rfl, ch.ch.inv I.keep I', ch.ch.ev ev', ch.frame F', hw.2⟩
  | some v =>
    have hilt : i < (itItems itr).length := (List.getElem?_eq_some_iff.mp hv).1
    have hdrop : (itItems itr).drop i = v :: (itItems itr).drop (i + 1) := by
      rw [List.drop_eq_getElem_cons hilt]; congr 1; exact (List.getElem?_eq_some_iff.mp hv).2
    rw [hdrop] at hw
    simp only [loopW] at hw
    obtain ⟨hasg, hfit⟩ := bind_asg (K := K) (call := call) (n := n) (S := S') hok hw.2
    refine wpAny_mono (next_item (s := { s with heap := h', toks := tk }) (t := t) I' ia' hw.1 hfit hv) (fun y s5 hy => ?_) fun _ _ x => x
    refine hide fun G0 g0 => ?_
    obtain ⟨y', rfl, hy⟩ := hy
    refine g0 ?_
    clear g0 G0
    refine wpAny_mono hy (fun _ s6 h6 => ?_) fun _ _ x => x
    refine hide fun G0 g0 => ?_
    obtain ⟨h5, tk5, rfl, ch, rv, ia5⟩ := h6
    refine g0 ?_
    clear g0 G0
    have I5 := ch.ch.inv I.keep I'
    have ev5 := ch.ch.ev ev'
    have F5 := ch.frame F'
    refine PA.step (s := { s with heap := h5, toks := tk5 }) (assign_sound X rm AC out F5 I5 rv hasg) fun m6 S6 h6 tk6 I6 ev6 F6 q6 => ?_
    obtain ⟨rfl, q6⟩ := q6
    have ia6 := ia5.ev ev6 F5.offF
    refine PX.step (B A env kd m6 b S6 { s with heap := h6, toks := tk6 } _ _ rm out F6 I6 q6) fun fl f m7 S7 h7 tk7 r7 I7 ev7 F7 q7 => ?_
    have ia7 := ia6.ev ev7 F6.offF
    have ev8 := (ev5.trans ev6).trans ev7
    induction fl using Fl.casesOn with
    | next => have e : f = .next := r7; subst e; exact ⟨(itItems itr).length - (i + 1), by lia, i + 1, m7, S7, h7, tk7, rfl, hilt, rfl, ia7, I7, ev8, F7, q7⟩
    | cont => have e : f = .cont := r7; subst e; exact ⟨(itItems itr).length - (i + 1), by lia, i + 1, m7, S7, h7, tk7, rfl, hilt, rfl, ia7, I7, ev8, F7, q7⟩
    | brk => have e : f = .brk := r7; subst e; exact ⟨.next, m7, S7, h7, tk7, rfl, rfl, I7, ev8, F7, q7⟩
    | ret v => obtain ⟨x, rfl, rv⟩ := r7; exact ⟨.ret v, m7, S7, h7, tk7, rfl, ⟨x, rfl, rv⟩, I7, ev8, F7, q7⟩

theorem XC.succ (X : K.In base) (AC : ∀ k, AllC prog w base K call d k) (B : XsC prog w base K call d n) : XC prog w base K call d (n + 1) := by
  intro A env kd m st S s Q E rm out F I h
  induction st using PySem.Stmt.casesOn with
  | Expr e pos =>
    have h := E_x_expr.mp h
    have hs : swapsWith e none pos.line env = pure false := by
      cases e <;> first | rfl | exact nomatch (show false = true from h.1)
    refine wpAny_Expr (PG.step (γ := Unit) ((AC n).e A env kd m e S s _ E rm F I h.2) fun v b S1 h1 tk r I1 ev q => ?_) (by unfold interactive; rw [F.kind]; rfl) hs
    obtain ⟨rfl, q⟩ := q
    have := r.none; subst this
    exact ⟨.next, m, S1, h1, tk, rfl, rfl, I1, ev.toPriv, F.evN ev, q⟩
  | Return o pos => induction o using Option.casesOn with
    | some e =>
      have h := E_x_ret.mp h
      refine wpAny_Return_some (PG.step (γ := Unit) ((AC n).e A env kd m e S s _ E rm F I h) fun v b S1 h1 tk r I1 ev q => ?_)
      exact ⟨.ret v, m, S1, h1, tk, rfl, ⟨b, rfl, r⟩, I1, ev.toPriv, F.evN ev, q⟩
    | none => exact wpAny_Return_none ⟨.ret .vN, m, S, s.heap, s.toks, rfl, ⟨.none, rfl, rvN⟩, I, Ev.refl, F, E_x_ret0.mp h⟩
  | Assign ts v pos => induction ts using List.casesOn with
    | nil => exact (show False from h).elim
    | cons t ts => induction ts using List.casesOn with
      | nil =>
        have h := E_x_asg.mp h
        exact assign_stmt X rm (AC n) (fun k _ => AC k) out F I h.1 h.2
      | cons _ _ => exact (show False from h).elim
  | If t b o pos =>
    have h := E_x_if.mp h
    refine wpAny_If (PG.step (γ := Unit) ((AC n).t A env kd m _ S s _ E rm F I h) fun v b S1 h1 tk r I1 ev q => ?_)
    cases r
    induction v using Bool.casesOn with
    | true => exact PX.cont (s := s) ev.toPriv (B A env kd m _ S1 { s with heap := h1, toks := tk } Q E rm out (F.evN ev) I1 q)
    | false => exact PX.cont (s := s) ev.toPriv (B A env kd m _ S1 { s with heap := h1, toks := tk } Q E rm out (F.evN ev) I1 q)
  | While t b o pos => induction o using List.casesOn with
    | nil =>
      obtain ⟨k, h⟩ := E_x_while.mp h
      exact while_sound (AC n).t B rm out F I k h
    | cons _ _ => exact (show False from h).elim
  | For t it b o pos => induction o using List.casesOn with
    | nil => exact for_sound X (AC n) B rm out F I (E_x_for.mp h)
    | cons _ _ => exact (show False from h).elim
  | _ => exact (show False from h).elim

theorem stmts (X : K.In base) {p : Program} {loose : List Str} {mg mb : Str → Option Value} (T : TopRead p loose mg mb base) (HC : CallOk prog w base call d) : ∀ n, XC prog w base K call d n ∧ XsC prog w base K call d n
  | 0 => by
    constructor
    · intro A env kd m e S s Q E _ _ _ _ h; exact (show False from h).elim
    · intro A env kd m e S s Q E _ _ _ _ h; exact (show False from h).elim
  | n + 1 => by
    have ih := stmts X T HC n
    exact ⟨XC.succ X (exprs X T HC) ih.2, XsC.succ ih.1 ih.2⟩
end
end Mine
end
section
open PySem PySem.W PyProof.Rows PySem.Calls
set_option maxRecDepth 100000
set_option linter.unusedVariables false
namespace Mine

theorem cells_some : ∀ (names : List (Str × NameKind)) (n : Nat) (acc : List (Str × Addr)) {x : Str}, (names.lookup x = some .cell ∨ (acc.lookup x).isSome = true) → ((cellsFrom n names acc).lookup x).isSome = true
  | [], n, acc, x, h => by
    rcases h with h | h
    · simp at h
    · exact h
  | (y, k) :: r, n, acc, x, h => by
    unfold cellsFrom
    by_cases q : (k == NameKind.cell) = true
    · rw [if_pos q]
      refine cells_some r _ _ ?_
      by_cases e : x = y
      · subst e; right; simp
      · have hb : (x == y) = false := beq_eq_false_iff_ne.mpr e
        rcases h with h | h
        · rw [List.lookup_cons, hb] at h; exact .inl h
        · right; rw [List.lookup_cons, hb]; exact h
    · rw [if_neg q]
      refine cells_some r _ _ ?_
      rcases h with h | h
      · rw [List.lookup_cons] at h
        by_cases e : x = y
        · subst e
          simp only [beq_self_eq_true] at h
          cases h
          exact absurd rfl q
        · have hb : (x == y) = false := beq_eq_false_iff_ne.mpr e
          rw [hb] at h; exact .inl h
      · exact .inr h
theorem bindL_at {kof : Str → Option NameKind} {x : Str} (hx : kof x = some .local) : ∀ (bs : List (Str × Value)) (m0 : Str → Option Value), bindL kof bs m0 x = (match bs.reverse.lookup x with | some v => some v | none => m0 x)
  | [], m0 => rfl
  | (y, v) :: r, m0 => by
    unfold bindL
    rw [bindL_at hx r, List.reverse_cons, List.lookup_append]
    cases h : r.reverse.lookup x with
    | some u => rfl
    | none =>
      simp only [Option.none_or]
      by_cases e : x = y
      · subst e; simp [hx]
      · have hb : (x == y) = false := beq_eq_false_iff_ne.mpr e
        simp only [List.lookup_cons, hb, List.lookup_nil]
        split <;> simp [e]
theorem bindC_at {kof : Str → Option NameKind} {x : Str} (hx : kof x ≠ some .local) : ∀ (bs : List (Str × Value)) (m0 : Str → Option Value), bindC kof bs m0 x = (match bs.reverse.lookup x with | some v => some v | none => m0 x)
  | [], m0 => rfl
  | (y, v) :: r, m0 => by
    unfold bindC
    rw [bindC_at hx r, List.reverse_cons, List.lookup_append]
    cases h : r.reverse.lookup x with
    | some u => rfl
    | none =>
      simp only [Option.none_or]
      by_cases e : x = y
      · subst e; simp [hx]
      · have hb : (x == y) = false := beq_eq_false_iff_ne.mpr e
        simp only [List.lookup_cons, hb, List.lookup_nil]
        split <;> simp [e]

section
variable {prog : Program} {w : World} {base : Heap} {K : Frag} {d : Nat} {A : Around} {E : Value → Shared → Prop} {S S1 : St} {s : Shared}

theorem Room.deeper (rm : Room A (d + 1)) (env : Env) : Room (A.deeper env) d := by
  obtain ⟨a, b, c⟩ := rm
  exact ⟨a, by show A.depth + 1 + 2 * d + 10 < _; lia, by show A.units + 3 + 20 * d + 200 < _; lia⟩
theorem tc_weight (C : Addr) (args : List Value) : (Code.builtin "type.__call__" ⟨.ref C :: args, []⟩).weight = 1 := by
  first
    | rfl
    | with_unfolding_all rfl
    | kernel_rfl
theorem tc_units (C : Addr) (args : List Value) : (Code.builtin "type.__call__" ⟨.ref C :: args, []⟩).cUnits = 1 := by
  first
    | rfl
    | with_unfolding_all rfl
    | kernel_rfl
theorem Room.typeCall (rm : Room A (d + 1)) (C : Addr) (args : List Value) : Room (A.under (.builtin "type.__call__" ⟨.ref C :: args, []⟩)) d := by
  obtain ⟨a, b, c⟩ := rm
  refine ⟨a, ?_, ?_⟩
  · show A.depth + (Code.builtin "type.__call__" ⟨.ref C :: args, []⟩).weight + 2 * d + 10 < _
    rw [tc_weight]; lia
  · show A.units + (Code.builtin "type.__call__" ⟨.ref C :: args, []⟩).cUnits + 20 * d + 200 < _
    rw [tc_units]; lia

noncomputable def FnOkC (prog : Program) (w : World) (base : Heap) (K : Frag) (d : Nat) : Prop := ∀ (A : Around) (f : Addr) (vs : List V) (ws : List Value) (S : St) (s : Shared) (Q : V → St → Prop) (R : Result → Shared → Prop), Room A d → RVs s.heap vs ws → HInv prog w base s.heap S →
  (fnData K f).isSome = true → WC K d (.ref f) vs S Q → (∀ v s', PG prog w base RV S s Q v s' → R (.ok (.ret v)) s') → codeAny (model prog w) A (.call (.ref f) ⟨ws, []⟩) R s

theorem builtin_ref {f : Addr} {vs : List V} {Q : V → St → Prop} (h : builtinW (.ref f) vs S Q) : False := by
  unfold builtinW at h
  simp at h

theorem FnOkC.succ (X : K.In base) {p : Program} {loose : List Str} {mg mb : Str → Option Value} (T : TopRead p loose mg mb base) (HC : CallOk prog w base (WC K d) d) : FnOkC prog w base K (d + 1) := by
  intro A f vs ws S s Q R rm rr I hsome h hR
  obtain ⟨fd, hfd⟩ := Option.isSome_iff_exists.mp hsome
  simp only [WC, hfd] at h
  refine hide fun G0 g0 => ?_
  obtain ⟨hok, body, bv, hbody, hbv, hk, hw⟩ := h
  refine g0 ?_
  clear g0 G0
  have hat : ∃ o, s.heap.get? f = some o ∧ o.data = .func fd := by
    unfold fnData at hfd
    split at hfd
    · rename_i e
      cases hfd
      exact ⟨_, X.keeps I.keep _ _ e, rfl⟩
    · cases hfd
  obtain ⟨o, ho, hdat⟩ := hat
  simp only [fnOk, Bool.and_eq_true, beq_iff_eq, List.isEmpty_iff, Bool.not_eq_true', decide_eq_true_eq, List.all_eq_true, bne_iff_ne] at hok
  refine hide fun G0 g0 => ?_
  obtain ⟨⟨⟨⟨⟨⟨⟨⟨h1, h2⟩, h3⟩, h4⟩, h5⟩, h6⟩, h7⟩, h8⟩, h9⟩ := hok
  refine g0 ?_
  clear g0 G0
  obtain ⟨bw, hb, hrb⟩ := hbv s ws (X.keeps I.keep) rr
  have hkind : ∀ x ∈ bw, fd.scope.names.lookup x.1 = some .local ∨ (fd.scope.names.lookup x.1 = some .cell ∧ ((cellsFrom (s.heap.objs.size + 1) fd.scope.names []).lookup x.1).isSome = true) := fun x hx => by
    have e : x.1 ∈ bv.map (·.1) := by rw [← hrb.map_fst]; exact List.mem_map_of_mem (f := (·.1)) hx
    obtain ⟨y, hy, ey⟩ := List.mem_map.mp e
    have := List.all_eq_true.mp hk y hy
    simp only [bindOk, Bool.or_eq_true, beq_iff_eq] at this
    rw [ey] at this
    rcases this with q | q
    · exact .inl q
    · exact .inr ⟨q, cells_some _ _ _ (.inl q)⟩
  have hroom : A.depth < recursionLimit := by have := rm.depth; lia
  refine codeAny_call_function hroom ho hdat h3 h4 hbody (codeRec_of (X.keeps I.keep) h1) ?_
  rw [h2]
  refine hb _ _ _ _ (wpAny_newFunctionEnv_cells h5 hkind fun env he s' x => ?_)
  refine hide fun G0 g0 => ?_
  obtain ⟨h', tk, rfl, kk⟩ := x.done
  refine g0 ?_
  clear g0 G0
  refine ⟨(T.nolimit.keeps I.keep).keeps kk, codeAny_func ?_⟩
  have hkof : ∀ y, env.kindOf y = fd.scope.names.lookup y := fun y => by rw [he]; rfl
  have hL : env.locals = s.heap.objs.size := by rw [he]; rfl
  have I' := I.grow kk
  have fresh : ∀ {c : Addr}, s.heap.objs.size ≤ c → s.heap.get? c = none := fun hc => get_big _ hc
  have lf : s.heap.get? env.locals = none := by rw [hL]; exact get_new _
  have cf : ∀ {y c}, env.cells.lookup y = some c → s.heap.get? c = none := fun {y c} e => fresh (Nat.le_of_lt (by
    have := x.above _ _ (mem_of_lookup e)
    rw [hL] at this; exact this))
  have F : Frame env fd.scope.names (fun x => bv.reverse.lookup x) h' S := by
    refine ⟨by rw [he]; exact h5, hkof, by rw [he]; exact h6, by rw [he]; exact h7, ⟨_, x.toInCall.ns, fun y v hy hv => ?_⟩, I.noneAt lf, fun y hy => ?_, fun y z c e1 e2 => name_of_addr x.apart (mem_of_lookup e1) (mem_of_lookup e2)⟩
    · obtain ⟨u, hu, ru⟩ := hrb.reverse.lookup hv
      refine ⟨u, ?_, ru.mono (TupK.of kk)⟩
      rw [bindL_at ((hkof y).trans hy), hu]
    · have hs : (env.cells.lookup y).isSome = true := by rw [he]; exact cells_some _ _ _ (.inl hy)
      obtain ⟨c, hc⟩ := Option.isSome_iff_exists.mp hs
      refine ⟨c, _, hc, x.cell y c hc, I.noneAt (cf hc), fun e => ?_, fun v hv => ?_⟩
      · have := x.above _ _ (mem_of_lookup hc)
        rw [e] at this; exact Nat.lt_irrefl _ this
      · obtain ⟨u, hu, ru⟩ := hrb.reverse.lookup hv
        refine ⟨u, ?_, ru.mono (TupK.of kk)⟩
        rw [bindC_at (by rw [hkof y, hy]; exact fun q => nomatch q), hu]
  have pf : ∀ a, Priv env fd.scope.names a → s.heap.get? a = none := fun a z => by
    rcases z with rfl | ⟨y, _, hc⟩
    · exact lf
    · exact cf hc
  have out : Out base env fd.scope.names := fun a z => by
    cases q : base.get? a with
    | none => rfl
    | some o => have := I.keep a o q; rw [pf a z] at this; cases this
  refine PX.step ((stmts X T HC FUEL).2 (A.deeper env) env _ _ body S { s with heap := h', toks := tk } _ _ (rm.deeper env) out F I' hw) fun fl f m' S1 h1 tk1 r I1 ev F1 q => ?_
  refine hR _ _ ⟨retV fl, S1, h1, tk1, rfl, ?_, I1, ?_, q⟩
  · induction fl using Fl.casesOn with
    | next => have e : f = .next := r; subst e; exact rvN
    | brk => have e : f = .brk := r; subst e; exact rvN
    | cont => have e : f = .cont := r; subst e; exact rvN
    | ret v => obtain ⟨x, rfl, rv⟩ := r; exact rv
  · exact Ev.drop ((Ev.grow (X := Priv env fd.scope.names) (S := S) kk).trans ev) fun a z => .inr (pf a z)

theorem calls (X : K.In base) {p : Program} {loose : List Str} {mg mb : Str → Option Value} (T : TopRead p loose mg mb base) : ∀ d, CallOk prog w base (WC K d) d ∧ FnOkC prog w base K d
  | 0 => by
    refine ⟨fun A g vs ws S s Q E rm rr I h => ?_, fun A f vs ws S s Q R rm rr I hs h hR => ?_⟩
    · simp only [WC] at h
      exact builtin_sound rm I rr h
    · simp only [WC] at h
      exact (builtin_ref h).elim
  | d + 1 => by
    have ih := calls X T d
    have fn := FnOkC.succ X T ih.1
    refine ⟨fun A g vs ws S s Q E rm rr I h => ?_, fn⟩
    cases g with
    | ref f =>
      cases hfd : fnData K f with
      | some fd => exact wpAny_call (fn A f vs ws S s Q _ rm rr I (by rw [hfd]; rfl) h fun v s' z => z)
      | none =>
        simp only [WC, hfd] at h
        cases hin : initOf K f with
        | none => simp only [hin] at h
        | some fI =>
          simp only [hin] at h
          unfold initOf at hin
          split at hin
          · rename_i hm
            split at hin
            · rename_i f' hf
              split at hin
              · rename_i hok
                cases hin
                simp only [Bool.and_eq_true] at hok
                have X1 := X.keeps I.keep
                refine hide fun G0 g0 => ?_
                obtain ⟨hh, gg, dd, t, os⟩ := s
                refine g0 ?_
                clear g0 G0
                have k1 : ∀ b o, hh.get? b = some o → (hh.push emptyDict).get? b = some o := fun b o e => Heap.get?_push_of_some _ e
                have k2 : ∀ b o, (hh.push emptyDict).get? b = some o → ((hh.push emptyDict).push (instObj f hh.objs.size)).get? b = some o := fun b o e => Heap.get?_push_of_some _ e
                have e1 : (hh.push emptyDict).objs.size = hh.objs.size + 1 := Heap.size_push ..
                have I1 : HInv prog w base (hh.push emptyDict) (put S hh.objs.size (.attrs [])) := I.alloc k1 (get_new _) ⟨Nat.zero_le _, [], 0, Heap.get?_push_size _ rfl, rfl⟩
                have v1 : Ev noX hh S (hh.push emptyDict) (put S hh.objs.size (.attrs [])) := Ev.alloc I k1 (get_new _)
                have n2 : (hh.push emptyDict).get? (hh.objs.size + 1) = none := by rw [← e1]; exact get_new _
                have g2 : ((hh.push emptyDict).push (instObj f hh.objs.size)).get? (hh.objs.size + 1) = some (instObj f hh.objs.size) := by rw [← e1]; exact Heap.get?_push_size _ rfl
                have I2 := I1.alloc (o := .inst f hh.objs.size) k2 n2 g2
                have v2 := v1.trans (Ev.alloc (X := noX) (o := .inst f hh.objs.size) I1 k2 n2)
                refine wpAny_call (make_core (makes_of X1 hm) (looks_findIn X1 hf) (fun self => bind_fn X1 self (beq_iff_eq.mp hok.1)) (.inl rfl) ?_)
                refine ih.2 _ fI (.vR (hh.objs.size + 1) :: vs) (.ref (hh.objs.size + 1) :: ws) _ ⟨(hh.push emptyDict).push (instObj f hh.objs.size), gg, dd, t, os⟩ _ _ (rm.typeCall _ _) (RVs.cons rvR (rr.mono (TupK.of fun b o e => k2 b o (k1 b o e)))) I2 hok.2 (h hh.objs.size I.fresh) fun v s' z => ?_
                refine hide fun G0 g0 => ?_
                obtain ⟨u, S', h', tk, rfl, ru, I3, ev3, rfl, q⟩ := z
                refine g0 ?_
                clear g0 G0
                exact ⟨ru.none, .vR (hh.objs.size + 1), S', h', tk, rfl, rvR, I3, v2.trans ev3, q⟩
              · cases hin
            · cases hin
          · cases hin
    | _ => exact builtin_sound rm I rr (by simpa only [WC] using h)
end
end Mine
end
section
open PySem PySem.W PyProof.Rows
set_option maxRecDepth 100000
set_option linter.unusedVariables false
namespace Mine
noncomputable abbrev KK (P : Params) : Frag := KFr P
theorem strInj {a b : String} (h : Str.ofString a = Str.ofString b) : a = b := by
  rw [Str.ofString_eq_toList, Str.ofString_eq_toList] at h
  have h1 : (a.toList.map Char.toNat) = (b.toList.map Char.toNat) := by simpa using h
  have h2 : a.toList = b.toList := by
    refine (List.map_inj_right ?_).mp h1
    intro x y e
    exact Char.ext (UInt32.toNat_inj.mp e)
  exact String.toList_inj.mp h2
theorem strEq (a b : String) : (Str.ofString a = Str.ofString b) = (a = b) := propext ⟨strInj, fun h => by rw [h]⟩
theorem lk_cons {α : Type} (x y : Str) (v : α) (r : List (Str × α)) : List.lookup x ((y, v) :: r) = if (x == y) = true then some v else List.lookup x r := by
  rw [List.lookup_cons]; cases x == y <;> rfl

theorem g_max (P : Params) : glob (KK P) (Str.ofString "max") = some (.vF (.builtin "max")) := by kernel_rfl
theorem g_min (P : Params) : glob (KK P) (Str.ofString "min") = some (.vF (.builtin "min")) := by kernel_rfl
theorem g_len (P : Params) : glob (KK P) (Str.ofString "len") = some (.vF (.builtin "len")) := by kernel_rfl
theorem g_list (P : Params) : glob (KK P) (Str.ofString "list") = some (.vF (.type "list")) := by kernel_rfl
theorem g_int (P : Params) : glob (KK P) (Str.ofString "int") = some (.vF (.type "int")) := by kernel_rfl
theorem g_tuple (P : Params) : glob (KK P) (Str.ofString "tuple") = some (.vF (.type "tuple")) := by kernel_rfl
theorem g_range (P : Params) : glob (KK P) (Str.ofString "range") = some (.vF (.type "range")) := by kernel_rfl
theorem g_enumerate (P : Params) : glob (KK P) (Str.ofString "enumerate") = some (.vF (.type "enumerate")) := by kernel_rfl
theorem g_clamp (P : Params) : glob (KK P) (Str.ofString "clamp") = some (.vF (.ref 62)) := by kernel_rfl
theorem g_erased_pen (P : Params) : glob (KK P) (Str.ofString "erased_pen") = some (.vF (.ref 69)) := by kernel_rfl
theorem g_blank_cell (P : Params) : glob (KK P) (Str.ofString "blank_cell") = some (.vF (.ref 76)) := by kernel_rfl
theorem g_line_blanks (P : Params) : glob (KK P) (Str.ofString "line_blanks") = some (.vF (.ref 91)) := by kernel_rfl
theorem g_right_half (P : Params) : glob (KK P) (Str.ofString "right_half") = some (.vF (.ref 98)) := by kernel_rfl
theorem g_line_part (P : Params) : glob (KK P) (Str.ofString "line_part") = some (.vF (.ref 105)) := by kernel_rfl
theorem g_Line (P : Params) : glob (KK P) (Str.ofString "Line") = some (.vF (.ref 244)) := by kernel_rfl
theorem g_Grid (P : Params) : glob (KK P) (Str.ofString "Grid") = some (.vF (.ref 393)) := by kernel_rfl
theorem g_grid_cut (P : Params) : glob (KK P) (Str.ofString "grid_cut") = some (.vF (.ref 404)) := by kernel_rfl
theorem g_grid_mended (P : Params) : glob (KK P) (Str.ofString "grid_mended") = some (.vF (.ref 411)) := by kernel_rfl
theorem g_Cursor (P : Params) : glob (KK P) (Str.ofString "Cursor") = some (.vF (.ref 456)) := by kernel_rfl
theorem g_Margins (P : Params) : glob (KK P) (Str.ofString "Margins") = some (.vF (.ref 589)) := by kernel_rfl
theorem g_moved (P : Params) : glob (KK P) (Str.ofString "moved") = some (.vF (.ref 600)) := by kernel_rfl
theorem g_law_deck (P : Params) : glob (KK P) (Str.ofString "_law_deck") = some (.vF (.ref 605)) := by kernel_rfl
theorem g_law_draw (P : Params) : glob (KK P) (Str.ofString "_law_draw") = some (.vF (.ref 612)) := by kernel_rfl
theorem g_law_pick (P : Params) : glob (KK P) (Str.ofString "_law_pick") = some (.vF (.ref 619)) := by kernel_rfl
theorem g_law_pen (P : Params) : glob (KK P) (Str.ofString "_law_pen") = some (.vF (.ref 626)) := by kernel_rfl
theorem g_law_written (P : Params) : glob (KK P) (Str.ofString "_law_written") = some (.vF (.ref 633)) := by kernel_rfl
theorem g_law_cut (P : Params) : glob (KK P) (Str.ofString "_law_cut") = some (.vF (.ref 640)) := by kernel_rfl
theorem g_law_scrolled (P : Params) : glob (KK P) (Str.ofString "_law_scrolled") = some (.vF (.ref 645)) := by kernel_rfl
theorem g_law_told (P : Params) : glob (KK P) (Str.ofString "_law_told") = some (.vF (.ref 650)) := by kernel_rfl
theorem g_law_set (P : Params) : glob (KK P) (Str.ofString "_law_set") = some (.vF (.ref 657)) := by kernel_rfl
theorem g_law_steps_right (P : Params) : glob (KK P) (Str.ofString "_law_steps_right") = some (.vF (.ref 664)) := by kernel_rfl
theorem g_law (P : Params) : glob (KK P) (Str.ofString "law") = some (.vF (.ref 669)) := by kernel_rfl
theorem g_PLAIN (P : Params) : glob (KK P) (Str.ofString "PLAIN") = some (.vT [.vI 0, .vI (-1), .vI (-1), .vI (-1), .vI 0]) := by kernel_rfl
theorem g_BACK (P : Params) : glob (KK P) (Str.ofString "BACK") = some (.vI 2) := by kernel_rfl
theorem g_NO_COLOUR (P : Params) : glob (KK P) (Str.ofString "NO_COLOUR") = some (.vI (-1)) := by kernel_rfl
theorem g_LINE_SIZES (P : Params) : glob (KK P) (Str.ofString "LINE_SIZES") = some (.vT [.vS "single", .vS "wide", .vS "top", .vS "bottom"]) := by kernel_rfl
theorem d_244_cells (P : Params) : dataOk (KK P) 244 (Str.ofString "cells") = true := by kernel_rfl
theorem s_244_cells (P : Params) : setOk (KK P) 244 (Str.ofString "cells") = true := by kernel_rfl
theorem s_244_is_wrapped (P : Params) : setOk (KK P) 244 (Str.ofString "is_wrapped") = true := by kernel_rfl
theorem s_244_size (P : Params) : setOk (KK P) 244 (Str.ofString "size") = true := by kernel_rfl
theorem s_393_rows (P : Params) : setOk (KK P) 393 (Str.ofString "rows") = true := by kernel_rfl
theorem d_393_columns (P : Params) : dataOk (KK P) 393 (Str.ofString "columns") = true := by kernel_rfl
theorem s_393_columns (P : Params) : setOk (KK P) 393 (Str.ofString "columns") = true := by kernel_rfl
theorem d_393_lines (P : Params) : dataOk (KK P) 393 (Str.ofString "lines") = true := by kernel_rfl
theorem s_393_lines (P : Params) : setOk (KK P) 393 (Str.ofString "lines") = true := by kernel_rfl
theorem d_456_row (P : Params) : dataOk (KK P) 456 (Str.ofString "row") = true := by kernel_rfl
theorem s_456_row (P : Params) : setOk (KK P) 456 (Str.ofString "row") = true := by kernel_rfl
theorem d_456_column (P : Params) : dataOk (KK P) 456 (Str.ofString "column") = true := by kernel_rfl
theorem s_456_column (P : Params) : setOk (KK P) 456 (Str.ofString "column") = true := by kernel_rfl
theorem s_456_is_waiting (P : Params) : setOk (KK P) 456 (Str.ofString "is_waiting") = true := by kernel_rfl
theorem s_456_pen (P : Params) : setOk (KK P) 456 (Str.ofString "pen") = true := by kernel_rfl
theorem s_456_is_origin (P : Params) : setOk (KK P) 456 (Str.ofString "is_origin") = true := by kernel_rfl
theorem s_456_is_guarding (P : Params) : setOk (KK P) 456 (Str.ofString "is_guarding") = true := by kernel_rfl
theorem d_589_rows (P : Params) : dataOk (KK P) 589 (Str.ofString "rows") = true := by kernel_rfl
theorem s_589_rows (P : Params) : setOk (KK P) 589 (Str.ofString "rows") = true := by kernel_rfl
theorem d_589_columns (P : Params) : dataOk (KK P) 589 (Str.ofString "columns") = true := by kernel_rfl
theorem s_589_columns (P : Params) : setOk (KK P) 589 (Str.ofString "columns") = true := by kernel_rfl
theorem d_589_top (P : Params) : dataOk (KK P) 589 (Str.ofString "top") = true := by kernel_rfl
theorem s_589_top (P : Params) : setOk (KK P) 589 (Str.ofString "top") = true := by kernel_rfl
theorem d_589_bottom (P : Params) : dataOk (KK P) 589 (Str.ofString "bottom") = true := by kernel_rfl
theorem s_589_bottom (P : Params) : setOk (KK P) 589 (Str.ofString "bottom") = true := by kernel_rfl
theorem d_589_left (P : Params) : dataOk (KK P) 589 (Str.ofString "left") = true := by kernel_rfl
theorem s_589_left (P : Params) : setOk (KK P) 589 (Str.ofString "left") = true := by kernel_rfl
theorem d_589_right (P : Params) : dataOk (KK P) 589 (Str.ofString "right") = true := by kernel_rfl
theorem s_589_right (P : Params) : setOk (KK P) 589 (Str.ofString "right") = true := by kernel_rfl
theorem m_244_part (P : Params) : methOf (KK P) 244 (Str.ofString "part") = some 155 := by kernel_rfl
theorem m_244_put (P : Params) : methOf (KK P) 244 (Str.ofString "put") = some 162 := by kernel_rfl
theorem m_244_erase (P : Params) : methOf (KK P) 244 (Str.ofString "erase") = some 177 := by kernel_rfl
theorem m_393_line (P : Params) : methOf (KK P) 393 (Str.ofString "line") = some 267 := by kernel_rfl
theorem m_393_is_wide (P : Params) : methOf (KK P) 393 (Str.ofString "is_wide") = some 281 := by kernel_rfl
theorem m_393_fresh (P : Params) : methOf (KK P) 393 (Str.ofString "fresh") = some 286 := by kernel_rfl
theorem m_393_part_above (P : Params) : methOf (KK P) 393 (Str.ofString "part_above") = some 293 := by kernel_rfl
theorem m_393_scroll_up (P : Params) : methOf (KK P) 393 (Str.ofString "scroll_up") = some 300 := by kernel_rfl
theorem m_393_scroll_down (P : Params) : methOf (KK P) 393 (Str.ofString "scroll_down") = some 307 := by kernel_rfl
theorem m_393_unwrap (P : Params) : methOf (KK P) 393 (Str.ofString "unwrap") = some 314 := by kernel_rfl
theorem m_393_cells_of (P : Params) : methOf (KK P) 393 (Str.ofString "cells_of") = some 335 := by kernel_rfl
theorem m_393_put_cells (P : Params) : methOf (KK P) 393 (Str.ofString "put_cells") = some 342 := by kernel_rfl
theorem m_393_erase_area (P : Params) : methOf (KK P) 393 (Str.ofString "erase_area") = some 350 := by kernel_rfl
theorem m_456_go (P : Params) : methOf (KK P) 456 (Str.ofString "go") = some 439 := by kernel_rfl
theorem m_456_place (P : Params) : methOf (KK P) 456 (Str.ofString "place") = some 446 := by kernel_rfl
theorem m_589_set_rows (P : Params) : methOf (KK P) 589 (Str.ofString "set_rows") = some 481 := by kernel_rfl
theorem m_589_set_columns (P : Params) : methOf (KK P) 589 (Str.ofString "set_columns") = some 488 := by kernel_rfl
theorem m_589_area (P : Params) : methOf (KK P) 589 (Str.ofString "area") = some 516 := by kernel_rfl
theorem m_589_holds (P : Params) : methOf (KK P) 589 (Str.ofString "holds") = some 523 := by kernel_rfl
theorem m_589_holds_row (P : Params) : methOf (KK P) 589 (Str.ofString "holds_row") = some 530 := by kernel_rfl
theorem m_589_holds_column (P : Params) : methOf (KK P) 589 (Str.ofString "holds_column") = some 537 := by kernel_rfl
theorem m_589_first_row (P : Params) : methOf (KK P) 589 (Str.ofString "first_row") = some 558 := by kernel_rfl
theorem m_589_last_row (P : Params) : methOf (KK P) 589 (Str.ofString "last_row") = some 565 := by kernel_rfl
theorem m_589_first_column (P : Params) : methOf (KK P) 589 (Str.ofString "first_column") = some 572 := by kernel_rfl
theorem m_589_last_column (P : Params) : methOf (KK P) 589 (Str.ofString "last_column") = some 579 := by kernel_rfl
theorem i_244 (P : Params) : initOf (KK P) 244 = some 133 := by kernel_rfl
theorem f_244 (P : Params) : fnData (KK P) 244 = none := by kernel_rfl
theorem i_393 (P : Params) : initOf (KK P) 393 = some 260 := by kernel_rfl
theorem f_393 (P : Params) : fnData (KK P) 393 = none := by kernel_rfl
theorem i_456 (P : Params) : initOf (KK P) 456 = some 425 := by kernel_rfl
theorem f_456 (P : Params) : fnData (KK P) 456 = none := by kernel_rfl
theorem i_589 (P : Params) : initOf (KK P) 589 = some 474 := by kernel_rfl
theorem f_589 (P : Params) : fnData (KK P) 589 = none := by kernel_rfl
theorem k_62 (P : Params) : keepIn (KK P) (.ref 62) = true := by kernel_rfl
theorem k_69 (P : Params) : keepIn (KK P) (.ref 69) = true := by kernel_rfl
theorem k_76 (P : Params) : keepIn (KK P) (.ref 76) = true := by kernel_rfl
theorem k_91 (P : Params) : keepIn (KK P) (.ref 91) = true := by kernel_rfl
theorem k_98 (P : Params) : keepIn (KK P) (.ref 98) = true := by kernel_rfl
theorem k_105 (P : Params) : keepIn (KK P) (.ref 105) = true := by kernel_rfl
theorem k_244 (P : Params) : keepIn (KK P) (.ref 244) = true := by kernel_rfl
theorem k_393 (P : Params) : keepIn (KK P) (.ref 393) = true := by kernel_rfl
theorem k_404 (P : Params) : keepIn (KK P) (.ref 404) = true := by kernel_rfl
theorem k_411 (P : Params) : keepIn (KK P) (.ref 411) = true := by kernel_rfl
theorem k_456 (P : Params) : keepIn (KK P) (.ref 456) = true := by kernel_rfl
theorem k_589 (P : Params) : keepIn (KK P) (.ref 589) = true := by kernel_rfl
theorem k_600 (P : Params) : keepIn (KK P) (.ref 600) = true := by kernel_rfl
theorem k_605 (P : Params) : keepIn (KK P) (.ref 605) = true := by kernel_rfl
theorem k_612 (P : Params) : keepIn (KK P) (.ref 612) = true := by kernel_rfl
theorem k_619 (P : Params) : keepIn (KK P) (.ref 619) = true := by kernel_rfl
theorem k_626 (P : Params) : keepIn (KK P) (.ref 626) = true := by kernel_rfl
theorem k_633 (P : Params) : keepIn (KK P) (.ref 633) = true := by kernel_rfl
theorem k_640 (P : Params) : keepIn (KK P) (.ref 640) = true := by kernel_rfl
theorem k_645 (P : Params) : keepIn (KK P) (.ref 645) = true := by kernel_rfl
theorem k_650 (P : Params) : keepIn (KK P) (.ref 650) = true := by kernel_rfl
theorem k_657 (P : Params) : keepIn (KK P) (.ref 657) = true := by kernel_rfl
theorem k_664 (P : Params) : keepIn (KK P) (.ref 664) = true := by kernel_rfl
theorem k_669 (P : Params) : keepIn (KK P) (.ref 669) = true := by kernel_rfl
end Mine
end
section
open PySem PySem.W PyProof.Rows
set_option maxRecDepth 100000
set_option linter.unusedVariables false
namespace Mine

/-! the program's cells -/
structure Cell where
  sg : Option Int
  w : Int
  b : Int
  deriving DecidableEq, Inhabited
noncomputable def penV (b : Int) : V := .vT [.vI 0, .vI (-1), .vI b, .vI (-1), .vI 0]
noncomputable def sgV (s : Option Int) : V := .vT (s.toList.map .vI)
noncomputable def cellV (c : Cell) : V := .vT [sgV c.sg, .vI c.w, penV c.b, .vB false]
noncomputable def blank (b : Int) : Cell := ⟨none, 1, b⟩
noncomputable def at0 (cs : List Cell) (i : Int) : Cell := cs.getD i.toNat (blank 0)
noncomputable def cellsV (cs : List Cell) : List V := cs.map cellV

/-- what was there and is not of the footprint stays -/
noncomputable def Kp (fp : Addr → Prop) (S S' : St) : Prop := ∀ a, S a ≠ none → ¬ fp a → S' a = S a
theorem Kp.refl {fp : Addr → Prop} {S : St} : Kp fp S S := fun _ _ _ => rfl
theorem Kp.trans {fp : Addr → Prop} {S S1 S2 : St} (x : Kp fp S S1) (y : Kp fp S1 S2) : Kp fp S S2 := fun a h n => by
  have e := x a h n
  rw [← e] at h
  exact (y a h n).trans e
theorem Kp.weak {fp fp' : Addr → Prop} {S S1 : St} (x : Kp fp S S1) (k : ∀ a, fp a → fp' a) : Kp fp' S S1 := fun a h n => x a h fun q => n (k a q)
theorem Kp.at {fp : Addr → Prop} {S S1 : St} (x : Kp fp S S1) {a : Addr} {o : AO} (e : S a = some o) (n : ¬ fp a) : S1 a = some o := (x a (by rw [e]; exact fun z => nomatch z) n).trans e
theorem Kp.upd {fp : Addr → Prop} {S : St} {a : Addr} {o : AO} (h : fp a) : Kp fp S (Mine.put S a o) := fun b _ n => by
  unfold Mine.put
  rw [if_neg]; rintro rfl; exact n h
theorem Kp.new {fp : Addr → Prop} {S : St} {r : Addr} {o : AO} (h : S r = none) : Kp fp S (Mine.put S r o) := fun b hb n => by
  unfold Mine.put
  rw [if_neg]; rintro rfl; exact hb h
theorem put_at {S : St} {a : Addr} {o : AO} : put S a o a = some o := by simp [put]
theorem put_off {S : St} {a b : Addr} {o : AO} (n : b ≠ a) : put S a o b = S b := by simp [put, n]
theorem Fresh.self {S : St} {r : Addr} (h : Fresh S r) : S r = none := h r (Nat.le_refl r)
theorem Fresh.ne {S : St} {r a : Addr} {o : AO} (h : Fresh S r) (e : S a = some o) : a ≠ r := by
  rintro rfl; rw [h.self] at e; cases e
theorem Fresh.ne1 {S : St} {r a : Addr} {o : AO} (h : Fresh S r) (e : S a = some o) : a ≠ r + 1 := by
  rintro rfl; rw [h _ (Nat.le_succ r)] at e; cases e

section
variable {K : Frag} {S : St}
theorem getA_ok {a C dx : Addr} {fs : List (Str × V)} {name : Str} {v : V} {k : V → Prop} (h1 : S a = some (.inst C dx)) (h2 : S dx = some (.attrs fs)) (hd : dataOk K C name = true) (hl : fs.lookup name = some v) (hn : noF v = true) (hk : k v) : getA K S (.vR a) name k := ⟨C, dx, fs, v, h1, h2, hd, hl, hn, hk⟩
theorem setA_ok {a C dx : Addr} {fs : List (Str × V)} {name : Str} {v : V} {k : St → Prop} (h1 : S a = some (.inst C dx)) (h2 : S dx = some (.attrs fs)) (hd : setOk K C name = true) (hl : (putF fs name v).length ≤ 100) (hk : k (put S dx (.attrs (putF fs name v)))) : setA K S (.vR a) name v k := ⟨C, dx, fs, h1, h2, hd, hl, hk⟩
theorem lst_of {a : Addr} {vs : List V} (h : S a = some (.lst vs)) : lstOf S a = some vs := by unfold lstOf; rw [h]
theorem cells_get {cs : List Cell} {i : Nat} (h : i < cs.length) : (cellsV cs)[i]? = some (cellV (cs.getD i (blank 0))) := by
  unfold cellsV
  rw [List.getElem?_map]
  simp [h]
theorem item_cell {a : Addr} {cs : List Cell} {i : Int} {k : V → Prop} (h : S a = some (.lst (cellsV cs))) (h0 : 0 ≤ i) (h1 : i < cs.length) (hk : k (cellV (at0 cs i))) : item S (.vR a) (.vI i) k := by
  refine ⟨cellsV cs, cellV (at0 cs i), lst_of h, ?_, hk⟩
  unfold itemL
  rw [if_pos h0]
  exact cells_get (by lia)
theorem item_last {a : Addr} {cs : List Cell} {k : V → Prop} (h : S a = some (.lst (cellsV cs))) (h1 : 0 < cs.length) (hk : k (cellV (at0 cs (cs.length - 1)))) : item S (.vR a) (.vI (-1)) k := by
  refine ⟨cellsV cs, cellV (at0 cs (cs.length - 1)), lst_of h, ?_, hk⟩
  unfold itemL
  have hl : (cellsV cs).length = cs.length := by simp [cellsV]
  rw [if_neg (by decide), if_pos (by lia), hl]
  have : (-1 + (cs.length : Int)).toNat = ((cs.length : Int) - 1).toNat := by lia
  rw [this]
  exact cells_get (by lia)
theorem set_cell {a : Addr} {cs : List Cell} {i : Int} {c : Cell} {k : St → Prop} (h : S a = some (.lst (cellsV cs))) (h0 : 0 ≤ i) (h1 : i < cs.length) (hk : k (put S a (.lst (cellsV (cs.set i.toNat c))))) : setItemV S (.vR a) (.vI i) (cellV c) k := by
  refine ⟨cellsV cs, i.toNat, h, by unfold setIx; rw [if_pos h0, if_pos (by simpa [cellsV] using h1)], ?_⟩
  have : (cellsV cs).set i.toNat (cellV c) = cellsV (cs.set i.toNat c) := by unfold cellsV; rw [List.map_set]
  rw [this]; exact hk
theorem set_last {a : Addr} {cs : List Cell} {c : Cell} {k : St → Prop} (h : S a = some (.lst (cellsV cs))) (h1 : 0 < cs.length) (hk : k (put S a (.lst (cellsV (cs.set (cs.length - 1) c))))) : setItemV S (.vR a) (.vI (-1)) (cellV c) k := by
  have hl : (cellsV cs).length = cs.length := by simp [cellsV]
  refine ⟨cellsV cs, cs.length - 1, h, by unfold setIx; rw [if_neg (by decide), hl, if_pos (by lia)]; congr 1; lia, ?_⟩
  have : (cellsV cs).set (cs.length - 1) (cellV c) = cellsV (cs.set (cs.length - 1) c) := by unfold cellsV; rw [List.map_set]
  rw [this]; exact hk
theorem item_tup {vs : List V} {n : Nat} {v : V} {k : V → Prop} (hv : vs[n]? = some v) (hn : n ≤ 1000) (hk : k v) : item S (.vT vs) (.vI (n : Int)) k := ⟨by lia, by lia, v, by simpa using hv, hk⟩
theorem cell_w {c : Cell} {k : V → Prop} (hk : k (.vI c.w)) : item S (cellV c) (.vI 1) k := item_tup (n := 1) rfl (by decide) hk
theorem cell_pen {c : Cell} {k : V → Prop} (hk : k (penV c.b)) : item S (cellV c) (.vI 2) k := item_tup (n := 2) rfl (by decide) hk
theorem cell_guard {c : Cell} {k : V → Prop} (hk : k (.vB false)) : item S (cellV c) (.vI 3) k := item_tup (n := 3) rfl (by decide) hk
theorem pen_back {b : Int} {k : V → Prop} (hk : k (.vI b)) : item S (penV b) (.vI 2) k := item_tup (n := 2) rfl (by decide) hk
theorem len_cells {a : Addr} {cs : List Cell} {Q : V → St → Prop} (h : S a = some (.lst (cellsV cs))) (hk : Q (.vI cs.length) S) : builtinW (.builtin "len") [.vR a] S Q := by
  unfold builtinW
  rw [if_pos rfl]
  exact ⟨cellsV cs, lst_of h, by simpa [cellsV] using hk⟩
theorem len_list {a : Addr} {vs : List V} {Q : V → St → Prop} (h : lstOf S a = some vs) (hk : Q (.vI vs.length) S) : builtinW (.builtin "len") [.vR a] S Q := by
  unfold builtinW
  rw [if_pos rfl]
  exact ⟨vs, h, hk⟩
theorem max_w {a b : Int} {Q : V → St → Prop} (hk : Q (.vI (max a b)) S) : builtinW (.builtin "max") [.vI a, .vI b] S Q := by
  unfold builtinW
  rw [if_neg (by simp), if_pos rfl]; exact hk
theorem min_w {a b : Int} {Q : V → St → Prop} (hk : Q (.vI (min a b)) S) : builtinW (.builtin "min") [.vI a, .vI b] S Q := by
  unfold builtinW
  rw [if_neg (by simp), if_neg (by simp), if_pos rfl]; exact hk
theorem list_w {a : Addr} {vs : List V} {Q : V → St → Prop} (h : lstOf S a = some vs) (hk : ∀ r, Fresh S r → Q (.vR r) (put S r (.lst vs))) : builtinW (.type "list") [.vR a] S Q := by
  unfold builtinW
  rw [if_neg (by simp), if_neg (by simp), if_neg (by simp), if_pos rfl]; exact ⟨vs, h, hk⟩
theorem int_w {a : Int} {Q : V → St → Prop} (hk : Q (.vI a) S) : builtinW (.type "int") [.vI a] S Q := by
  unfold builtinW
  rw [if_neg (by simp), if_neg (by simp), if_neg (by simp), if_neg (by simp), if_pos rfl]; exact hk
theorem tuple_w {vs : List V} {Q : V → St → Prop} (hk : Q (.vT vs) S) : builtinW (.type "tuple") [.vT vs] S Q := by
  unfold builtinW
  rw [if_neg (by simp), if_neg (by simp), if_neg (by simp), if_neg (by simp), if_neg (by simp), if_pos rfl]; exact hk
/-- a builtin at any call depth -/
theorem WC_b {d : Nat} {id : String} {vs : List V} {Q : V → St → Prop} (h : builtinW (.builtin id) vs S Q) : WC K d (.builtin id) vs S Q := by cases d <;> exact h
theorem WC_t {d : Nat} {id : String} {vs : List V} {Q : V → St → Prop} (h : builtinW (.type id) vs S Q) : WC K d (.type id) vs S Q := by cases d <;> exact h

theorem wCmp_is {i j : Bool} {k : Bool → Prop} : wCmp .Is (.vB i) (.vB j) S k = k (i == j) := rfl
theorem wCmp_isn {i j : Bool} {k : Bool → Prop} : wCmp .IsNot (.vB i) (.vB j) S k = k (!(i == j)) := rfl
theorem wCmp_istn {vs : List V} {k : Bool → Prop} : wCmp .Is (.vT vs) .vN S k = k false := rfl
theorem bin_cat {x y : Addr} {vs ws : List V} {Q : V → St → Prop} (hx : lstOf S x = some vs) (hy : lstOf S y = some ws) (hl : (vs ++ ws).length ≤ LB) (h : ∀ r, Fresh S r → Q (.vR r) (put S r (.lst (vs ++ ws)))) : binop .Add (.vR x) (.vR y) S Q := ⟨vs, ws, hx, hy, hl, h⟩
theorem bin_rep {x : Addr} {k : Int} {vs : List V} {Q : V → St → Prop} (hx : lstOf S x = some vs) (hl : (repL k.toNat vs).length ≤ LB) (h1 : -1000 ≤ k) (h2 : k ≤ 1000) (h : ∀ r, Fresh S r → Q (.vR r) (put S r (.lst (repL k.toNat vs)))) : binop .Mult (.vR x) (.vI k) S Q := ⟨vs, hx, hl, h1, h2, h⟩
end

theorem put_put {S : St} {a : Addr} {o o' : AO} : put (put S a o) a o' = put S a o' := by
  funext x; unfold put; split <;> rfl
theorem put_same {S : St} {a : Addr} {o : AO} (h : S a = some o) : put S a o = S := by
  funext x; unfold put; split
  · rename_i e; rw [e, h]
  · rfl
/-! data of cells, for == -/
noncomputable def penD (b : Int) : PyData := .tuple [.int 0, .int (-1), .int b, .int (-1), .int 0]
noncomputable def sgD (s : Option Int) : PyData := .tuple (s.toList.map .int)
noncomputable def cellD (c : Cell) : PyData := .tuple [sgD c.sg, .int c.w, penD c.b, .bool false]
theorem PD_pen {S : St} (b : Int) : PD S (penV b) (penD b) := .tupC (.int _) (.tupC (.int _) (.tupC (.int _) (.tupC (.int _) (.tupC (.int _) .tupN))))
theorem PD_sg {S : St} (s : Option Int) : PD S (sgV s) (sgD s) := by
  induction s using Option.casesOn with
  | none => exact .tupN
  | some i => exact .tupC (.int _) .tupN
theorem PD_cell {S : St} (c : Cell) : PD S (cellV c) (cellD c) := .tupC (PD_sg _) (.tupC (.int _) (.tupC (PD_pen _) (.tupC (.bool _) .tupN)))
theorem PD_cells {S : St} : ∀ (cs : List Cell), PD S (.vT (cellsV cs)) (.tuple (cs.map cellD))
  | [] => .tupN
  | c :: cs => .tupC (PD_cell c) (PD_cells cs)
theorem lay_cell (c : Cell) : (cellD c).canLay0 = true ∧ (cellD c).depth ≤ 2 := by
  obtain ⟨s, w, b⟩ := c
  cases s <;> simp [cellD, sgD, penD, PyData.canLay0, PyData.canLayAll0, PyData.depth, PyData.depthAll]
theorem lay_cells : ∀ (cs : List Cell), PyData.canLayAll0 (cs.map cellD) = true ∧ PyData.depthAll (cs.map cellD) ≤ 2
  | [] => ⟨rfl, by decide⟩
  | c :: cs => by
    obtain ⟨a, b⟩ := lay_cell c
    obtain ⟨x, y⟩ := lay_cells cs
    rw [List.map_cons]
    exact ⟨by simp [PyData.canLayAll0, a, x], by simp only [PyData.depthAll]; lia⟩
theorem shaped_cells (cs : List Cell) : SeqAt.shaped (.list (cs.map cellD)) = true := by
  obtain ⟨x, y⟩ := lay_cells cs
  refine Bool.and_eq_true_iff.mpr ⟨by simpa [PyData.canLay0] using x, decide_eq_true ?_⟩
  simp only [PyData.depth]; lia
theorem ne_nil {S : St} {a r : Addr} {cs : List Cell} {k : Bool → Prop} (h : lstOf S a = some (cellsV cs)) (h2 : lstOf S r = some []) (hk : k (!decide (cs = []))) : wCmp .NotEq (.vR a) (.vR r) S k := by
  refine ⟨.list (cs.map cellD), .list [], .lst h (PD_cells cs), .lst h2 .tupN, shaped_cells cs, by decide, ?_⟩
  have : PyData.eqv (.list (cs.map cellD)) (.list []) = decide (cs = []) := by
    cases cs <;> simp [PyData.eqv, PyData.eqvAll]
  rw [this]; exact hk
theorem repL_one (k : Nat) (v : V) : repL k [v] = List.replicate k v := by
  unfold repL
  induction k with
  | zero => rfl
  | succ k ih => rw [List.replicate_succ, List.flatten_cons, ih, List.replicate_succ]; rfl
theorem cellsV_rep (k : Nat) (c : Cell) : cellsV (List.replicate k c) = List.replicate k (cellV c) := by simp [cellsV]
theorem cellsV_length (cs : List Cell) : (cellsV cs).length = cs.length := by simp [cellsV]
abbrev none_ : Addr → Prop := fun _ => False

/-! joins and loops -/
theorem JOIN.ok {α : Type} {T : α → St → Prop} {F : (α → St → Prop) → Prop} (I : α → St → Prop) (h1 : ∀ R : α → St → Prop, (∀ m S, I m S → R m S) → F R) (h2 : ∀ m S, I m S → T m S) : JOIN T F := h1 T h2
theorem JOIN.now {α : Type} {T : α → St → Prop} {F : (α → St → Prop) → Prop} (h : F T) : JOIN T F := h
theorem comp_ind {α : Type} {chk : St → Prop} {turn : α → St → (V → St → Prop) → Prop} {Q : List V → St → Prop} (I : List α → List V → St → Prop)
    (h0 : ∀ acc S, I [] acc S → chk S ∧ Q acc S)
    (h1 : ∀ x xs acc S, I (x :: xs) acc S → chk S ∧ acc.length + 1 ≤ LB ∧ ∀ Q' : V → St → Prop, (∀ v S', I xs (acc ++ [v]) S' → Q' v S') → turn x S Q') :
    ∀ xs acc S, I xs acc S → compW chk turn xs acc S Q
  | [], acc, S, h => h0 acc S h
  | x :: xs, acc, S, h => ⟨(h1 x xs acc S h).1, (h1 x xs acc S h).2.2 _ fun v S' h' => ⟨(h1 x xs acc S h).2.1, comp_ind I h0 h1 xs (acc ++ [v]) S' h'⟩⟩
theorem Kp.later {fp : Addr → Prop} {S S1 : St} {r : Addr} {o : AO} (k : Kp fp S S1) (h : S r = none) : Kp fp S (Mine.put S1 r o) := fun b hb n => by
  have e : b ≠ r := by rintro rfl; exact hb h
  rw [put_off e]; exact k b hb n
theorem Kp.newL {fp : Addr → Prop} {S S1 : St} {r : Addr} {o : AO} (k : Kp fp S S1) (h : Fresh S1 r) : Kp fp S (Mine.put S1 r o) := k.trans (Kp.new h.self)
theorem put_fr {S : St} {r a : Addr} {o o' : AO} (h : Fresh S r) (e : S a = some o) : put S r o' a = some o := by rw [put_off (h.ne e)]; exact e
theorem RVs.app {h : Heap} : ∀ {vs us : List V} {ws xs : List Value}, RVs h vs ws → RVs h us xs → RVs h (vs ++ us) (ws ++ xs)
  | [], _, _, _, e, r => by simp only [RVs] at e; subst e; exact r
  | v :: vs, us, _, xs, e, r => by
    simp only [RVs] at e
    obtain ⟨w, t, rfl, hw, hr⟩ := e
    exact ⟨w, _, rfl, hw, RVs.app hr r⟩
end Mine
end
section
open PySem PySem.W PyProof.Rows
set_option maxRecDepth 100000
set_option linter.unusedVariables false
namespace Mine
section
variable {K : Frag} {c : Value → List V → St → (V → St → Prop) → Prop} {n : Nat} {kd : Kd} {m : MM} {S : St}
theorem setM_eq {m : MM} {x : Str} {v : V} : setM m x v x = some v := if_pos rfl
theorem nameG {x : Str} {v : V} (h : kd.lookup x = some .globalImplicit) (e : glob K x = some v) : nameV K kd m x = some v := by unfold nameV; rw [h]; exact e
section E
variable {Q : V → St → Prop}
theorem s_name {x : Str} {p : Pos} {v : V} (e : nameV K kd m x = some v) (hx : (x == ("__debug__" : Str)) = false) (h : Q v S) : wE K c (n + 1) kd m (.Name x p) S Q := by exact (⟨hx, v, e, h⟩ : _ ∧ ∃ v', nameV K kd m x = some v' ∧ Q v' S)
theorem s_bin {l r : Expr} {op : Operator} {p : Pos} (h : wE K c n kd m l S fun a S1 => wE K c n kd m r S1 fun b S2 => binop op a b S2 Q) : wE K c (n + 1) kd m (.BinOp l op r p) S Q := h
theorem s_neg {x : Expr} {p : Pos} (h : wE K c n kd m x S fun v S1 => ∃ i, v = .vI i ∧ Q (.vI (-i)) S1) : wE K c (n + 1) kd m (.UnaryOp .USub x p) S Q := h
theorem s_ifexp {t b o : Expr} {p : Pos} (h : JOIN Q fun R => wT K c n kd m t S fun x S1 => if x = true then wE K c n kd m b S1 R else wE K c n kd m o S1 R) : wE K c (n + 1) kd m (.IfExp t b o p) S Q := h
theorem s_boolop {op : BoolOp} {es : List Expr} {p : Pos} (h : JOIN Q fun R => wBool K c n kd m op es S R) : wE K c (n + 1) kd m (.BoolOp op es p) S Q := h
theorem s_cmp {l : Expr} {ops : List CmpOp} {cs : List Expr} {p : Pos} (h1 : cs.all plainE = true) (h : wE K c n kd m l S fun a S1 => wChain K c n kd m a ops cs S1 fun b => Q (.vB b)) : wE K c (n + 1) kd m (.Compare l ops cs p) S Q := by exact (⟨h1, h⟩ : _ ∧ _)
theorem s_meth {o : Expr} {nm : Str} {ap pos : Pos} {args : List Expr} (h1 : (notSuper o && ap.endLine == pos.line && decide (args.length < 20) && args.all plainE) = true) (h : wE K c n kd m o S fun ov S1 => MC K c nm (fun S' k' => wEs K c n kd m args S' k') ov S1 Q) :
    wE K c (n + 1) kd m (.Call (.Attribute o nm ap) args [] pos) S Q := by exact (⟨h1, h⟩ : _ ∧ _)
theorem s_call {f : Str} {p pos : Pos} {args : List Expr} {g : Value} (h1 : (decide (args.length < 20) && args.all plainE) = true) (e : nameV K kd m f = some (.vF g)) (hx : (f == ("__debug__" : Str)) = false) (hk : keepOk K g = true) (h : wEs K c (n + 1) kd m args S fun vs S2 => c g vs S2 Q) :
    wE K c (n + 2) kd m (.Call (.Name f p) args [] pos) S Q := by exact (⟨h1, hx, _, e, g, rfl, hk, h⟩ : _ ∧ _ ∧ ∃ v', nameV K kd m f = some v' ∧ ∃ g', v' = .vF g' ∧ keepOk K g' = true ∧ wEs K c (n + 1) kd m args S fun vs S2 => c g' vs S2 Q)
theorem s_attr {o : Expr} {nm : Str} {p : Pos} (h1 : notSuper o = true) (h : wE K c n kd m o S fun ov S1 => getA K S1 ov nm fun v => Q v S1) : wE K c (n + 1) kd m (.Attribute o nm p) S Q := by exact (⟨h1, h⟩ : _ ∧ _)
theorem s_rev {o st : Expr} {p p2 : Pos} {k : Nat} (h : wE K c n kd m o S fun ov S1 => wE K c n kd m st S1 fun sv S2 => sv = .vI (-1) ∧ ∃ a vs, ov = .vR a ∧ lstOf S2 a = some vs ∧ ∀ r, Fresh S2 r → Q (.vR r) (put S2 r (.lst vs.reverse))) :
    wE K c (n + 1) kd m (.Subscript o (.Slice none none (some st) p) p2) S Q := h
theorem s_slice {o : Expr} {lo hi : Option Expr} {p p2 : Pos} (h : wE K c n kd m o S fun ov S1 => wOpt K c n kd m lo S1 fun l S2 => wOpt K c n kd m hi S2 fun h S3 => ∃ a vs, ov = .vR a ∧ lstOf S3 a = some vs ∧ ∀ r, Fresh S3 r → Q (.vR r) (put S3 r (.lst (sliceL vs l h)))) :
    wE K c (n + 1) kd m (.Subscript o (.Slice lo hi none p) p2) S Q := by
  cases lo <;> cases hi <;> exact h
theorem s_sub {o i : Expr} {p : Pos} (h1 : plainE i = true) (h : wE K c n kd m o S fun ov S1 => wE K c n kd m i S1 fun iv S2 => item S2 ov iv fun v => Q v S2) : wE K c (n + 1) kd m (.Subscript o i p) S Q := by
  induction i using PySem.Expr.casesOn with
  | Slice _ _ _ _ => cases h1
  | _ => exact (⟨h1, h⟩ : _ ∧ _)
theorem s_tuple {es : List Expr} {k : Nat} {p : Pos} (h1 : es.length ≤ 100) (h : wEs K c n kd m es S fun vs S1 => Q (.vT vs) S1) : wE K c (n + 1) kd m (.Tuple es k p) S Q := by exact (⟨h1, h⟩ : _ ∧ _)
theorem s_list {es : List Expr} {p : Pos} (h1 : es.length ≤ 100) (h : wEs K c n kd m es S fun vs S1 => ∀ r, Fresh S1 r → Q (.vR r) (put S1 r (.lst vs))) : wE K c (n + 1) kd m (.List es p) S Q := by exact (⟨h1, h⟩ : _ ∧ _)
theorem s_dict {ks : List (Option Expr)} {es : List Expr} {p : Pos} (h1 : (ks.all (·.isSome) && decide (ks.length = es.length) && decide (0 < ks.length) && decide (ks.length ≤ 15)) = true) (h : wDict K c n kd m ks es S fun fs S1 => (fs.map (·.1)).Nodup ∧ ∀ r, Fresh S r → S1 r = none → Q (.vR r) (put S1 r (.dict fs))) :
    wE K c (n + 1) kd m (.Dict ks es p) S Q := by exact (⟨h1, h⟩ : _ ∧ _)
theorem s_comp {elt iter : Expr} {x : Str} {p p2 : Pos} {scope : Scope} (h1 : compOk kd scope x = true) (h : wIter K c n kd m iter S fun it S1 => compIt it = true ∧
    compW (itChk it) (fun v S' Q' => wE K c n (compKd kd scope) (setM (compM kd scope m) x v) elt S' Q') (itItems it) [] S1 fun acc S' => ∀ r, Fresh S1 r → S' r = none → Q (.vR r) (put S' r (.lst acc))) :
    wE K c (n + 1) kd m (.ListComp elt [⟨.Name x p, iter, [], 0⟩] scope p2) S Q := by exact (⟨h1, h⟩ : _ ∧ _)
end E
section T
variable {k : Bool → St → Prop}
theorem t_not {x : Expr} {p : Pos} (h : wT K c n kd m x S fun b S1 => k (!b) S1) : wT K c (n + 1) kd m (.UnaryOp .Not x p) S k := h
theorem t_bool {op : BoolOp} {es : List Expr} {p : Pos} (h : wAll K c n kd m op es S k) : wT K c (n + 1) kd m (.BoolOp op es p) S k := h
theorem t_cmp {l : Expr} {ops : List CmpOp} {cs : List Expr} {p : Pos} (h1 : cs.all plainE = true) (h : wE K c n kd m l S fun a S1 => wChain K c n kd m a ops cs S1 k) : wT K c (n + 1) kd m (.Compare l ops cs p) S k := by exact (⟨h1, h⟩ : _ ∧ _)
theorem t_else {e : Expr} (h1 : plainT e = true) (h : wE K c n kd m e S fun v S1 => ∃ b, truth S1 v = some b ∧ k b S1) : wT K c (n + 1) kd m e S k := by
  induction e using PySem.Expr.casesOn with
  | UnaryOp op x p => induction op using PySem.UnaryOp.casesOn with
    | Not => cases h1
    | _ => exact h
  | BoolOp _ _ _ => cases h1
  | IfExp _ _ _ _ => cases h1
  | Compare _ _ _ _ => cases h1
  | _ => exact h
theorem a_and0 (h : k true S) : wAll K c (n + 1) kd m .And [] S k := h
theorem a_or0 (h : k false S) : wAll K c (n + 1) kd m .Or [] S k := h
theorem a_and {e : Expr} {es : List Expr} (h : wT K c n kd m e S fun b S1 => if b = true then wAll K c n kd m .And es S1 k else k false S1) : wAll K c (n + 1) kd m .And (e :: es) S k := h
theorem a_or {e : Expr} {es : List Expr} (h : wT K c n kd m e S fun b S1 => if b = true then k true S1 else wAll K c n kd m .Or es S1 k) : wAll K c (n + 1) kd m .Or (e :: es) S k := h
theorem c_one {a : V} {op : CmpOp} {x : Expr} (h : wE K c n kd m x S fun b S1 => wCmp op a b S1 fun r => k r S1) : wChain K c (n + 1) kd m a [op] [x] S k := h
theorem c_two {a : V} {op op2 : CmpOp} {ops : List CmpOp} {x x2 : Expr} {xs : List Expr} (h : wE K c n kd m x S fun b S1 => wCmp op a b S1 fun r => if r = true then wChain K c n kd m b (op2 :: ops) (x2 :: xs) S1 k else k false S1) : wChain K c (n + 1) kd m a (op :: op2 :: ops) (x :: x2 :: xs) S k := h
end T
section B
variable {Q : V → St → Prop}
theorem b_last {op : BoolOp} {e : Expr} (h : wE K c n kd m e S Q) : wBool K c (n + 1) kd m op [e] S Q := h
theorem b_and {e e2 : Expr} {es : List Expr} (h : wE K c n kd m e S fun v S1 => ∃ b, truth S1 v = some b ∧ if b = true then wBool K c n kd m .And (e2 :: es) S1 Q else Q v S1) : wBool K c (n + 1) kd m .And (e :: e2 :: es) S Q := h
theorem b_or {e e2 : Expr} {es : List Expr} (h : wE K c n kd m e S fun v S1 => ∃ b, truth S1 v = some b ∧ if b = true then Q v S1 else wBool K c n kd m .Or (e2 :: es) S1 Q) : wBool K c (n + 1) kd m .Or (e :: e2 :: es) S Q := h
end B
theorem e_cons {e : Expr} {es : List Expr} {k : List V → St → Prop} (h1 : plainE e = true) (h : wE K c n kd m e S fun v S1 => wEs K c n kd m es S1 fun vs S2 => k (v :: vs) S2) : wEs K c (n + 1) kd m (e :: es) S k := by exact (⟨h1, h⟩ : _ ∧ _)
theorem o_some {e : Expr} {k : Option Int → St → Prop} (h : wE K c n kd m e S fun v S1 => ∃ i, v = .vI i ∧ k (some i) S1) : wOpt K c (n + 1) kd m (some e) S k := h
theorem d_cons {s : Str} {j : Nat} {p : Pos} {ks : List (Option Expr)} {v : Expr} {vs : List Expr} {k : List (Str × V) → St → Prop} (h : wE K c (n + 1) kd m v S fun w S2 => wDict K c (n + 1) kd m ks vs S2 fun fs S3 => k ((s, w) :: fs) S3) :
    wDict K c (n + 2) kd m (some (.Constant (.str s) j p) :: ks) (v :: vs) S k := by
  cases ks <;> cases vs <;> exact (⟨s, rfl, h⟩ : ∃ s', V.vS s = .vS s' ∧ wE K c (n + 1) kd m v S fun w S2 => wDict K c (n + 1) kd m _ _ S2 fun fs S3 => k ((s', w) :: fs) S3)
section I
variable {k : Itr → St → Prop}
theorem i_enum {f : Str} {p p2 : Pos} {a : Expr} (h1 : isStr f "enumerate" = true) (h2 : nameV K kd m f = some (.vF (.type "enumerate"))) (h : wEs K c n kd m [a] S fun vs S1 => ∃ l xs, vs = [.vR l] ∧ lstOf S1 l = some xs ∧ k (.enm l xs) S1) : wIter K c (n + 1) kd m (.Call (.Name f p) [a] [] p2) S k := by
  show ite _ _ _
  rw [if_pos h1]; exact ⟨h2, h⟩
theorem i_range1 {f : Str} {p p2 : Pos} {a : Expr} (h0 : isStr f "enumerate" = false) (h1 : isStr f "range" = true) (h2 : nameV K kd m f = some (.vF (.type "range"))) (h : wEs K c n kd m [a] S fun vs S1 => rangeW vs fun ks => k (.rng ks) S1) : wIter K c (n + 1) kd m (.Call (.Name f p) [a] [] p2) S k := by
  show ite _ _ (ite _ _ _)
  rw [h0, if_neg (by decide), if_pos h1]; exact ⟨h2, h⟩
theorem i_range {f : Str} {p p2 : Pos} {a b : Expr} {as : List Expr} (h1 : isStr f "range" = true) (h3 : (a :: b :: as).all plainE = true) (h2 : nameV K kd m f = some (.vF (.type "range"))) (h : wEs K c n kd m (a :: b :: as) S fun vs S1 => rangeW vs fun ks => k (.rng ks) S1) : wIter K c (n + 1) kd m (.Call (.Name f p) (a :: b :: as) [] p2) S k := by
  exact (⟨h1, h3, h2, h⟩ : _ ∧ _ ∧ _ ∧ _)
theorem i_else {e : Expr} (h1 : plainI e = true) (h : wE K c n kd m e S fun v S1 => match v with
      | .vR a => ∃ xs, lstOf S1 a = some xs ∧ k (.lst a xs) S1
      | .vT vs => k (.tup vs) S1
      | _ => False) : wIter K c (n + 1) kd m e S k := by
  have fin : ∀ {A : Prop}, (plainE e = true ∧ A) → plainE e = true ∧ A := id
  induction e using PySem.Expr.casesOn with
  | Call f as ks p => induction f using PySem.Expr.casesOn with
    | Name x q => induction ks using List.casesOn with
      | nil => cases h1
      | cons k1 ks => induction as using List.casesOn with
        | nil => exact (⟨h1, h⟩ : _ ∧ _)
        | cons a as => induction as using List.casesOn with
          | nil => exact (⟨h1, h⟩ : _ ∧ _)
          | cons b as => exact (⟨h1, h⟩ : _ ∧ _)
    | _ => exact (⟨h1, h⟩ : _ ∧ _)
  | _ => exact (⟨h1, h⟩ : _ ∧ _)
end I
section A
variable {k : MM → St → Prop} {v : V}
end A
section X
variable {Q : Fl → MM → St → Prop}
theorem x_expr {e : Expr} {p : Pos} (h1 : isCall e = true) (h : wE K c n kd m e S fun v S1 => v = .vN ∧ Q .next m S1) : wX K c (n + 1) kd m (.Expr e p) S Q := by exact (⟨h1, h⟩ : _ ∧ _)
theorem x_ret {e : Expr} {p : Pos} (h : wE K c n kd m e S fun v S1 => Q (.ret v) m S1) : wX K c (n + 1) kd m (.Return (some e) p) S Q := h
theorem x_ret0 {p : Pos} (h : Q (.ret .vN) m S) : wX K c (n + 1) kd m (.Return none p) S Q := h
theorem x_asg {t e : Expr} {p : Pos} (h1 : tupleOk t e = true) (h : wE K c n kd m e S fun r S1 => wAsg K c n kd m t r S1 fun m' S2 => Q .next m' S2) : wX K c (n + 1) kd m (.Assign [t] e p) S Q := by exact (⟨h1, h⟩ : _ ∧ _)
theorem x_if {t : Expr} {b o : List Stmt} {p : Pos} (h : wT K c n kd m t S fun x S1 => if x = true then wXs K c n kd m b S1 Q else wXs K c n kd m o S1 Q) : wX K c (n + 1) kd m (.If t b o p) S Q := h
theorem x_while {t : Expr} {b : List Stmt} {p : Pos} (h : ∃ k, whileW (fun m' S' k' => wT K c n kd m' t S' k') (fun m' S' Q' => wXs K c n kd m' b S' Q') k m S Q) : wX K c (n + 1) kd m (.While t b [] p) S Q := h
theorem x_for {t it : Expr} {b : List Stmt} {p : Pos} (h : wIter K c n kd m it S fun itr S1 => tgtOk kd t itr = true ∧ loopW (itChk itr) (fun v m' S' Q' => bindT t v m' fun m'' => wXs K c n kd m'' b S' Q') (itItems itr) m S1 Q) : wX K c (n + 1) kd m (.For t it b [] p) S Q := h
theorem x_step {s : Stmt} {ss : List Stmt} (h : ∀ R : MM → St → Prop, (∀ m' S', wXs K c n kd m' ss S' Q → R m' S') → wX K c n kd m s S (fun f m1 S1 => match f with
      | .next => R m1 S1
      | .brk => Q .brk m1 S1
      | .cont => Q .cont m1 S1
      | .ret v => Q (.ret v) m1 S1)) : wXs K c (n + 1) kd m (s :: ss) S Q := by
  exact h (fun m' S' => wXs K c n kd m' ss S' Q) fun _ _ => id
theorem x_end (h : Q .next m S) : wXs K c (n + 1) kd m [] S Q := h
end X
end
/-! leaves -/
section
variable {K : Frag} {kd : Kd} {m : MM} {S : St} {Q : V → St → Prop} {k : Bool → Prop} {i j : Int}
end
noncomputable def kindB (kd : Kd) (x : Str) : Bool := match kd.lookup x with
  | some .local => true
  | some .cell => true
  | _ => false
theorem nameV_L {K : Frag} {kd : Kd} {m : MM} {x : Str} (h : kindB kd x = true) : nameV K kd m x = m x := by
  unfold kindB at h
  unfold nameV
  split at h
  · rename_i e; rw [e]
  · rename_i e; rw [e]
  · cases h
end Mine
end
section
open PySem PySem.W PyProof.Rows
set_option maxRecDepth 100000
set_option linter.unusedVariables false
namespace Mine
/-! a small code for bodies: a stack, numbered locals, no closures in the goals -/
inductive Ik where
  | rng | enm | els
  deriving DecidableEq
inductive Tg where
  | one (i : Nat)
  | two (i j : Nat)
inductive Code where
  | done | ret | fail
  | load (i : Nat) (k : Code)
  | const (v : V) (k : Code)
  | bin (op : Operator) (k : Code)
  | neg (k : Code)
  | not (k : Code)
  | tst (k : Code)
  | dup (k : Code)
  | pop (k : Code)
  | chk (k : Code)
  | cmp (op : CmpOp) (k : Code)
  | keep (op : CmpOp) (k : Code)
  | ite (t f k : Code)
  | call (g : Value) (n : Nat) (k : Code)
  | meth (name : Str) (n : Nat) (a k : Code)
  | attr (name : Str) (k : Code)
  | rev (k : Code)
  | slice (k : Code)
  | sub (k : Code)
  | tup (n : Nat) (k : Code)
  | lst (n : Nat) (k : Code)
  | dict (ks : List Str) (k : Code)
  | comp (ik : Ik) (a k : Code)
  | store (i : Nat) (k : Code)
  | unpack (is : List Nat) (k : Code)
  | setat (name : Str) (k : Code)
  | setit (k : Code)
  | drop (k : Code)
  | loop (t b k : Code)
  | for_ (ik : Ik) (tg : Tg) (b k : Code)
abbrev Env := List (Option V)
noncomputable def getE : Env → Nat → Option V
  | [], _ => none
  | a :: _, 0 => a
  | _ :: r, i + 1 => getE r i
noncomputable def setE : Env → Nat → V → Env
  | [], _, _ => []
  | _ :: r, 0, v => some v :: r
  | a :: r, i + 1, v => a :: setE r i v
noncomputable def setsE : Env → List Nat → List V → (Env → Prop) → Prop
  | e, [], [], f => f e
  | e, i :: is, v :: vs, f => setsE (setE e i v) is vs f
  | _, _, _, _ => False
noncomputable def noE : Nat → Env
  | 0 => []
  | n + 1 => none :: noE n
noncomputable def initE : List V → Env → Env
  | v :: vs, e => some v :: initE vs e
  | [], e => e
noncomputable def onV (o : Option V) (f : V → Prop) : Prop := match o with
  | some v => f v
  | none => False
noncomputable def pop1 (s : List V) (f : V → List V → Prop) : Prop := match s with
  | v :: s => f v s
  | [] => False
noncomputable def onI (v : V) (f : Int → Prop) : Prop := match v with
  | .vI i => f i
  | _ => False
noncomputable def onB (v : V) (f : Bool → Prop) : Prop := match v with
  | .vB i => f i
  | _ => False
noncomputable def onT (v : V) (f : List V → Prop) : Prop := match v with
  | .vT i => f i
  | _ => False
noncomputable def onN (v : V) (f : Prop) : Prop := match v with
  | .vN => f
  | _ => False
noncomputable def onO (v : V) (f : Option Int → Prop) : Prop := match v with
  | .vN => f none
  | .vI i => f (some i)
  | _ => False
noncomputable def popN : Nat → List V → List V → (List V → List V → Prop) → Prop
  | 0, s, acc, f => f acc s
  | _ + 1, [], _, _ => False
  | n + 1, v :: s, acc, f => popN n s (v :: acc) f
abbrev YS (F : V → St → Prop) (W : (V → St → Prop) → Prop) : Prop := ∀ Q, (∀ v S', F v S' → Q v S') → W Q
abbrev YV (F : V → Prop) (W : (V → Prop) → Prop) : Prop := ∀ Q, (∀ v, F v → Q v) → W Q
abbrev YB (F : Bool → Prop) (W : (Bool → Prop) → Prop) : Prop := ∀ Q, (∀ v, F v → Q v) → W Q
abbrev YT (F : St → Prop) (W : (St → Prop) → Prop) : Prop := ∀ Q, (∀ S', F S' → Q S') → W Q
noncomputable def asI (v : V) : Option Int := match v with
  | .vI i => some i
  | _ => none
noncomputable def arith (op : Operator) (a b : V) : Option Int := match asI a, asI b with
  | some i, some j => match op with
    | .Add => some (i + j)
    | .Sub => some (i - j)
    | _ => none
  | _, _ => none
noncomputable def binR (op : Operator) (a b : V) (S : St) (F : V → St → Prop) : Prop := match arith op a b with
  | some i => F (.vI i) S
  | none => YS F (binop op a b S)
noncomputable def cmpI (op : CmpOp) (a b : V) : Option Bool := match asI a, asI b with
  | some i, some j => match op with
    | .Lt => some (decide (i < j))
    | .LtE => some (decide (i ≤ j))
    | .Gt => some (decide (j < i))
    | .GtE => some (decide (j ≤ i))
    | .Eq => some (decide (i = j))
    | .NotEq => some (!decide (i = j))
    | _ => none
  | _, _ => none
noncomputable def cmpR (op : CmpOp) (a b : V) (S : St) (F : Bool → Prop) : Prop := match cmpI op a b with
  | some r => F r
  | none => YB F (wCmp op a b S)
noncomputable def asB (v : V) : Option Bool := match v with
  | .vB b => some b
  | _ => none
noncomputable def tstR (v : V) (S : St) (F : Bool → Prop) : Prop := match asB v with
  | some b => F b
  | none => ∃ b, truth S v = some b ∧ F b
noncomputable def itrW (ik : Ik) (v : V) (S : St) (f : Itr → Prop) : Prop := match ik with
  | .rng => onT v fun vs => rangeW vs fun ks => f (.rng ks)
  | .enm => ∃ l xs, v = .vT [.vR l] ∧ lstOf S l = some xs ∧ f (.enm l xs)
  | .els => match v with
    | .vR a => ∃ xs, lstOf S a = some xs ∧ f (.lst a xs)
    | .vT vs => f (.tup vs)
    | _ => False
noncomputable def bindR (tg : Tg) (v : V) (e : Env) (f : Env → Prop) : Prop := match tg with
  | .one i => f (setE e i v)
  | .two i j => match v with
    | .vT [a, b] => f (setE (setE e i a) j b)
    | _ => False
noncomputable def loopR (chk : St → Prop) (turn : V → Env → St → (Env → St → Prop) → Prop) : List V → Env → St → (Env → St → Prop) → Prop
  | [], e, S, Q => chk S ∧ Q e S
  | x :: xs, e, S, Q => chk S ∧ turn x e S fun e' S' => loopR chk turn xs e' S' Q
noncomputable def whileR (test : Env → St → (Bool → St → Prop) → Prop) (body : Env → St → (Env → St → Prop) → Prop) : Nat → Env → St → (Env → St → Prop) → Prop
  | 0, _, _, _ => False
  | k + 1, e, S, Q => test e S fun b S1 => if b = true then body e S1 (fun e' S' => whileR test body k e' S' Q) else Q e S1
noncomputable def noR : V → St → Prop := fun _ _ => False
noncomputable def compR (chk : St → Prop) (turn : V → St → (V → St → Prop) → Prop) (xs : List V) (S : St) (F : V → St → Prop) : Prop :=
  YS F fun Q => compW chk turn xs [] S fun acc S' => ∀ r, Fresh S r → S' r = none → Q (.vR r) (put S' r (.lst acc))
section
variable (K : Frag) (c : Value → List V → St → (V → St → Prop) → Prop)
noncomputable def Run : Code → List V → Env → St → (List V → Env → St → Prop) → (V → St → Prop) → Prop
  | .done, s, e, S, N, R => N s e S
  | .fail, s, e, S, N, R => False
  | .ret, s, e, S, N, R => pop1 s fun v _ => R v S
  | .load i k, s, e, S, N, R => onV (getE e i) fun v => Run k (v :: s) e S N R
  | .const v k, s, e, S, N, R => Run k (v :: s) e S N R
  | .bin op k, s, e, S, N, R => pop1 s fun b s => pop1 s fun a s => binR op a b S fun v S' => Run k (v :: s) e S' N R
  | .neg k, s, e, S, N, R => pop1 s fun v s => onI v fun i => Run k (.vI (-i) :: s) e S N R
  | .not k, s, e, S, N, R => pop1 s fun v s => onB v fun b => Run k (.vB (!b) :: s) e S N R
  | .tst k, s, e, S, N, R => pop1 s fun v s => tstR v S fun b => Run k (.vB b :: s) e S N R
  | .dup k, s, e, S, N, R => pop1 s fun v s => Run k (v :: v :: s) e S N R
  | .pop k, s, e, S, N, R => pop1 s fun _ s => Run k s e S N R
  | .chk k, s, e, S, N, R => pop1 s fun v s => onI v fun i => Run k (v :: s) e S N R
  | .cmp op k, s, e, S, N, R => pop1 s fun b s => pop1 s fun a s => cmpR op a b S fun r => Run k (.vB r :: s) e S N R
  | .keep op k, s, e, S, N, R => pop1 s fun b s => pop1 s fun a s => cmpR op a b S fun r => Run k (.vB r :: b :: s) e S N R
  | .ite t f k, s, e, S, N, R => pop1 s fun v s => onB v fun b => if b = true then Run t s e S (fun s' e' S' => Run k s' e' S' N R) R else Run f s e S (fun s' e' S' => Run k s' e' S' N R) R
  | .call g n k, s, e, S, N, R => popN n s [] fun vs s => YS (fun v S' => Run k (v :: s) e S' N R) (c g vs S)
  | .meth name n a k, s, e, S, N, R => pop1 s fun o s => YS (fun v S' => Run k (v :: s) e S' N R) (MC K c name (fun S' k' => Run a [] e S' (fun s' _ S'' => popN n s' [] fun vs _ => k' vs S'') noR) o S)
  | .attr name k, s, e, S, N, R => pop1 s fun o s => YV (fun v => Run k (v :: s) e S N R) (getA K S o name)
  | .rev k, s, e, S, N, R => pop1 s fun sv s => pop1 s fun o s => sv = .vI (-1) ∧ ∃ a vs, o = .vR a ∧ lstOf S a = some vs ∧ ∀ r, Fresh S r → Run k (.vR r :: s) e (put S r (.lst vs.reverse)) N R
  | .slice k, s, e, S, N, R => pop1 s fun h s => pop1 s fun l s => pop1 s fun o s => onO l fun l => onO h fun h => ∃ a vs, o = .vR a ∧ lstOf S a = some vs ∧ ∀ r, Fresh S r → Run k (.vR r :: s) e (put S r (.lst (sliceL vs l h))) N R
  | .sub k, s, e, S, N, R => pop1 s fun i s => pop1 s fun o s => YV (fun v => Run k (v :: s) e S N R) (item S o i)
  | .tup n k, s, e, S, N, R => popN n s [] fun vs s => Run k (.vT vs :: s) e S N R
  | .lst n k, s, e, S, N, R => popN n s [] fun vs s => ∀ r, Fresh S r → Run k (.vR r :: s) e (put S r (.lst vs)) N R
  | .dict ks k, s, e, S, N, R => popN ks.length s [] fun vs s => ∀ r, S r = none → Run k (.vR r :: s) e (put S r (.dict (ks.zip vs))) N R
  | .comp ik a k, s, e, S, N, R => pop1 s fun v s => itrW ik v S fun it => compIt it = true ∧ compR (itChk it) (fun v S' Q' => Run a [] (some v :: e) S' (fun s' _ S'' => pop1 s' fun w _ => Q' w S'') noR) (itItems it) S fun w S' => Run k (w :: s) e S' N R
  | .store i k, s, e, S, N, R => pop1 s fun v s => Run k s (setE e i v) S N R
  | .unpack is k, s, e, S, N, R => pop1 s fun v s => onT v fun vs => setsE e is vs fun e' => Run k s e' S N R
  | .setat name k, s, e, S, N, R => pop1 s fun o s => pop1 s fun v s => YT (fun S' => Run k s e S' N R) (setA K S o name v)
  | .setit k, s, e, S, N, R => pop1 s fun i s => pop1 s fun o s => pop1 s fun v s => YT (fun S' => Run k s e S' N R) (setItemV S o i v)
  | .drop k, s, e, S, N, R => pop1 s fun v s => onN v (Run k s e S N R)
  | .loop t b k, s, e, S, N, R => ∃ n, whileR (fun e S' k' => Run t [] e S' (fun s' _ S'' => pop1 s' fun v _ => onB v fun b => k' b S'') noR) (fun e S' Q' => Run b [] e S' (fun _ e' S'' => Q' e' S'') R) n e S fun e' S' => Run k s e' S' N R
  | .for_ ik tg b k, s, e, S, N, R => pop1 s fun v s => itrW ik v S fun it => loopR (itChk it) (fun v e S' Q' => bindR tg v e fun e' => Run b [] e' S' (fun _ e'' S'' => Q' e'' S'') R) (itItems it) e S fun e' S' => Run k s e' S' N R
end

/-! from bodies to code -/
noncomputable def ixN : List (Option Str) → Str → Option Nat
  | [], _ => none
  | a :: r, x => if a == some x then some 0 else (ixN r x).map (· + 1)
noncomputable def mask (kd : Kd) (nm : List (Option Str)) : List (Option Str) := nm.map fun y => y.filter fun z => kd.lookup z == some .cell
noncomputable def kB (kd : Kd) (x : Str) : Bool := kd.lookup x == some .local || kd.lookup x == some .cell
noncomputable def kG (kd : Kd) (x : Str) : Bool := kd.lookup x == some .globalImplicit
abbrev GT := List (Str × V)
noncomputable def need (b : Bool) (o : Option Code) : Option Code := if b = true then o else none
noncomputable def bnd {α : Type} (o : Option α) (f : α → Option Code) : Option Code := match o with
  | some a => f a
  | none => none
noncomputable def keyS (e : Option Expr) : Option Str := match e with
  | some (.Constant (.str s) _ _) => some s
  | _ => none
noncomputable def keysS : List (Option Expr) → Option (List Str)
  | [] => some []
  | e :: es => match keyS e, keysS es with
    | some x, some xs => some (x :: xs)
    | _, _ => none
noncomputable def ixs (nm : List (Option Str)) : List Str → Option (List Nat)
  | [] => some []
  | x :: xs => match ixN nm x, ixs nm xs with
    | some i, some is => some (i :: is)
    | _, _ => none
inductive Tk where
  | E (e : Expr) | T (e : Expr) | C (ops : List CmpOp) (cs : List Expr) | A (op : BoolOp) (es : List Expr) | B (op : BoolOp) (es : List Expr)
  | Es (es : List Expr) | D (ks : List (Option Expr)) (es : List Expr) | O (o : Option Expr) | I (ik : Ik) (e : Expr)
noncomputable def typeNm (g : GT) (kd : Kd) (f : Str) (t : String) : Bool := kG kd f && (match g.lookup f with
  | some (.vF (.type u)) => u == t
  | _ => false)
noncomputable def cConst (v : Const) (k : Code) : Option Code := match v with
  | .none => some (.const .vN k)
  | .bool b => some (.const (.vB b) k)
  | .int i => some (.const (.vI i) k)
  | .str s => some (.const (.vS s) k)
  | _ => none
noncomputable def cName (g : GT) (kd : Kd) (nm : List (Option Str)) (x : Str) (k : Code) : Option Code :=
  if (x == ("__debug__" : Str)) = true then none
  else if kB kd x = true then bnd (ixN nm x) fun i => some (.load i k)
  else if kG kd x = true then bnd (g.lookup x) fun v => some (.const v k) else none
noncomputable def callee (kp : Value → Bool) (o : Option V) : Option Value := match o with
  | some (.vF v) => if kp v = true then some v else none
  | _ => none
noncomputable def isNot (op : UnaryOp) : Bool := match op with
  | .Not => true
  | _ => false
noncomputable def isUSub (op : UnaryOp) : Bool := match op with
  | .USub => true
  | _ => false
noncomputable def itK (e : Expr) : Ik := match e with
  | .Call (.Name f _) _ [] _ => if isStr f "enumerate" = true then .enm else .rng
  | _ => .els
noncomputable def plI (e : Expr) : Bool := match e with
  | .Call (.Name _ _) _ [] _ => false
  | e => plainE e
section
variable (g : GT) (kp : Value → Bool)
noncomputable def cmpC : Nat → Kd → List (Option Str) → Tk → Code → Option Code
  | 0, _, _, _, _ => none
  | n + 1, kd, nm, t, k => match t with
    | .E e => match e with
      | .Constant v _ _ => cConst v k
      | .Name x _ => cName g kd nm x k
      | .BinOp l op r _ => bnd (cmpC n kd nm (.E r) (.bin op k)) fun k => cmpC n kd nm (.E l) k
      | .UnaryOp op x _ => need (isUSub op) (cmpC n kd nm (.E x) (.neg k))
      | .IfExp t b o _ => bnd (cmpC n kd nm (.E b) .done) fun b => bnd (cmpC n kd nm (.E o) .done) fun o => cmpC n kd nm (.T t) (.ite b o k)
      | .BoolOp op es _ => cmpC n kd nm (.B op es) k
      | .Compare l ops cs _ => need (cs.all plainE) (bnd (cmpC n kd nm (.C ops cs) k) fun k => cmpC n kd nm (.E l) k)
      | .Call f args kws pos => match kws with
        | [] => match f with
          | .Attribute o name ap => need (notSuper o && ap.endLine == pos.line && decide (args.length < 20) && args.all plainE)
              (bnd (cmpC n kd nm (.Es args) .done) fun a => cmpC n kd nm (.E o) (.meth name args.length a k))
          | .Name f _ => need (decide (args.length < 20) && args.all plainE && !(f == ("__debug__" : Str)) && kG kd f)
              (bnd (callee kp (g.lookup f)) fun v => cmpC n kd nm (.Es args) (.call v args.length k))
          | _ => none
        | _ => none
      | .Attribute o name _ => need (notSuper o) (cmpC n kd nm (.E o) (.attr name k))
      | .Subscript o i _ => match i with
        | .Slice lo hi st _ => match st with
          | none => bnd (cmpC n kd nm (.O hi) (.slice k)) fun k => bnd (cmpC n kd nm (.O lo) k) fun k => cmpC n kd nm (.E o) k
          | some st => need (lo.isNone && hi.isNone) (bnd (cmpC n kd nm (.E st) (.rev k)) fun k => cmpC n kd nm (.E o) k)
        | i => need (plainE i) (bnd (cmpC n kd nm (.E i) (.sub k)) fun k => cmpC n kd nm (.E o) k)
      | .Tuple es _ _ => need (decide (es.length ≤ 100)) (cmpC n kd nm (.Es es) (.tup es.length k))
      | .List es _ => need (decide (es.length ≤ 100)) (cmpC n kd nm (.Es es) (.lst es.length k))
      | .Dict ks es _ => need (ks.all (·.isSome) && decide (ks.length = es.length) && decide (0 < ks.length) && decide (ks.length ≤ 15))
          (bnd (keysS ks) fun xs => need (decide xs.Nodup) (cmpC n kd nm (.D ks es) (.dict xs k)))
      | .ListComp elt gens scope _ => match gens with
        | [] => none
        | q :: qs => match qs with
          | [] => match q.target with
            | .Name x _ => need (q.ifs.isEmpty && decide (q.is_async = 0) && compOk kd scope x) (bnd (cmpC n (compKd kd scope) (some x :: mask (compKd kd scope) nm) (.E elt) .done) fun a =>
                cmpC n kd nm (.I (itK q.iter) q.iter) (.comp (itK q.iter) a k))
            | _ => none
          | _ => none
      | _ => none
    | .T e => match e with
      | .UnaryOp op x p => if isNot op = true then cmpC n kd nm (.T x) (.not k) else cmpC n kd nm (.E (.UnaryOp op x p)) (.tst k)
      | .BoolOp op es _ => cmpC n kd nm (.A op es) k
      | .IfExp _ _ _ _ => none
      | .Compare l ops cs _ => need (cs.all plainE) (bnd (cmpC n kd nm (.C ops cs) k) fun k => cmpC n kd nm (.E l) k)
      | e => cmpC n kd nm (.E e) (.tst k)
    | .C ops cs => match ops with
      | [] => none
      | op :: ops => match cs with
        | [] => none
        | x :: cs => match ops with
          | [] => match cs with
            | [] => cmpC n kd nm (.E x) (.cmp op k)
            | _ => none
          | op2 :: ops => match cs with
            | [] => none
            | x2 :: cs => bnd (cmpC n kd nm (.C (op2 :: ops) (x2 :: cs)) .done) fun r => cmpC n kd nm (.E x) (.keep op (.ite r (.pop (.const (.vB false) .done)) k))
    | .A op es => match es with
      | [] => match op with
        | .And => some (.const (.vB true) k)
        | .Or => some (.const (.vB false) k)
      | x :: es => match es with
        | [] => cmpC n kd nm (.T x) k
        | y :: es => bnd (cmpC n kd nm (.A op (y :: es)) .done) fun r => match op with
          | .And => cmpC n kd nm (.T x) (.ite r (.const (.vB false) .done) k)
          | .Or => cmpC n kd nm (.T x) (.ite (.const (.vB true) .done) r k)
    | .B op es => match es with
      | [] => none
      | x :: es => match es with
        | [] => cmpC n kd nm (.E x) k
        | x2 :: es => bnd (cmpC n kd nm (.B op (x2 :: es)) .done) fun r => match op with
          | .And => cmpC n kd nm (.E x) (.dup (.tst (.ite (.pop r) .done k)))
          | .Or => cmpC n kd nm (.E x) (.dup (.tst (.ite .done (.pop r) k)))
    | .Es es => match es with
      | [] => some k
      | x :: es => need (plainE x) (bnd (cmpC n kd nm (.Es es) k) fun k => cmpC n kd nm (.E x) k)
    | .D ks es => match ks with
      | [] => match es with
        | [] => some k
        | _ => none
      | _ :: ks => match es with
        | [] => none
        | v :: vs => bnd (cmpC n kd nm (.D ks vs) k) fun k => cmpC n kd nm (.E v) k
    | .O o => match o with
      | none => some (.const .vN k)
      | some e => cmpC n kd nm (.E e) (.chk k)
    | .I ik e => match ik with
      | .els => need (plI e) (cmpC n kd nm (.E e) k)
      | .enm => match e with
        | .Call f args kws _ => match kws with
          | [] => match f with
            | .Name f _ => match args with
              | [a] => need (isStr f "enumerate" && typeNm g kd f "enumerate") (cmpC n kd nm (.Es [a]) (.tup 1 k))
              | _ => none
            | _ => none
          | _ => none
        | _ => none
      | .rng => match e with
        | .Call f args kws _ => match kws with
          | [] => match f with
            | .Name f _ => match args with
              | [] => none
              | a :: as => match as with
                | [] => need (!(isStr f "enumerate") && isStr f "range" && typeNm g kd f "range") (cmpC n kd nm (.Es [a]) (.tup 1 k))
                | b :: as => need (isStr f "range" && (a :: b :: as).all plainE && typeNm g kd f "range") (cmpC n kd nm (.Es (a :: b :: as)) (.tup (as.length + 2) k))
            | _ => none
          | _ => none
        | _ => none
inductive Sk where
  | X (s : Stmt) | Xs (ss : List Stmt)
noncomputable def cAsg (n : Nat) (kd : Kd) (nm : List (Option Str)) (t : Expr) (k : Code) : Option Code := match t with
  | .Name x _ => need (bindOk kd x) (bnd (ixN nm x) fun i => some (.store i k))
  | .Tuple ts _ _ => bnd (namesOf ts) fun xs => need (decide xs.Nodup && xs.all (bindOk kd)) (bnd (ixs nm xs) fun is => some (.unpack is k))
  | .Attribute o name _ => cmpC g kp n kd nm (.E o) (.setat name k)
  | .Subscript o i _ => need (plainE i) (bnd (cmpC g kp n kd nm (.E i) (.setit k)) fun k => cmpC g kp n kd nm (.E o) k)
  | _ => none
noncomputable def cTg (kd : Kd) (nm : List (Option Str)) (ik : Ik) (t : Expr) : Option Tg := match t with
  | .Name x _ => if (bindOk kd x && !(decide (ik = .enm))) = true then (ixN nm x).map .one else none
  | .Tuple ts _ _ => match twoOf (namesOf ts) with
    | some (x, y) => if (bindOk kd x && bindOk kd y && decide (x ≠ y) && decide (ik = .enm)) = true then (match ixN nm x with
        | some i => (ixN nm y).map fun j => .two i j
        | none => none) else none
    | none => none
  | _ => none
noncomputable def cX : Nat → Kd → List (Option Str) → Sk → Code → Option Code
  | 0, _, _, _, _ => none
  | n + 1, kd, nm, t, k => match t with
    | .X s => match s with
      | .Expr e _ => need (isCall e) (cmpC g kp n kd nm (.E e) (.drop k))
      | .Return o _ => match o with
        | some e => cmpC g kp n kd nm (.E e) .ret
        | none => some (.const .vN .ret)
      | .Assign ts v _ => match ts with
        | [t] => need (tupleOk t v) (bnd (cAsg g kp n kd nm t k) fun k => cmpC g kp n kd nm (.E v) k)
        | _ => none
      | .If t b o _ => bnd (cX n kd nm (.Xs b) .done) fun b => bnd (cX n kd nm (.Xs o) .done) fun o => cmpC g kp n kd nm (.T t) (.ite b o k)
      | .While t b o _ => match o with
        | [] => bnd (cmpC g kp n kd nm (.T t) .done) fun t => bnd (cX n kd nm (.Xs b) .done) fun b => some (.loop t b k)
        | _ => none
      | .For t it b o _ => match o with
        | [] => bnd (cTg kd nm (itK it) t) fun tg => bnd (cX n kd nm (.Xs b) .done) fun b => cmpC g kp n kd nm (.I (itK it) it) (.for_ (itK it) tg b k)
        | _ => none
      | _ => some .fail
    | .Xs ss => match ss with
      | [] => some k
      | s :: ss => bnd (cX n kd nm (.Xs ss) k) fun k => cX n kd nm (.X s) k
end
end Mine
end
section
open PySem PySem.W PyProof.Rows
set_option maxRecDepth 100000
set_option linter.unusedVariables false
namespace Mine
theorem need_ok {b : Bool} {o : Option Code} {x : Code} (h : need b o = some x) : b = true ∧ o = some x := by
  cases b
  · cases h
  · exact ⟨rfl, h⟩
theorem bnd_ok {α : Type} {o : Option α} {f : α → Option Code} {x : Code} (h : bnd o f = some x) : ∃ a, o = some a ∧ f a = some x := by
  induction o using Option.casesOn with
  | none => cases h
  | some a => exact ⟨a, rfl, h⟩
theorem some_ok {a b : Code} (h : some a = some b) : a = b := by cases h; rfl
/-- what the names hold -/
noncomputable def Cor (nm : List (Option Str)) (m : MM) (e : Env) : Prop := ∀ x i v, ixN nm x = some i → getE e i = some v → m x = some v
theorem ixN_inj : ∀ {nm : List (Option Str)} {x y : Str} {i : Nat}, ixN nm x = some i → ixN nm y = some i → x = y
  | [], x, y, i, h, _ => nomatch h
  | a :: r, x, y, i, h, h' => by
    unfold ixN at h h'
    by_cases c1 : (a == some x) = true
    · rw [if_pos c1] at h
      by_cases c2 : (a == some y) = true
      · rw [beq_iff_eq] at c1 c2; rw [c1] at c2; exact Option.some.inj c2
      · rw [if_neg c2] at h'; cases h; cases e : ixN r y <;> rw [e] at h' <;> simp at h'
    · rw [if_neg c1] at h
      by_cases c2 : (a == some y) = true
      · rw [if_pos c2] at h'; cases h'; cases e : ixN r x <;> rw [e] at h <;> simp at h
      · rw [if_neg c2] at h'
        cases e1 : ixN r x with
        | none => rw [e1] at h; cases h
        | some i1 => cases e2 : ixN r y with
          | none => rw [e2] at h'; cases h'
          | some i2 =>
            rw [e1] at h; rw [e2] at h'
            simp only [Option.map_some, Option.some.injEq] at h h'
            subst h
            have : i1 = i2 := by lia
            subst this
            exact ixN_inj e1 e2
theorem getE_set : ∀ {e : Env} {i j : Nat} {v w : V}, getE (setE e i v) j = some w → (j = i ∧ w = v) ∨ (j ≠ i ∧ getE e j = some w)
  | [], i, j, v, w, h => by cases h
  | a :: r, 0, 0, v, w, h => .inl ⟨rfl, (Option.some.inj h).symm⟩
  | a :: r, 0, j + 1, v, w, h => .inr ⟨Nat.succ_ne_zero j, h⟩
  | a :: r, i + 1, 0, v, w, h => .inr ⟨(Nat.succ_ne_zero i).symm, h⟩
  | a :: r, i + 1, j + 1, v, w, h => by
    rcases getE_set (e := r) (i := i) (j := j) h with ⟨rfl, e⟩ | ⟨n, e⟩
    · exact .inl ⟨rfl, e⟩
    · exact .inr ⟨fun q => n (Nat.succ.inj q), e⟩
theorem Cor.set {nm : List (Option Str)} {m : MM} {e : Env} {x : Str} {i : Nat} {v : V} (h : Cor nm m e) (hx : ixN nm x = some i) : Cor nm (setM m x v) (setE e i v) := fun y j w hy hw => by
  rcases getE_set hw with ⟨rfl, rfl⟩ | ⟨n, hw⟩
  · rw [ixN_inj hy hx]; exact setM_eq
  · have ne : y ≠ x := by rintro rfl; rw [hx] at hy; cases hy; exact n rfl
    unfold setM
    rw [if_neg ne]; exact h y j w hy hw
theorem Cor.sets {nm : List (Option Str)} {F : Env → Prop} : ∀ {xs : List Str} {is : List Nat} {vs : List V} {m : MM} {e : Env}, Cor nm m e → ixs nm xs = some is → setsE e is vs F → ∃ e', vs.length = xs.length ∧ Cor nm (setMs m xs vs) e' ∧ F e'
  | [], is, vs, m, e, h, hx, hf => by
    cases hx
    induction vs using List.casesOn with
    | nil => exact ⟨e, rfl, h, hf⟩
    | cons v vs => cases hf
  | x :: xs, is, vs, m, e, h, hx, hf => by
    unfold ixs at hx
    cases e1 : ixN nm x with
    | none => rw [e1] at hx; cases hx
    | some i => cases e2 : ixs nm xs with
      | none => rw [e1, e2] at hx; cases hx
      | some is' =>
        rw [e1, e2] at hx
        cases hx
        induction vs using List.casesOn with
        | nil => cases hf
        | cons v vs =>
          obtain ⟨e', hl, hc, hF⟩ := Cor.sets (h.set e1 (v := v)) e2 hf
          exact ⟨e', congrArg Nat.succ hl, hc, hF⟩
theorem ixN_mask {kd : Kd} {x : Str} : ∀ {nm : List (Option Str)} {i : Nat}, ixN (mask kd nm) x = some i → ixN nm x = some i ∧ kd.lookup x = some .cell
  | [], i, h => nomatch h
  | a :: r, i, h => by
    unfold mask at h
    rw [List.map_cons] at h
    unfold ixN at h ⊢
    by_cases c1 : ((Option.filter (fun z => kd.lookup z == some .cell) a) == some x) = true
    · rw [if_pos c1] at h
      rw [beq_iff_eq, Option.filter_eq_some_iff] at c1
      obtain ⟨rfl, c⟩ := c1
      rw [if_pos (by simp)]
      exact ⟨h, by simpa using c⟩
    · rw [if_neg c1] at h
      cases e1 : ixN (mask kd r) x with
      | none => unfold mask at e1; rw [e1] at h; cases h
      | some i1 =>
        obtain ⟨q1, q2⟩ := ixN_mask e1
        unfold mask at e1
        rw [e1] at h
        have c2 : ¬ (a == some x) = true := by
          intro q; rw [beq_iff_eq] at q; subst q
          exact c1 (by simp [q2])
        rw [if_neg c2, q1]
        exact ⟨h, q2⟩
theorem Cor.comp {kd : Kd} {scope : Scope} {nm : List (Option Str)} {m : MM} {e : Env} {x : Str} {v : V} (h : Cor nm m e) : Cor (some x :: mask (compKd kd scope) nm) (setM (compM kd scope m) x v) (some v :: e) := fun y i w hy hw => by
  unfold ixN at hy
  by_cases c1 : (some x == some y) = true
  · rw [if_pos c1] at hy; cases hy
    rw [beq_iff_eq] at c1; cases c1
    rw [setM_eq]; exact hw
  · rw [if_neg c1] at hy
    cases e1 : ixN (mask (compKd kd scope) nm) y with
    | none => rw [e1] at hy; cases hy
    | some i1 =>
      rw [e1] at hy
      cases hy
      obtain ⟨q1, q2⟩ := ixN_mask e1
      have ne : y ≠ x := fun q => c1 (by subst q; simp)
      unfold setM compM
      rw [if_neg ne, if_pos q2]
      exact h y i1 w q1 hw
noncomputable def pushL : List V → List V → List V
  | [], s => s
  | v :: vs, s => pushL vs (v :: s)
theorem popN_add {F : List V → List V → Prop} : ∀ {a b : Nat} {s acc : List V}, popN (a + b) s acc F → popN a s acc fun acc s => popN b s acc F
  | 0, b, s, acc, h => by rw [Nat.zero_add] at h; exact h
  | a + 1, b, [], acc, h => by rw [Nat.add_right_comm] at h; exact h.elim
  | a + 1, b, v :: s, acc, h => by rw [Nat.add_right_comm] at h; exact popN_add (a := a) h
theorem popN_push {F : List V → List V → Prop} : ∀ {vs s acc : List V}, popN vs.length (pushL vs s) acc F → F (vs ++ acc) s
  | [], s, acc, h => h
  | v :: vs, s, acc, h => popN_push (vs := vs) (popN_add h)
theorem popN_nil {F : List V → List V → Prop} {vs s : List V} (h : popN vs.length (pushL vs s) [] F) : F vs s := by
  have := popN_push h
  rwa [List.append_nil] at this
end Mine
end
section
open PySem PySem.W PyProof.Rows
set_option maxRecDepth 100000
set_option linter.unusedVariables false
namespace Mine
theorem none_ok {x : Code} {A : Prop} (h : (none : Option Code) = some x) : A := nomatch h
noncomputable def optV : Option Int → V
  | none => .vN
  | some i => .vI i
section
variable (K : Frag) (c : Value → List V → St → (V → St → Prop) → Prop)
noncomputable def Snd (n : Nat) (kd : Kd) (nm : List (Option Str)) (t : Tk) (k code : Code) : Prop := ∀ (m : MM) (s : List V) (en : Env) (S : St) (N : List V → Env → St → Prop) (R : V → St → Prop), Cor nm m en → match t with
  | .E e => Run K c code s en S N R → ∀ Q : V → St → Prop, (∀ v S', Run K c k (v :: s) en S' N R → Q v S') → wE K c n kd m e S Q
  | .T e => Run K c code s en S N R → ∀ Q : Bool → St → Prop, (∀ b S', Run K c k (.vB b :: s) en S' N R → Q b S') → wT K c n kd m e S Q
  | .C ops cs => ∀ a, Run K c code (a :: s) en S N R → ∀ Q : Bool → St → Prop, (∀ b S', Run K c k (.vB b :: s) en S' N R → Q b S') → wChain K c n kd m a ops cs S Q
  | .A op es => Run K c code s en S N R → ∀ Q : Bool → St → Prop, (∀ b S', Run K c k (.vB b :: s) en S' N R → Q b S') → wAll K c n kd m op es S Q
  | .B op es => Run K c code s en S N R → ∀ Q : V → St → Prop, (∀ v S', Run K c k (v :: s) en S' N R → Q v S') → wBool K c n kd m op es S Q
  | .Es es => Run K c code s en S N R → ∀ Q : List V → St → Prop, (∀ vs S', vs.length = es.length → Run K c k (pushL vs s) en S' N R → Q vs S') → wEs K c n kd m es S Q
  | .D ks es => Run K c code s en S N R → ∀ xs, keysS ks = some xs → ∀ Q : List (Str × V) → St → Prop, (∀ vs S', vs.length = xs.length → Run K c k (pushL vs s) en S' N R → Q (xs.zip vs) S') → wDict K c n kd m ks es S Q
  | .O o => Run K c code s en S N R → ∀ Q : Option Int → St → Prop, (∀ x S', Run K c k (optV x :: s) en S' N R → Q x S') → wOpt K c n kd m o S Q
  | .I ik e => Run K c code s en S N R → ∀ Q : Itr → St → Prop, (∀ v S', Run K c k (v :: s) en S' N R → itrW ik v S' fun it => Q it S') → wIter K c n kd m e S Q
end
section
variable {K : Frag} {c : Value → List V → St → (V → St → Prop) → Prop} {g : GT} {kp : Value → Bool} {n : Nat} {kd : Kd} {nm : List (Option Str)} {k code : Code}
theorem MC_args {name : Str} {A1 A2 : St → (List V → St → Prop) → Prop} {ov : V} {S : St} {Q : V → St → Prop} (h : MC K c name A1 ov S Q) (hA : ∀ S' k', A1 S' k' → A2 S' k') : MC K c name A2 ov S Q := by
  refine hide fun G0 g0 => ?_
  obtain ⟨a, rfl, h⟩ := h
  refine g0 ?_
  clear g0 G0
  refine ⟨a, rfl, ?_⟩
  cases e : S a with
  | none => rw [e] at h; exact h
  | some o =>
    rw [e] at h
    cases o with
    | inst C dx =>
      refine hide fun G0 g0 => ?_
      obtain ⟨fs, f, h1, h2, h3, h4⟩ := h
      refine g0 ?_
      clear g0 G0
      exact ⟨fs, f, h1, h2, h3, hA _ _ h4⟩
    | lst vs => exact ⟨h.1, hA _ _ h.2⟩
    | _ => exact h
theorem compW_mono {chk : St → Prop} {t1 t2 : V → St → (V → St → Prop) → Prop} {F1 F2 : List V → St → Prop} (ht : ∀ v S' (Q1 Q2 : V → St → Prop), t1 v S' Q1 → (∀ w S'', Q1 w S'' → Q2 w S'') → t2 v S' Q2) (hF : ∀ acc S', F1 acc S' → F2 acc S') :
    ∀ {xs : List V} {acc : List V} {S : St}, compW chk t1 xs acc S F1 → compW chk t2 xs acc S F2
  | [], acc, S, h => ⟨h.1, hF _ _ h.2⟩
  | x :: xs, acc, S, h => ⟨h.1, ht _ _ _ _ h.2 fun w S' q => ⟨q.1, compW_mono ht hF q.2⟩⟩
theorem itrW_mono {ik : Ik} {v : V} {S : St} {f1 f2 : Itr → Prop} (hf : ∀ it, f1 it → f2 it) (h : itrW ik v S f1) : itrW ik v S f2 := by
  induction ik using Ik.casesOn with
  | rng => induction v using V.casesOn with
    | vT vs =>
      have h : rangeW vs fun ks => f1 (.rng ks) := h
      show rangeW vs fun ks => f2 (.rng ks)
      unfold rangeW at h ⊢
      split at h
      · exact ⟨h.1, h.2.1, hf _ h.2.2⟩
      · exact ⟨h.1, h.2.1, h.2.2.1, h.2.2.2.1, hf _ h.2.2.2.2⟩
      · exact ⟨h.1, h.2.1, h.2.2.1, h.2.2.2.1, h.2.2.2.2.1, hf _ h.2.2.2.2.2⟩
      · exact h
    | _ => exact h
  | enm =>
    obtain ⟨l, xs, h1, h2, h3⟩ := h
    exact ⟨l, xs, h1, h2, hf _ h3⟩
  | els => induction v using V.casesOn with
    | vR a =>
      obtain ⟨xs, h1, h2⟩ := h
      exact ⟨xs, h1, hf _ h2⟩
    | vT vs => exact hf _ h
    | _ => exact h
theorem binR_ok {op : Operator} {a b : V} {S : St} {F Q : V → St → Prop} (h : binR op a b S F) (hQ : ∀ v S', F v S' → Q v S') : binop op a b S Q := by
  unfold binR at h
  cases e : arith op a b with
  | none => rw [e] at h; exact h Q hQ
  | some i =>
    rw [e] at h
    induction a using V.casesOn with
    | vI x => induction b using V.casesOn with
      | vI y => induction op using PySem.Operator.casesOn with
        | Add => cases e; exact hQ _ _ h
        | Sub => cases e; exact hQ _ _ h
        | _ => cases e
      | _ => cases e
    | _ => cases e
theorem cmpR_ok {op : CmpOp} {a b : V} {S : St} {F Q : Bool → Prop} (h : cmpR op a b S F) (hQ : ∀ v, F v → Q v) : wCmp op a b S Q := by
  unfold cmpR at h
  cases e : cmpI op a b with
  | none => rw [e] at h; exact h Q hQ
  | some i =>
    rw [e] at h
    induction a using V.casesOn with
    | vI x => induction b using V.casesOn with
      | vI y => induction op using PySem.CmpOp.casesOn with
        | Lt => cases e; exact hQ _ h
        | LtE => cases e; exact hQ _ h
        | Gt => cases e; exact hQ _ h
        | GtE => cases e; exact hQ _ h
        | Eq => cases e; exact hQ _ h
        | NotEq => cases e; exact hQ _ h
        | _ => cases e
      | _ => cases e
    | _ => cases e
theorem tstR_ok {v : V} {S : St} {F Q : Bool → Prop} (h : tstR v S F) (hQ : ∀ v, F v → Q v) : ∃ b, truth S v = some b ∧ Q b := by
  induction v using V.casesOn with
  | vB b => exact ⟨b, rfl, hQ _ h⟩
  | _ => obtain ⟨b, h1, h2⟩ := h; exact ⟨b, h1, hQ _ h2⟩
theorem onV_ok {o : Option V} {f : V → Prop} (h : onV o f) : ∃ v, o = some v ∧ f v := by
  induction o using Option.casesOn with
  | none => cases h
  | some v => exact ⟨v, rfl, h⟩
theorem onI_ok {v : V} {f : Int → Prop} (h : onI v f) : ∃ i, v = .vI i ∧ f i := by
  induction v using V.casesOn with
  | vI i => exact ⟨i, rfl, h⟩
  | _ => exact h.elim
theorem bind_kB {x : Str} (h : kB kd x = true) : kindB kd x = true := by
  unfold kB at h
  unfold kindB
  rw [Bool.or_eq_true, beq_iff_eq, beq_iff_eq] at h
  rcases h with h | h <;> rw [h]
theorem glob_kG {x : Str} (h : kG kd x = true) : kd.lookup x = some .globalImplicit := beq_iff_eq.mp h
variable (hg : ∀ x v, g.lookup x = some v → glob K x = some v) (hk : ∀ v, kp v = true → keepOk K v = true)
include hg in
theorem snd_name {x : Str} {p : Pos} (h : cName g kd nm x k = some code) : Snd K c (n + 1) kd nm (.E (.Name x p)) k code := fun m s en S N R hc => by
  intro hr Q hQ
  unfold cName at h
  by_cases c0 : (x == ("__debug__" : Str)) = true
  · rw [if_pos c0] at h; cases h
  rw [if_neg c0] at h
  have c0 : (x == ("__debug__" : Str)) = false := by simpa using c0
  by_cases c1 : kB kd x = true
  · rw [if_pos c1] at h
    obtain ⟨i, e1, e2⟩ := bnd_ok h
    cases e2
    obtain ⟨v, e3, hr⟩ := onV_ok hr
    exact s_name ((nameV_L (bind_kB c1)).trans (hc x i v e1 e3)) c0 (hQ _ _ hr)
  · rw [if_neg c1] at h
    by_cases c2 : kG kd x = true
    · rw [if_pos c2] at h
      obtain ⟨v, e1, e2⟩ := bnd_ok h
      cases e2
      exact s_name (nameG (glob_kG c2) (hg x v e1)) c0 (hQ _ _ hr)
    · rw [if_neg c2] at h; cases h
theorem snd_const {v : Const} {j : Nat} {p : Pos} (h : cConst v k = some code) : Snd K c (n + 1) kd nm (.E (.Constant v j p)) k code := fun m s en S N R hc => by
  intro hr Q hQ
  induction v using PySem.Const.casesOn with
  | none => cases h; exact hQ _ _ hr
  | bool b => cases h; exact hQ _ _ hr
  | int b => cases h; exact hQ _ _ hr
  | str b => cases h; exact hQ _ _ hr
  | _ => cases h
abbrev IHC (K : Frag) (c : Value → List V → St → (V → St → Prop) → Prop) (g : GT) (kp : Value → Bool) (n : Nat) : Prop := ∀ kd nm t k code, cmpC g kp n kd nm t k = some code → Snd K c n kd nm t k code
theorem ihC_pos {t : Tk} (h : cmpC g kp n kd nm t k = some code) : ∃ n', n = n' + 1 := by
  induction n using Nat.casesOn with
  | zero => cases h
  | succ n => exact ⟨n, rfl⟩
variable (ih : IHC K c g kp n)
include ih in
theorem snd_meth {o : Expr} {name : Str} {ap pos : Pos} {args : List Expr} (h : cmpC g kp (n + 1) kd nm (.E (.Call (.Attribute o name ap) args [] pos)) k = some code) : Snd K c (n + 1) kd nm (.E (.Call (.Attribute o name ap) args [] pos)) k code := fun m s en S N R hc => by
  intro hr Q hQ
  obtain ⟨h1, h⟩ := need_ok h
  obtain ⟨a, ha, h⟩ := bnd_ok h
  refine s_meth h1 (ih _ _ (.E o) _ _ h m s en S N R hc hr _ fun ov S1 hr => ?_)
  refine MC_args (hr Q hQ) fun S' k' hr => ih _ _ (.Es args) _ _ ha m [] en S' _ _ hc hr _ fun vs S'' hl hr => ?_
  have hr : popN args.length (pushL vs []) [] fun vs _ => k' vs S'' := hr
  rw [← hl] at hr
  exact popN_nil hr
include hg hk ih in
theorem snd_call {f : Str} {p pos : Pos} {args : List Expr} (h : cmpC g kp (n + 1) kd nm (.E (.Call (.Name f p) args [] pos)) k = some code) : Snd K c (n + 1) kd nm (.E (.Call (.Name f p) args [] pos)) k code := fun m s en S N R hc => by
  intro hr Q hQ
  obtain ⟨h1, h⟩ := need_ok h
  obtain ⟨a, ha, h⟩ := bnd_ok h
  obtain ⟨n', rfl⟩ := ihC_pos h
  rw [Bool.and_eq_true, Bool.and_eq_true] at h1
  obtain ⟨⟨h1, h2⟩, h3⟩ := h1
  have e : g.lookup f = some (.vF a) ∧ kp a = true := by
    unfold callee at ha
    split at ha
    · rename_i v0 q
      by_cases z : kp v0 = true
      · rw [if_pos z] at ha; cases ha; exact ⟨q, z⟩
      · rw [if_neg z] at ha; cases ha
    · cases ha
  refine s_call h1 (nameG (glob_kG h3) (hg _ _ e.1)) (by simpa using h2) (hk _ e.2) (ih _ _ (.Es args) _ _ h m s en S N R hc hr _ fun vs S' hl hr => ?_)
  have hr : popN args.length (pushL vs s) [] fun vs s => YS (fun v S'' => Run K c k (v :: s) en S'' N R) (c a vs S') := hr
  rw [← hl] at hr
  exact popN_nil hr Q hQ
include ih in
theorem snd_comp {elt iter : Expr} {x : Str} {p p2 : Pos} {scope : Scope} (h : cmpC g kp (n + 1) kd nm (.E (.ListComp elt [⟨.Name x p, iter, [], 0⟩] scope p2)) k = some code) : Snd K c (n + 1) kd nm (.E (.ListComp elt [⟨.Name x p, iter, [], 0⟩] scope p2)) k code := fun m s en S N R hc => by
  intro hr Q hQ
  obtain ⟨h1, h⟩ := need_ok h
  obtain ⟨a, ha, h⟩ := bnd_ok h
  have h1 : compOk kd scope x = true := h1
  refine s_comp h1 (ih _ _ (.I (itK iter) iter) _ _ h m s en S N R hc hr _ fun v S1 hr => ?_)
  have hr : itrW (itK iter) v S1 fun it => compIt it = true ∧ compR (itChk it) (fun v S' Q' => Run K c a [] (some v :: en) S' (fun s' _ S'' => pop1 s' fun w _ => Q' w S'') noR) (itItems it) S1 fun w S' => Run K c k (w :: s) en S' N R := hr
  refine itrW_mono (fun it hr => ?_) hr
  refine ⟨hr.1, compW_mono (fun v S' Q1 Q2 hr hq => ?_) (fun _ _ => id) (hr.2 Q hQ)⟩
  exact ih _ _ (.E elt) _ _ ha _ [] _ S' _ _ hc.comp hr Q2 hq
include ih in
theorem snd_sub {o i : Expr} {p : Pos} (h : cmpC g kp (n + 1) kd nm (.E (.Subscript o i p)) k = some code) : Snd K c (n + 1) kd nm (.E (.Subscript o i p)) k code := fun m s en S N R hc => by
  intro hr Q hQ
  have key : need (plainE i) (bnd (cmpC g kp n kd nm (.E i) (.sub k)) fun k => cmpC g kp n kd nm (.E o) k) = some code → wE K c (n + 1) kd m (.Subscript o i p) S Q := fun h => by
    obtain ⟨h1, h⟩ := need_ok h
    obtain ⟨a, ha, h⟩ := bnd_ok h
    exact s_sub h1 (ih _ _ (.E o) _ _ h m s en S N R hc hr _ fun ov S1 hr => ih _ _ (.E i) _ _ ha m _ en S1 N R hc hr _ fun iv S2 hr => hr _ fun v => hQ v S2)
  induction i using PySem.Expr.casesOn with
  | Slice lo hi st q => induction st using Option.casesOn with
    | none =>
      obtain ⟨a, ha, h⟩ := bnd_ok h
      obtain ⟨b, hb, h⟩ := bnd_ok h
      refine s_slice (ih _ _ (.E o) _ _ h m s en S N R hc hr _ fun ov S1 hr => ih _ _ (.O lo) _ _ hb m _ en S1 N R hc hr _ fun l S2 hr => ih _ _ (.O hi) _ _ ha m _ en S2 N R hc hr _ fun hx S3 hr => ?_)
      have hr : ∃ a vs, ov = .vR a ∧ lstOf S3 a = some vs ∧ ∀ r, Fresh S3 r → Run K c k (.vR r :: s) en (put S3 r (.lst (sliceL vs l hx))) N R := by
        cases l <;> cases hx <;> exact hr
      refine hide fun G0 g0 => ?_
      obtain ⟨a, vs, e1, e2, e3⟩ := hr
      refine g0 ?_
      clear g0 G0
      exact ⟨a, vs, e1, e2, fun r hf => hQ _ _ (e3 r hf)⟩
    | some st =>
      obtain ⟨h1, h2⟩ := need_ok h
      obtain ⟨a, ha, h2⟩ := bnd_ok h2
      induction lo using Option.casesOn with
      | some _ => cases h1
      | none => induction hi using Option.casesOn with
        | some _ => cases h1
        | none =>
          refine s_rev (k := 0) (ih _ _ (.E o) _ _ h2 m s en S N R hc hr _ fun ov S1 hr => ih _ _ (.E st) _ _ ha m _ en S1 N R hc hr _ fun sv S2 hr => ?_)
          refine hide fun G0 g0 => ?_
          obtain ⟨e0, a, vs, e1, e2, e3⟩ := hr
          refine g0 ?_
          clear g0 G0
          exact ⟨e0, a, vs, e1, e2, fun r hf => hQ _ _ (e3 r hf)⟩
  | _ => exact key h
end
end Mine
end
section
open PySem PySem.W PyProof.Rows
set_option maxRecDepth 100000
set_option linter.unusedVariables false
namespace Mine
section
variable {K : Frag} {c : Value → List V → St → (V → St → Prop) → Prop} {g : GT} {kp : Value → Bool} {n : Nat} {kd : Kd} {nm : List (Option Str)} {k code : Code}
variable (hg : ∀ x v, g.lookup x = some v → glob K x = some v) (hk : ∀ v, kp v = true → keepOk K v = true) (ih : IHC K c g kp n)
include ih in
theorem snd_Es {es : List Expr} (h : cmpC g kp (n + 1) kd nm (.Es es) k = some code) : Snd K c (n + 1) kd nm (.Es es) k code := fun m s en S N R hc => by
  intro hr Q hQ
  induction es using List.casesOn with
  | nil => cases some_ok h; exact hQ [] _ rfl hr
  | cons x es =>
    obtain ⟨h1, h⟩ := need_ok h
    obtain ⟨a, ha, h⟩ := bnd_ok h
    exact e_cons h1 (ih _ _ (.E x) _ _ h m s en S N R hc hr _ fun v S1 hr => ih _ _ (.Es es) _ _ ha m _ en S1 N R hc hr _ fun vs S2 hl hr => hQ (v :: vs) S2 (congrArg Nat.succ hl) hr)
theorem keysS_cons {e : Option Expr} {es : List (Option Expr)} {xs : List Str} (h : keysS (e :: es) = some xs) : ∃ s j p ys, e = some (.Constant (.str s) j p) ∧ keysS es = some ys ∧ xs = s :: ys := by
  unfold keysS at h
  cases e1 : keyS e with
  | none => rw [e1] at h; cases h
  | some x => cases e2 : keysS es with
    | none => rw [e1, e2] at h; cases h
    | some ys =>
      rw [e1, e2] at h
      cases h
      unfold keyS at e1
      split at e1
      · cases e1; exact ⟨_, _, _, _, rfl, rfl, rfl⟩
      · cases e1
include ih in
theorem snd_D {ks : List (Option Expr)} {es : List Expr} (h : cmpC g kp (n + 1) kd nm (.D ks es) k = some code) : Snd K c (n + 1) kd nm (.D ks es) k code := fun m s en S N R hc => by
  intro hr xs hx Q hQ
  induction ks using List.casesOn with
  | nil => induction es using List.casesOn with
    | nil => cases some_ok h; cases hx; exact hQ [] _ rfl hr
    | cons e es => exact none_ok h
  | cons e ks => induction es using List.casesOn with
    | nil => exact none_ok h
    | cons v vs =>
      obtain ⟨a, ha, h2⟩ := bnd_ok h
      obtain ⟨n', rfl⟩ := ihC_pos h2
      refine hide fun G0 g0 => ?_
      obtain ⟨x, j, p, ys, rfl, hy, rfl⟩ := keysS_cons hx
      refine g0 ?_
      clear g0 G0
      exact d_cons (ih _ _ (.E v) _ _ h2 m s en S N R hc hr _ fun w S1 hr => ih _ _ (.D ks vs) _ _ ha m _ en S1 N R hc hr ys hy _ fun ws S2 hl hr => hQ (w :: ws) S2 (congrArg Nat.succ hl) hr)
include ih in
theorem snd_O {o : Option Expr} (h : cmpC g kp (n + 1) kd nm (.O o) k = some code) : Snd K c (n + 1) kd nm (.O o) k code := fun m s en S N R hc => by
  intro hr Q hQ
  induction o using Option.casesOn with
  | none => cases some_ok h; exact hQ none _ hr
  | some e => exact o_some (ih _ _ (.E e) _ _ h m s en S N R hc hr _ fun v S1 hr => by
      obtain ⟨i, rfl, hr⟩ := onI_ok hr
      exact ⟨i, rfl, hQ (some i) _ hr⟩)
include ih in
theorem snd_C {ops : List CmpOp} {cs : List Expr} (h : cmpC g kp (n + 1) kd nm (.C ops cs) k = some code) : Snd K c (n + 1) kd nm (.C ops cs) k code := fun m s en S N R hc => by
  intro a hr Q hQ
  induction ops using List.casesOn with
  | nil => exact none_ok h
  | cons op ops => induction cs using List.casesOn with
    | nil => exact none_ok h
    | cons x cs => induction ops using List.casesOn with
      | nil => induction cs using List.casesOn with
        | nil => exact c_one (ih _ _ (.E x) _ _ h m _ en S N R hc hr _ fun b S1 hr => cmpR_ok hr fun r hr => hQ _ _ hr)
        | cons x2 cs => exact none_ok h
      | cons op2 ops => induction cs using List.casesOn with
        | nil => exact none_ok h
        | cons x2 cs =>
          obtain ⟨r, ha, h⟩ := bnd_ok h
          refine c_two (ih _ _ (.E x) _ _ h m _ en S N R hc hr _ fun b S1 hr => cmpR_ok hr fun q hr => ?_)
          induction q using Bool.casesOn with
          | true => exact ih _ _ (.C (op2 :: ops) (x2 :: cs)) _ _ ha m s en S1 _ R hc b hr _ fun b' S2 hr => hQ _ _ hr
          | false => exact hQ _ _ hr
include ih in
theorem snd_A {op : BoolOp} {es : List Expr} (h : cmpC g kp (n + 1) kd nm (.A op es) k = some code) : Snd K c (n + 1) kd nm (.A op es) k code := fun m s en S N R hc => by
  intro hr Q hQ
  induction es using List.casesOn with
  | nil => cases op with
    | And => cases some_ok h; exact a_and0 (hQ _ _ hr)
    | Or => cases some_ok h; exact a_or0 (hQ _ _ hr)
  | cons x es => induction es using List.casesOn with
    | nil =>
      obtain ⟨n', rfl⟩ := ihC_pos (t := .T x) h
      cases op with
      | And =>
        refine a_and (ih _ _ (.T x) _ _ h m s en S N R hc hr _ fun b S1 hr => ?_)
        induction b using Bool.casesOn with
        | true => exact hQ _ _ hr
        | false => exact hQ _ _ hr
      | Or =>
        refine a_or (ih _ _ (.T x) _ _ h m s en S N R hc hr _ fun b S1 hr => ?_)
        induction b using Bool.casesOn with
        | true => exact hQ _ _ hr
        | false => exact hQ _ _ hr
    | cons y es =>
      obtain ⟨r, ha, h⟩ := bnd_ok h
      cases op with
      | And =>
        refine a_and (ih _ _ (.T x) _ _ h m s en S N R hc hr _ fun b S1 hr => ?_)
        induction b using Bool.casesOn with
        | true => exact ih _ _ (.A .And (y :: es)) _ _ ha m s en S1 _ R hc hr _ fun b' S2 hr => hQ _ _ hr
        | false => exact hQ _ _ hr
      | Or =>
        refine a_or (ih _ _ (.T x) _ _ h m s en S N R hc hr _ fun b S1 hr => ?_)
        induction b using Bool.casesOn with
        | true => exact hQ _ _ hr
        | false => exact ih _ _ (.A .Or (y :: es)) _ _ ha m s en S1 _ R hc hr _ fun b' S2 hr => hQ _ _ hr
include ih in
theorem snd_B {op : BoolOp} {es : List Expr} (h : cmpC g kp (n + 1) kd nm (.B op es) k = some code) : Snd K c (n + 1) kd nm (.B op es) k code := fun m s en S N R hc => by
  intro hr Q hQ
  induction es using List.casesOn with
  | nil => exact none_ok h
  | cons x es => induction es using List.casesOn with
    | nil => exact b_last (ih _ _ (.E x) _ _ h m s en S N R hc hr _ hQ)
    | cons x2 es =>
      obtain ⟨r, ha, h⟩ := bnd_ok h
      cases op with
      | And =>
        refine b_and (ih _ _ (.E x) _ _ h m s en S N R hc hr _ fun v S1 hr => tstR_ok hr fun b hr => ?_)
        induction b using Bool.casesOn with
        | true => exact ih _ _ (.B .And (x2 :: es)) _ _ ha m s en S1 _ R hc hr _ fun b' S2 hr => hQ _ _ hr
        | false => exact hQ _ _ hr
      | Or =>
        refine b_or (ih _ _ (.E x) _ _ h m s en S N R hc hr _ fun v S1 hr => tstR_ok hr fun b hr => ?_)
        induction b using Bool.casesOn with
        | true => exact hQ _ _ hr
        | false => exact ih _ _ (.B .Or (x2 :: es)) _ _ ha m s en S1 _ R hc hr _ fun b' S2 hr => hQ _ _ hr
include ih in
theorem snd_T {e : Expr} (h : cmpC g kp (n + 1) kd nm (.T e) k = some code) : Snd K c (n + 1) kd nm (.T e) k code := fun m s en S N R hc => by
  intro hr Q hQ
  have key : plainT e = true → cmpC g kp n kd nm (.E e) (.tst k) = some code → wT K c (n + 1) kd m e S Q := fun h1 h =>
    t_else h1 (ih _ _ (.E e) _ _ h m s en S N R hc hr _ fun v S1 hr => tstR_ok hr fun b hr => hQ _ _ hr)
  induction e using PySem.Expr.casesOn with
  | UnaryOp op x p => induction op using PySem.UnaryOp.casesOn with
    | Not => exact t_not (ih _ _ (.T x) _ _ h m s en S N R hc hr _ fun b S1 hr => hQ _ _ hr)
    | _ => exact key rfl h
  | BoolOp op es p => exact t_bool (ih _ _ (.A op es) _ _ h m s en S N R hc hr _ hQ)
  | IfExp _ _ _ _ => exact none_ok h
  | Compare l ops cs p =>
    obtain ⟨h1, h⟩ := need_ok h
    obtain ⟨a, ha, h⟩ := bnd_ok h
    exact t_cmp h1 (ih _ _ (.E l) _ _ h m s en S N R hc hr _ fun v S1 hr => ih _ _ (.C ops cs) _ _ ha m s en S1 N R hc v hr _ hQ)
  | _ => exact key rfl h
include hg ih in
theorem snd_I {ik : Ik} {e : Expr} (h : cmpC g kp (n + 1) kd nm (.I ik e) k = some code) : Snd K c (n + 1) kd nm (.I ik e) k code := fun m s en S N R hc => by
  intro hr Q hQ
  have ty : ∀ {f : Str} {t : String}, typeNm g kd f t = true → nameV K kd m f = some (.vF (.type t)) := fun {f t} h => by
    unfold typeNm at h
    rw [Bool.and_eq_true] at h
    obtain ⟨h1, h2⟩ := h
    cases e : g.lookup f with
    | none => rw [e] at h2; cases h2
    | some v =>
      rw [e] at h2
      induction v using V.casesOn with
      | vF w => cases w with
        | type u => cases beq_iff_eq.mp h2; exact nameG (glob_kG h1) (hg _ _ e)
        | _ => cases h2
      | _ => cases h2
  induction ik using Ik.casesOn with
  | els =>
    obtain ⟨h1, h⟩ := need_ok h
    exact i_else h1 (ih _ _ (.E e) _ _ h m s en S N R hc hr _ fun v S1 hr => hQ _ _ hr)
  | enm => induction e using PySem.Expr.casesOn with
    | Call f args kws p => induction kws using List.casesOn with
      | nil => induction f using PySem.Expr.casesOn with
        | Name f p1 => induction args using List.casesOn with
          | nil => exact none_ok h
          | cons a as => induction as using List.casesOn with
            | cons b bs => exact none_ok h
            | nil =>
              obtain ⟨h1, h⟩ := need_ok h
              rw [Bool.and_eq_true] at h1
              refine i_enum h1.1 (ty h1.2) (ih _ _ (.Es [a]) _ _ h m s en S N R hc hr _ fun vs S1 hl hr => ?_)
              have hr : popN [a].length (pushL vs s) [] fun vs s => Run K c k (.vT vs :: s) en S1 N R := hr
              rw [← hl] at hr
              obtain ⟨l, xs, e1, e2, e3⟩ := hQ _ _ (popN_nil hr)
              exact ⟨l, xs, V.vT.inj e1, e2, e3⟩
        | _ => exact none_ok h
      | cons _ _ => exact none_ok h
    | _ => exact none_ok h
  | rng => induction e using PySem.Expr.casesOn with
    | Call f args kws p => induction kws using List.casesOn with
      | nil => induction f using PySem.Expr.casesOn with
        | Name f p1 => induction args using List.casesOn with
          | nil => exact none_ok h
          | cons a as => induction as using List.casesOn with
            | cons b bs =>
              obtain ⟨h1, h⟩ := need_ok h
              rw [Bool.and_eq_true, Bool.and_eq_true] at h1
              refine i_range h1.1.1 h1.1.2 (ty h1.2) (ih _ _ (.Es (a :: b :: bs)) _ _ h m s en S N R hc hr _ fun vs S1 hl hr => ?_)
              have hr : popN (a :: b :: bs).length (pushL vs s) [] fun vs s => Run K c k (.vT vs :: s) en S1 N R := hr
              rw [← hl] at hr
              exact hQ _ _ (popN_nil hr)
            | nil =>
              obtain ⟨h1, h⟩ := need_ok h
              rw [Bool.and_eq_true, Bool.and_eq_true] at h1
              refine i_range1 (by simpa using h1.1.1) h1.1.2 (ty h1.2) (ih _ _ (.Es [a]) _ _ h m s en S N R hc hr _ fun vs S1 hl hr => ?_)
              have hr : popN [a].length (pushL vs s) [] fun vs s => Run K c k (.vT vs :: s) en S1 N R := hr
              rw [← hl] at hr
              exact hQ _ _ (popN_nil hr)
        | _ => exact none_ok h
      | cons _ _ => exact none_ok h
    | _ => exact none_ok h
include hg hk ih in
theorem snd_E {e : Expr} (h : cmpC g kp (n + 1) kd nm (.E e) k = some code) : Snd K c (n + 1) kd nm (.E e) k code := by
  induction e using PySem.Expr.casesOn with
  | Constant v j p => exact snd_const h
  | Name x p => exact snd_name hg h
  | Subscript o i p => exact snd_sub ih h
  | Call f args kws p => induction kws using List.casesOn with
    | nil => induction f using PySem.Expr.casesOn with
      | Attribute o name ap => exact snd_meth ih h
      | Name f p1 => exact snd_call hg hk ih h
      | _ => exact none_ok h
    | cons _ _ => exact none_ok h
  | ListComp elt gens scope p => induction gens using List.casesOn with
    | nil => exact none_ok h
    | cons q qs => induction qs using List.casesOn with
      | cons _ _ => exact none_ok h
      | nil =>
        obtain ⟨t, it, ifs, asy⟩ := q
        induction t using PySem.Expr.casesOn with
        | Name x p1 =>
          obtain ⟨h1, h2⟩ := need_ok h
          rw [Bool.and_eq_true, Bool.and_eq_true] at h1
          obtain ⟨⟨h3, h4⟩, h5⟩ := h1
          have h4 : asy = 0 := of_decide_eq_true h4
          subst h4
          induction ifs using List.casesOn with
          | cons _ _ => cases h3
          | nil => exact snd_comp ih h
        | _ => exact none_ok h
  | BinOp l op r p => 
    exact fun m s en S N R hc hr Q hQ => by
      obtain ⟨a, ha, h⟩ := bnd_ok h
      exact s_bin (ih _ _ (.E l) _ _ h m s en S N R hc hr _ fun x S1 hr => ih _ _ (.E r) _ _ ha m _ en S1 N R hc hr _ fun y S2 hr => by
        have hr : binR op x y S2 fun v S' => Run K c k (v :: s) en S' N R := hr
        exact binR_ok hr hQ)
  | UnaryOp op x p => 
    exact fun m s en S N R hc hr Q hQ => by
      obtain ⟨h1, h⟩ := need_ok h
      induction op using PySem.UnaryOp.casesOn with
      | USub => exact s_neg (ih _ _ (.E x) _ _ h m s en S N R hc hr _ fun v S1 hr => by
          obtain ⟨i, rfl, hr⟩ := onI_ok hr
          exact ⟨i, rfl, hQ _ _ hr⟩)
      | _ => cases h1
  | IfExp t b o p => 
    exact fun m s en S N R hc hr Q hQ => by
      obtain ⟨cb, hb, h⟩ := bnd_ok h
      obtain ⟨co, ho, h⟩ := bnd_ok h
      refine s_ifexp (ih _ _ (.T t) _ _ h m s en S N R hc hr _ fun q S1 hr => ?_)
      induction q using Bool.casesOn with
      | true => exact ih _ _ (.E b) _ _ hb m s en S1 _ R hc hr _ hQ
      | false => exact ih _ _ (.E o) _ _ ho m s en S1 _ R hc hr _ hQ
  | BoolOp op es p => exact fun m s en S N R hc hr Q hQ => s_boolop (ih _ _ (.B op es) _ _ h m s en S N R hc hr _ hQ)
  | Compare l ops cs p => 
    exact fun m s en S N R hc hr Q hQ => by
      obtain ⟨h1, h⟩ := need_ok h
      obtain ⟨a, ha, h⟩ := bnd_ok h
      exact s_cmp h1 (ih _ _ (.E l) _ _ h m s en S N R hc hr _ fun v S1 hr => ih _ _ (.C ops cs) _ _ ha m s en S1 N R hc v hr _ fun b S2 hr => hQ _ _ hr)
  | Attribute o name p => 
    exact fun m s en S N R hc hr Q hQ => by
      obtain ⟨h1, h⟩ := need_ok h
      exact s_attr h1 (ih _ _ (.E o) _ _ h m s en S N R hc hr _ fun v S1 hr => hr _ fun w hr => hQ _ _ hr)
  | Tuple es j p => 
    exact fun m s en S N R hc hr Q hQ => by
      obtain ⟨h1, h⟩ := need_ok h
      refine s_tuple (of_decide_eq_true h1) (ih _ _ (.Es es) _ _ h m s en S N R hc hr _ fun vs S1 hl hr => ?_)
      have hr : popN es.length (pushL vs s) [] fun vs s => Run K c k (.vT vs :: s) en S1 N R := hr
      rw [← hl] at hr
      exact hQ _ _ (popN_nil hr)
  | List es p => 
    exact fun m s en S N R hc hr Q hQ => by
      obtain ⟨h1, h⟩ := need_ok h
      refine s_list (of_decide_eq_true h1) (ih _ _ (.Es es) _ _ h m s en S N R hc hr _ fun vs S1 hl hr => ?_)
      have hr : popN es.length (pushL vs s) [] fun vs s => ∀ r, Fresh S1 r → Run K c k (.vR r :: s) en (put S1 r (.lst vs)) N R := hr
      rw [← hl] at hr
      exact fun r hf => hQ _ _ (popN_nil hr r hf)
  | Dict ks es p => 
    exact fun m s en S N R hc hr Q hQ => by
      obtain ⟨h1, h⟩ := need_ok h
      obtain ⟨xs, hx, h⟩ := bnd_ok h
      obtain ⟨h2, h⟩ := need_ok h
      refine s_dict h1 (ih _ _ (.D ks es) _ _ h m s en S N R hc hr xs hx _ fun vs S1 hl hr => ?_)
      have hr : popN xs.length (pushL vs s) [] fun vs s => ∀ r, S1 r = none → Run K c k (.vR r :: s) en (put S1 r (.dict (xs.zip vs))) N R := hr
      rw [← hl] at hr
      exact ⟨by rw [List.map_fst_zip (Nat.le_of_eq hl.symm)]; exact of_decide_eq_true h2, fun r hf hn => hQ _ _ (popN_nil hr r hn)⟩
  | _ => exact none_ok h
end
end Mine
end
section
open PySem PySem.W PyProof.Rows
set_option maxRecDepth 100000
set_option linter.unusedVariables false
namespace Mine
section
variable {K : Frag} {c : Value → List V → St → (V → St → Prop) → Prop} {g : GT} {kp : Value → Bool} {n : Nat} {kd : Kd} {nm : List (Option Str)} {k code : Code}
theorem snd (hg : ∀ x v, g.lookup x = some v → glob K x = some v) (hk : ∀ v, kp v = true → keepOk K v = true) : ∀ n, IHC K c g kp n
  | 0, _, _, _, _, _, h => nomatch h
  | n + 1, kd, nm, t, k, code, h => by
    have ih := snd hg hk n
    cases t with
    | E e => exact snd_E hg hk ih h
    | T e => exact snd_T ih h
    | C ops cs => exact snd_C ih h
    | A op es => exact snd_A ih h
    | B op es => exact snd_B ih h
    | Es es => exact snd_Es ih h
    | D ks es => exact snd_D ih h
    | O o => exact snd_O ih h
    | I ik e => exact snd_I hg ih h
theorem itrW_mono' {ik : Ik} {v : V} {S : St} {f1 f2 : Itr → Prop} (hf : ∀ it, notEnm it = !decide (ik = .enm) → f1 it → f2 it) (h : itrW ik v S f1) : itrW ik v S f2 := by
  have : itrW ik v S fun it => notEnm it = (!decide (ik = .enm)) ∧ f1 it := by
    induction ik using Ik.casesOn with
    | rng => induction v using V.casesOn with
      | vT vs =>
        have h : rangeW vs fun ks => f1 (.rng ks) := h
        show rangeW vs fun ks => notEnm (.rng ks) = (!decide (Ik.rng = Ik.enm)) ∧ f1 (.rng ks)
        unfold rangeW at h ⊢
        split at h
        · exact ⟨h.1, h.2.1, rfl, h.2.2⟩
        · exact ⟨h.1, h.2.1, h.2.2.1, h.2.2.2.1, rfl, h.2.2.2.2⟩
        · exact ⟨h.1, h.2.1, h.2.2.1, h.2.2.2.1, h.2.2.2.2.1, rfl, h.2.2.2.2.2⟩
        · exact h
      | _ => exact h
    | enm =>
      obtain ⟨l, xs, h1, h2, h3⟩ := h
      exact ⟨l, xs, h1, h2, rfl, h3⟩
    | els => induction v using V.casesOn with
      | vR a =>
        obtain ⟨xs, h1, h2⟩ := h
        exact ⟨xs, h1, rfl, h2⟩
      | vT vs => exact ⟨rfl, h⟩
      | _ => exact h
  exact itrW_mono (fun it h => hf it h.1 h.2) this
theorem whileR_ok {R : V → St → Prop} {t1 : Env → St → (Bool → St → Prop) → Prop} {b1 : Env → St → (Env → St → Prop) → Prop} {t2 : MM → St → (Bool → St → Prop) → Prop} {b2 : MM → St → (Fl → MM → St → Prop) → Prop} {F : Env → St → Prop} {Q : Fl → MM → St → Prop}
    (ht : ∀ m en S (k1 k2 : Bool → St → Prop), Cor nm m en → t1 en S k1 → (∀ b S', k1 b S' → k2 b S') → t2 m S k2)
    (hb : ∀ m en S (Q1 : Env → St → Prop) (Q2 : Fl → MM → St → Prop), Cor nm m en → b1 en S Q1 → (∀ m' en' S', Cor nm m' en' → Q1 en' S' → Q2 .next m' S') → (∀ v m' S', R v S' → Q2 (.ret v) m' S') → b2 m S Q2)
    (hF : ∀ m en S, Cor nm m en → F en S → Q .next m S) (hR : ∀ v m S, R v S → Q (.ret v) m S) : ∀ n m en S, Cor nm m en → whileR t1 b1 n en S F → whileW t2 b2 n m S Q
  | 0, _, _, _, _, h => h
  | n + 1, m, en, S, hc, h => ht _ _ _ _ _ hc h fun b S' h => by
    induction b using Bool.casesOn with
    | true => exact hb _ _ _ _ _ hc h (fun m' en' S' hc h => whileR_ok ht hb hF hR n m' en' S' hc h) (fun v m' S' => hR v m' S')
    | false => exact hF _ _ _ hc h
theorem loopR_ok {chk : St → Prop} {R : V → St → Prop} {b1 : V → Env → St → (Env → St → Prop) → Prop} {b2 : V → MM → St → (Fl → MM → St → Prop) → Prop} {F : Env → St → Prop} {Q : Fl → MM → St → Prop}
    (hb : ∀ v m en S (Q1 : Env → St → Prop) (Q2 : Fl → MM → St → Prop), Cor nm m en → b1 v en S Q1 → (∀ m' en' S', Cor nm m' en' → Q1 en' S' → Q2 .next m' S') → (∀ v m' S', R v S' → Q2 (.ret v) m' S') → b2 v m S Q2)
    (hF : ∀ m en S, Cor nm m en → F en S → Q .next m S) (hR : ∀ v m S, R v S → Q (.ret v) m S) : ∀ xs m en S, Cor nm m en → loopR chk b1 xs en S F → loopW chk b2 xs m S Q
  | [], m, en, S, hc, h => ⟨h.1, hF _ _ _ hc h.2⟩
  | x :: xs, m, en, S, hc, h => ⟨h.1, hb _ _ _ _ _ _ hc h.2 (fun m' en' S' hc h => loopR_ok hb hF hR xs m' en' S' hc h) fun v m' S' => hR v m' S'⟩
noncomputable def SndX (K : Frag) (c : Value → List V → St → (V → St → Prop) → Prop) (n : Nat) (kd : Kd) (nm : List (Option Str)) (t : Sk) (k code : Code) : Prop :=
  ∀ (m : MM) (s : List V) (en : Env) (S : St) (N : List V → Env → St → Prop) (R : V → St → Prop), Cor nm m en → Run K c code s en S N R → ∀ Q : Fl → MM → St → Prop, (∀ m' en' S', Cor nm m' en' → Run K c k s en' S' N R → Q .next m' S') → (∀ v m' S', R v S' → Q (.ret v) m' S') →
    match t with
    | .X st => wX K c n kd m st S Q
    | .Xs ss => wXs K c n kd m ss S Q
abbrev IHX (K : Frag) (c : Value → List V → St → (V → St → Prop) → Prop) (g : GT) (kp : Value → Bool) (n : Nat) : Prop := ∀ kd nm t k code, cX g kp n kd nm t k = some code → SndX K c n kd nm t k code
variable (ihC : IHC K c g kp n) (ih : IHX K c g kp n)
include ihC in
theorem snd_asg {t : Expr} {a : Code} (h : cAsg g kp n kd nm t k = some a) {m : MM} {s : List V} {en : Env} {S : St} {N : List V → Env → St → Prop} {R : V → St → Prop} {v : V} (hc : Cor nm m en) (hr : Run K c a (v :: s) en S N R)
    {Q : MM → St → Prop} (hQ : ∀ m' en' S', Cor nm m' en' → Run K c k s en' S' N R → Q m' S') : wAsg K c n kd m t v S Q := by
  induction t using PySem.Expr.casesOn with
  | Name x p =>
    obtain ⟨h1, h⟩ := need_ok h
    obtain ⟨i, hi, h⟩ := bnd_ok h
    cases some_ok h
    exact ⟨h1, hQ _ _ _ (hc.set hi) hr⟩
  | Tuple ts j p =>
    obtain ⟨xs, hx, h⟩ := bnd_ok h
    obtain ⟨h1, h⟩ := need_ok h
    obtain ⟨is, hi, h⟩ := bnd_ok h
    cases some_ok h
    rw [Bool.and_eq_true] at h1
    have hr : onT v fun vs => setsE en is vs fun e' => Run K c k s e' S N R := hr
    induction v using V.casesOn with
    | vT vs =>
      obtain ⟨e', hl, hc', hr⟩ := Cor.sets hc hi hr
      exact ⟨xs, hx, of_decide_eq_true h1.1, h1.2, vs, rfl, hl, hQ _ _ _ hc' hr⟩
    | _ => exact hr.elim
  | Attribute o name p =>
    exact ihC _ _ (.E o) _ _ h m _ en S N R hc hr _ fun ov S1 hr => hr _ fun S2 hr => hQ _ _ _ hc hr
  | Subscript o i p =>
    obtain ⟨h1, h⟩ := need_ok h
    obtain ⟨b, hb, h⟩ := bnd_ok h
    exact ⟨h1, ihC _ _ (.E o) _ _ h m _ en S N R hc hr _ fun ov S1 hr => ihC _ _ (.E i) _ _ hb m _ en S1 N R hc hr _ fun iv S2 hr => hr _ fun S3 hr => hQ _ _ _ hc hr⟩
  | _ => exact none_ok h
theorem cTg_ok {ik : Ik} {t : Expr} {tg : Tg} (h : cTg kd nm ik t = some tg) {it : Itr} (hi : notEnm it = !decide (ik = .enm)) : tgtOk kd t it = true ∧ ∀ v m en F, Cor nm m en → bindR tg v en F → ∀ G : MM → Prop, (∀ m' en', Cor nm m' en' → F en' → G m') → bindT t v m G := by
  induction t using PySem.Expr.casesOn with
  | Name x p =>
    have h : (if (bindOk kd x && !(decide (ik = .enm))) = true then (ixN nm x).map .one else none) = some tg := h
    by_cases z : (bindOk kd x && !(decide (ik = .enm))) = true
    · rw [if_pos z] at h
      obtain ⟨i, e, rfl⟩ := Option.map_eq_some_iff.mp h
      exact ⟨(congrArg (bindOk kd x && ·) hi).trans z, fun v m en F hc hr G hG => hG _ _ (hc.set e) hr⟩
    · rw [if_neg z] at h; cases h
  | Tuple ts j p =>
    delta cTg at h; dsimp only at h
    delta tgtOk bindT; dsimp only
    cases e0 : twoOf (namesOf ts) with
    | none => rw [e0] at h; cases h
    | some xy =>
      obtain ⟨x, y⟩ := xy
      rw [e0] at h
      have h : (if (bindOk kd x && bindOk kd y && decide (x ≠ y) && decide (ik = .enm)) = true then (match ixN nm x with
        | some i => (ixN nm y).map fun j => Tg.two i j
        | none => none) else none) = some tg := h
      by_cases z : (bindOk kd x && bindOk kd y && decide (x ≠ y) && decide (ik = .enm)) = true
      · rw [if_pos z] at h
        cases e : ixN nm x with
        | none => rw [e] at h; cases h
        | some i =>
          rw [e] at h
          obtain ⟨j2, e2, rfl⟩ := Option.map_eq_some_iff.mp h
          refine ⟨?_, fun v m en F hc hr G hG => ?_⟩
          · show (bindOk kd x && bindOk kd y && decide (x ≠ y) && !(notEnm it)) = true
            rw [hi, Bool.not_not]; exact z
          · induction v using V.casesOn with
            | vT vs => induction vs using List.casesOn with
              | nil => exact hr.elim
              | cons a vs => induction vs using List.casesOn with
                | nil => exact hr.elim
                | cons b vs => induction vs using List.casesOn with
                  | cons _ _ => exact hr.elim
                  | nil => exact hG _ _ ((hc.set e).set e2) hr
            | _ => exact hr.elim
      · rw [if_neg z] at h; cases h
  | _ => exact nomatch (show (none : Option Tg) = some tg from h)
include ihC ih in
theorem snd_X {st : Stmt} (h : cX g kp (n + 1) kd nm (.X st) k = some code) : SndX K c (n + 1) kd nm (.X st) k code := fun m s en S N R hc hr Q hQ hR => by
  induction st using PySem.Stmt.casesOn with
  | Expr e p =>
    obtain ⟨h1, h⟩ := need_ok h
    refine x_expr h1 (ihC _ _ (.E e) _ _ h m s en S N R hc hr _ fun v S1 hr => ?_)
    induction v using V.casesOn with
    | vN => exact ⟨rfl, hQ _ _ _ hc hr⟩
    | _ => exact hr.elim
  | Return o p => induction o using Option.casesOn with
    | none => cases some_ok h; exact x_ret0 (hR _ _ _ hr)
    | some e => exact x_ret (ihC _ _ (.E e) _ _ h m s en S N R hc hr _ fun v S1 hr => hR _ _ _ hr)
  | Assign ts v p => induction ts using List.casesOn with
    | nil => exact none_ok h
    | cons t ts => induction ts using List.casesOn with
      | cons _ _ => exact none_ok h
      | nil =>
        obtain ⟨h1, h⟩ := need_ok h
        obtain ⟨a, ha, h⟩ := bnd_ok h
        exact x_asg h1 (ihC _ _ (.E v) _ _ h m s en S N R hc hr _ fun w S1 hr => snd_asg ihC ha hc hr fun m' en' S2 hc hr => hQ _ _ _ hc hr)
  | If t b o p =>
    obtain ⟨cb, hb, h⟩ := bnd_ok h
    obtain ⟨co, ho, h⟩ := bnd_ok h
    refine x_if (ihC _ _ (.T t) _ _ h m s en S N R hc hr _ fun q S1 hr => ?_)
    induction q using Bool.casesOn with
    | true => exact ih _ _ (.Xs b) _ _ hb m s en S1 _ R hc hr _ (fun m' en' S' hc hr => hQ _ _ _ hc hr) hR
    | false => exact ih _ _ (.Xs o) _ _ ho m s en S1 _ R hc hr _ (fun m' en' S' hc hr => hQ _ _ _ hc hr) hR
  | While t b o p => induction o using List.casesOn with
    | cons _ _ => exact none_ok h
    | nil =>
      obtain ⟨ct, ht, h⟩ := bnd_ok h
      obtain ⟨cb, hb, h⟩ := bnd_ok h
      cases some_ok h
      obtain ⟨q, hr⟩ := hr
      refine x_while ⟨q, whileR_ok (R := R) (fun m en S k1 k2 hc hr hk => ?_) (fun m en S Q1 Q2 hc hr h1 h2 => ?_) (fun m en S hc hr => hQ m en S hc hr) hR q m en S hc hr⟩
      · exact ihC _ _ (.T t) _ _ ht m [] en S _ _ hc hr _ fun b S' hr => hk _ _ hr
      · exact ih _ _ (.Xs b) _ _ hb m [] en S _ R hc hr _ (fun m' en' S' hc hr => h1 m' en' S' hc hr) h2
  | For t it b o p => induction o using List.casesOn with
    | cons _ _ => exact none_ok h
    | nil =>
      obtain ⟨tg, htg, h⟩ := bnd_ok h
      obtain ⟨cb, hb, h⟩ := bnd_ok h
      refine x_for (ihC _ _ (.I (itK it) it) _ _ h m s en S N R hc hr _ fun v S1 hr => ?_)
      have hr : itrW (itK it) v S1 fun it => loopR (itChk it) (fun v e S' Q' => bindR tg v e fun e' => Run K c cb [] e' S' (fun _ e'' S'' => Q' e'' S'') R) (itItems it) en S1 fun e' S' => Run K c k s e' S' N R := hr
      refine itrW_mono' (fun itr hi hr => ?_) hr
      obtain ⟨h1, h2⟩ := cTg_ok htg hi
      refine ⟨h1, loopR_ok (R := R) (fun v m en S Q1 Q2 hc hr q1 q2 => ?_) (fun m en S hc hr => hQ m en S hc hr) hR _ m en S1 hc hr⟩
      exact h2 v m en _ hc hr _ fun m' en' hc hr => ih _ _ (.Xs b) _ _ hb m' [] en' S _ R hc hr _ (fun m' en' S' hc hr => q1 m' en' S' hc hr) q2
  | _ => cases some_ok h; exact hr.elim
include ih in
theorem snd_Xs {ss : List Stmt} (h : cX g kp (n + 1) kd nm (.Xs ss) k = some code) : SndX K c (n + 1) kd nm (.Xs ss) k code := fun m s en S N R hc hr Q hQ hR => by
  induction ss using List.casesOn with
  | nil => cases some_ok h; exact x_end (hQ _ _ _ hc hr)
  | cons st ss =>
    obtain ⟨a, ha, h⟩ := bnd_ok h
    refine x_step fun R' hR' => ih _ _ (.X st) _ _ h m s en S N R hc hr _ (fun m' en' S' hc hr => hR' _ _ (ih _ _ (.Xs ss) _ _ ha m' s en' S' N R hc hr _ hQ hR)) hR
end
section
variable {K : Frag} {c : Value → List V → St → (V → St → Prop) → Prop} {g : GT} {kp : Value → Bool}
theorem sndX (hg : ∀ x v, g.lookup x = some v → glob K x = some v) (hk : ∀ v, kp v = true → keepOk K v = true) : ∀ n, IHX K c g kp n
  | 0, _, _, _, _, _, h => nomatch h
  | n + 1, kd, nm, t, k, code, h => by
    cases t with
    | X s => exact snd_X (snd hg hk n) (sndX hg hk n) h
    | Xs ss => exact snd_Xs (sndX hg hk n) h
end
end Mine
end
section
open PySem PySem.W PyProof.Rows
set_option maxRecDepth 100000
set_option linter.unusedVariables false
namespace Mine
noncomputable def plainP (fd : FuncData) : Bool := fd.params.posonlyargs.isEmpty && fd.params.kwonlyargs.isEmpty && fd.params.vararg.isNone && fd.params.kwarg.isNone && (match fd.defaults with
  | .none => true
  | _ => false) && decide (fd.params.args.map (·.arg)).Nodup
theorem zip_self : ∀ (xs : List Str) (ws : List Value), ws.length = xs.length → xs.Nodup → (xs.filterMap fun n => ((xs.zip ws).lookup n).map (n, ·)) = xs.zip ws
  | [], [], _, _ => rfl
  | x :: xs, w :: ws, hl, hn => by
    rw [List.nodup_cons] at hn
    have ih := zip_self xs ws (Nat.succ.inj hl) hn.2
    rw [List.zip_cons_cons, List.filterMap_cons, List.lookup_cons, beq_self_eq_true]
    show (x, w) :: _ = _
    congr 1
    have cong : ∀ (l : List Str) (f g : Str → Option (Str × Value)), (∀ y ∈ l, f y = g y) → l.filterMap f = l.filterMap g := fun l f g h => by
      induction l with
      | nil => rfl
      | cons y l ih => rw [List.filterMap_cons, List.filterMap_cons, h y List.mem_cons_self, ih fun z hz => h z (List.mem_cons_of_mem _ hz)]
    refine (cong _ _ _ fun y hy => ?_).trans ih
    rw [List.lookup_cons, show (y == x) = false from beq_eq_false_iff_ne.mpr (by rintro rfl; exact hn.1 hy)]
theorem none_out : ∀ (xs : List Str) (ws : List Value), ws.length = xs.length → ∀ y ∈ xs, ((xs.zip ws).lookup y).isNone = false
  | [], _, _, _, h => nomatch h
  | x :: xs, w :: ws, hl, y, hy => by
    rw [List.zip_cons_cons, List.lookup_cons]
    cases e : y == x with
    | true => rfl
    | false =>
      rw [List.mem_cons] at hy
      rcases hy with rfl | hy
      · simp at e
      · exact none_out xs ws (Nat.succ.inj hl) y hy
theorem bind_plain {fd : FuncData} (h : plainP fd = true) (ws : List Value) (hl : ws.length = (fd.params.args.map (·.arg)).length) : bindArgs fd ⟨ws, []⟩ = pure ((fd.params.args.map (·.arg)).zip ws) := by
  obtain ⟨nm, qn, ⟨pos, args, va, kwo, kwd, kwa, dfs⟩, body, scope, gl, cl, dft, kwdf, doc, pm, an, code, ct, bi⟩ := fd
  simp only [plainP, Bool.and_eq_true, List.isEmpty_iff, Option.isNone_iff_eq_none, decide_eq_true_eq] at h
  obtain ⟨⟨⟨⟨⟨rfl, rfl⟩, rfl⟩, rfl⟩, hd⟩, hn⟩ := h
  cases dft with
  | none =>
    obtain ⟨xs, hx⟩ : ∃ xs, xs = args.map (·.arg) := ⟨_, rfl⟩
    dsimp only at hl hn ⊢
    unfold bindArgs
    dsimp only
    rw [← hx] at hl hn ⊢
    have e1 : (xs.filter fun n => ((xs.zip ws).lookup n).isNone) = [] := List.filter_eq_nil_iff.mpr fun y hy => by rw [none_out xs ws hl y hy]; decide
    have e2 := zip_self xs ws hl hn
    simp [seqItems?, notAStandIn, e1, e2, hl, Nat.lt_irrefl]
  | _ => cases hd
end Mine
end
section
open PySem PySem.W PyProof.Rows
set_option maxRecDepth 100000
set_option linter.unusedVariables false
namespace Mine
noncomputable def GTab : GT := [(Str.ofString "max", .vF (.builtin "max")), (Str.ofString "min", .vF (.builtin "min")), (Str.ofString "len", .vF (.builtin "len")), (Str.ofString "list", .vF (.type "list")), (Str.ofString "int", .vF (.type "int")), (Str.ofString "tuple", .vF (.type "tuple")), (Str.ofString "range", .vF (.type "range")), (Str.ofString "enumerate", .vF (.type "enumerate")), (Str.ofString "clamp", .vF (.ref 62)), (Str.ofString "erased_pen", .vF (.ref 69)), (Str.ofString "blank_cell", .vF (.ref 76)), (Str.ofString "line_blanks", .vF (.ref 91)), (Str.ofString "right_half", .vF (.ref 98)), (Str.ofString "line_part", .vF (.ref 105)), (Str.ofString "Line", .vF (.ref 244)), (Str.ofString "Grid", .vF (.ref 393)), (Str.ofString "grid_cut", .vF (.ref 404)), (Str.ofString "grid_mended", .vF (.ref 411)), (Str.ofString "Cursor", .vF (.ref 456)), (Str.ofString "Margins", .vF (.ref 589)), (Str.ofString "moved", .vF (.ref 600)), (Str.ofString "_law_deck", .vF (.ref 605)), (Str.ofString "_law_draw", .vF (.ref 612)), (Str.ofString "_law_pick", .vF (.ref 619)), (Str.ofString "_law_pen", .vF (.ref 626)), (Str.ofString "_law_written", .vF (.ref 633)), (Str.ofString "_law_cut", .vF (.ref 640)), (Str.ofString "_law_scrolled", .vF (.ref 645)), (Str.ofString "_law_told", .vF (.ref 650)), (Str.ofString "_law_set", .vF (.ref 657)), (Str.ofString "_law_steps_right", .vF (.ref 664)), (Str.ofString "law", .vF (.ref 669)), (Str.ofString "PLAIN", .vT [.vI 0, .vI (-1), .vI (-1), .vI (-1), .vI 0]), (Str.ofString "BACK", .vI 2), (Str.ofString "NO_COLOUR", .vI (-1)), (Str.ofString "LINE_SIZES", .vT [.vS "single", .vS "wide", .vS "top", .vS "bottom"])]
noncomputable def kpL : List Addr := [62, 69, 76, 91, 98, 105, 244, 393, 404, 411, 456, 589, 600, 605, 612, 619, 626, 633, 640, 645, 650, 657, 664, 669]
noncomputable def kpT (v : Value) : Bool := match v with
  | .ref a => kpL.contains a
  | .type _ => true
  | .builtin _ => true
  | _ => false
noncomputable def allG (K : Frag) : GT → Prop
  | [] => True
  | (x, v) :: r => glob K x = some v ∧ allG K r
theorem allG_ok {K : Frag} : ∀ {g : GT}, allG K g → ∀ x v, g.lookup x = some v → glob K x = some v
  | [], _, _, _, h => nomatch h
  | (y, w) :: r, h, x, v, e => by
    rw [List.lookup_cons] at e
    cases z : x == y with
    | true => rw [z] at e; cases e; rw [beq_iff_eq.mp z]; exact h.1
    | false => rw [z] at e; exact allG_ok h.2 x v e
theorem GTab_ok (P : Params) : ∀ x v, GTab.lookup x = some v → glob (KK P) x = some v := allG_ok (g := GTab) ⟨g_max P, g_min P, g_len P, g_list P, g_int P, g_tuple P, g_range P, g_enumerate P, g_clamp P, g_erased_pen P, g_blank_cell P, g_line_blanks P, g_right_half P, g_line_part P, g_Line P, g_Grid P, g_grid_cut P, g_grid_mended P, g_Cursor P, g_Margins P, g_moved P, g_law_deck P, g_law_draw P, g_law_pick P, g_law_pen P, g_law_written P, g_law_cut P, g_law_scrolled P, g_law_told P, g_law_set P, g_law_steps_right P, g_law P, g_PLAIN P, g_BACK P, g_NO_COLOUR P, g_LINE_SIZES P, trivial⟩
noncomputable def allK (K : Frag) : List Addr → Prop
  | [] => True
  | a :: r => keepIn K (.ref a) = true ∧ allK K r
theorem allK_ok {K : Frag} : ∀ {l : List Addr}, allK K l → ∀ a, a ∈ l → keepIn K (.ref a) = true
  | b :: r, h, a, e => by
    rw [List.mem_cons] at e
    rcases e with rfl | e
    · exact h.1
    · exact allK_ok h.2 a e
theorem kpT_ok (P : Params) : ∀ v, kpT v = true → keepOk (KK P) v = true := fun v h => by
  cases v with
  | ref a => exact allK_ok (l := kpL) ⟨k_62 P, k_69 P, k_76 P, k_91 P, k_98 P, k_105 P, k_244 P, k_393 P, k_404 P, k_411 P, k_456 P, k_589 P, k_600 P, k_605 P, k_612 P, k_619 P, k_626 P, k_633 P, k_640 P, k_645 P, k_650 P, k_657 P, k_664 P, k_669 P, trivial⟩ a (by simpa [kpT] using h)
  | type t => rfl
  | builtin b => rfl
  | _ => cases h
/-- the code of a function of the fragment: its parameters, its other names, the code -/
noncomputable def restL (fd : FuncData) : List Str := ((fd.scope.names.filter fun y => y.2 == .local || y.2 == .cell).map (·.1)).filter fun x => !(fd.params.args.map (·.arg)).contains x
noncomputable def nmL (fd : FuncData) : List (Option Str) := (fd.params.args.map fun y => some y.arg) ++ (restL fd).map some
noncomputable def cBody (fd : FuncData) : Option Code := match fd.body with
  | .stmts body => cX GTab kpT 60 fd.scope.names (nmL fd) (.Xs body) (.const .vN .ret)
  | _ => none
noncomputable def cFn (K : Frag) (f : Addr) : Option (Nat × Nat × Code) := match fnData K f with
  | some fd => if (fnOk K fd && plainP fd && (fd.params.args.map (·.arg)).all (bindOk fd.scope.names)) = true then (cBody fd).map fun c => (fd.params.args.length, (restL fd).length, c) else none
  | none => none
noncomputable def noN : List V → Env → St → Prop := fun _ _ _ => False
theorem lk_rev {α : Type} {x : Str} : ∀ {l : List (Str × α)}, (l.map (·.1)).Nodup → l.reverse.lookup x = l.lookup x
  | [], _ => rfl
  | (y, v) :: r, h => by
    rw [List.map_cons, List.nodup_cons] at h
    rw [List.reverse_cons, List.lookup_append, lk_rev h.2, List.lookup_cons, List.lookup_cons, List.lookup_nil]
    cases z : x == y with
    | false => cases r.lookup x <;> rfl
    | true =>
      have : r.lookup x = none := by
        cases e : r.lookup x with
        | none => rfl
        | some w =>
          obtain ⟨l1, l2, e1, _⟩ := List.lookup_eq_some_iff.mp e
          exact absurd (List.mem_map.mpr ⟨(x, w), by rw [e1]; simp, rfl⟩) (beq_iff_eq.mp z ▸ h.1)
      rw [this]; rfl
theorem get_noE : ∀ {n i : Nat}, getE (noE n) i = none
  | 0, _ => rfl
  | n + 1, 0 => rfl
  | n + 1, i + 1 => get_noE (n := n)
theorem cor0 {x : Str} : ∀ {xs ys : List Str} {vs : List V} {e : Env} {i : Nat} {v : V}, vs.length = xs.length → (∀ i, getE e i = none) → ixN (xs.map some ++ ys.map some) x = some i → getE (initE vs e) i = some v → (xs.zip vs).lookup x = some v
  | [], ys, [], e, i, v, _, he, _, h => by rw [initE, he] at h; cases h
  | y :: xs, ys, w :: vs, e, i, v, hl, he, hx, h => by
    rw [List.map_cons, List.cons_append] at hx
    unfold ixN at hx
    rw [List.zip_cons_cons, List.lookup_cons]
    by_cases z : (some y == some x) = true
    · rw [if_pos z] at hx
      cases hx
      have z2 : y = x := by simpa using z
      subst z2
      rw [beq_self_eq_true]
      exact h
    · rw [if_neg z] at hx
      have z2 : (x == y) = false := by rw [beq_eq_false_iff_ne]; rintro rfl; simp at z
      rw [z2]
      cases q : ixN (xs.map some ++ ys.map some) x with
      | none => rw [q] at hx; cases hx
      | some j =>
        rw [q] at hx
        cases hx
        exact cor0 (Nat.succ.inj hl) he q h
theorem RC_x {P : Params} {d : Nat} {us : List V} {S : St} {Q : V → St → Prop} {code : Code} {fd : FuncData} {body : List Stmt} (hl : us.length = (fd.params.args.map (·.arg)).length) (nd : (fd.params.args.map (·.arg)).Nodup) (hb : fd.body = .stmts body) (e2 : cBody fd = some code)
    (hr : Run (KK P) (WC (KK P) d) code [] (initE us (noE (restL fd).length)) S noN Q) : wXs (KK P) (WC (KK P) d) FUEL fd.scope.names (fun x => ((fd.params.args.map (·.arg)).zip us).reverse.lookup x) body S fun f _ S' => Q (retV f) S' := by
  unfold cBody at e2
  rw [hb] at e2
  refine sndX (GTab_ok P) (kpT_ok P) 60 _ _ (.Xs body) _ _ e2 _ [] (initE us (noE (restL fd).length)) S noN Q ?_ hr _ ?_ ?_
  · intro x i v hi hv
    have nd : (((fd.params.args.map (·.arg)).zip us).map (·.1)).Nodup := by
      rw [List.map_fst_zip (Nat.le_of_eq hl.symm)]; exact nd
    show ((fd.params.args.map (·.arg)).zip us).reverse.lookup x = some v
    rw [lk_rev nd]
    refine cor0 (ys := restL fd) hl (fun i => get_noE) ?_ hv
    unfold nmL at hi
    rw [List.map_map]
    exact hi
  · intro m' en' S' _ hn
    exact hn
  · intro v m' S' h; exact h
theorem RC_core {P : Params} {d : Nat} {f : Addr} {vs us : List V} {S : St} {Q : V → St → Prop} {code : Code} {fd : FuncData} (e : fnData (KK P) f = some fd) (z1 : fnOk (KK P) fd = true) (hb : BindsV (KK P) fd vs ((fd.params.args.map (·.arg)).zip us)) (hl : us.length = (fd.params.args.map (·.arg)).length)
    (nd : (fd.params.args.map (·.arg)).Nodup) (z3 : (fd.params.args.map (·.arg)).all (bindOk fd.scope.names) = true) (e2 : cBody fd = some code) (hr : Run (KK P) (WC (KK P) d) code [] (initE us (noE (restL fd).length)) S noN Q) : WC (KK P) (d + 1) (.ref f) vs S Q := by
  have hb2 : ∃ body, fd.body = .stmts body := by
    unfold cBody at e2
    split at e2
    · rename_i body q; exact ⟨body, q⟩
    · cases e2
  obtain ⟨body, hb2⟩ := hb2
  show WC (KK P) (d + 1) (.ref f) vs S Q
  simp only [WC, e]
  refine ⟨z1, body, _, hb2, hb, ?_, RC_x hl nd hb2 e2 hr⟩
  refine List.all_eq_true.mpr fun b hb => ?_
  exact List.all_eq_true.mp z3 _ (List.of_mem_zip (a := b.1) (b := b.2) hb).1
theorem RC_w {P : Params} {d nr : Nat} {f : Addr} {vs : List V} {S : St} {Q : V → St → Prop} {code : Code} {fd : FuncData} {body : List Stmt} {xs : List Str} {oc : Value} {od : Option Addr} {osl : Array (Option Value)}
    (hF : (fnData (KK P) f).map (fun fd => (fd.params.args.map (·.arg), (restL fd).length, cBody fd)) = some (xs, nr, some code)) (nd : xs.Nodup) (hl : vs.length = xs.length) (h : (KK P).lookup f = some ⟨oc, od, .func fd, osl⟩) (hb : fd.body = .stmts body)
    (hr : Run (KK P) (WC (KK P) d) code [] (initE vs (noE nr)) S noN Q) : wXs (KK P) (WC (KK P) d) FUEL fd.scope.names (fun x => (xs.zip vs).reverse.lookup x) body S fun f _ S' => Q (retV f) S' := by
  have e : fnData (KK P) f = some fd := by unfold fnData; rw [h]
  rw [e, Option.map_some, Option.some.injEq, Prod.mk.injEq, Prod.mk.injEq] at hF
  obtain ⟨h1, h2, h3⟩ := hF
  subst h1 h2
  exact RC_x hl nd hb h3 hr
theorem RC_go {P : Params} {d nr : Nat} {f : Addr} {vs : List V} {S : St} {Q : V → St → Prop} {code : Code} (hF : cFn (KK P) f = some (vs.length, nr, code)) (hr : Run (KK P) (WC (KK P) d) code [] (initE vs (noE nr)) S noN Q) : WC (KK P) (d + 1) (.ref f) vs S Q := by
  unfold cFn at hF
  cases e : fnData (KK P) f with
  | none => rw [e] at hF; cases hF
  | some fd =>
    rw [e] at hF
    have hF : (if (fnOk (KK P) fd && plainP fd && (fd.params.args.map (·.arg)).all (bindOk fd.scope.names)) = true then (cBody fd).map fun c => (fd.params.args.length, (restL fd).length, c) else none) = some (vs.length, nr, code) := hF
    by_cases z : (fnOk (KK P) fd && plainP fd && (fd.params.args.map (·.arg)).all (bindOk fd.scope.names)) = true
    · rw [if_pos z] at hF
      rw [Bool.and_eq_true, Bool.and_eq_true] at z
      obtain ⟨⟨z1, z2⟩, z3⟩ := z
      cases e2 : cBody fd with
      | none => rw [e2] at hF; cases hF
      | some cd =>
        rw [e2] at hF
        simp only [Option.map_some, Option.some.injEq, Prod.mk.injEq] at hF
        obtain ⟨hl, h2, h3⟩ := hF
        subst h2 h3
        have hl : vs.length = (fd.params.args.map (·.arg)).length := by rw [List.length_map]; exact hl.symm
        have nd : (fd.params.args.map (·.arg)).Nodup := by
          unfold plainP at z2
          rw [Bool.and_eq_true] at z2
          exact of_decide_eq_true z2.2
        exact RC_core e z1 (bindsV_of _ hl (fun ws hw => bind_plain z2 ws hw)) hl nd z3 e2 hr
    · rw [if_neg z] at hF; cases hF
theorem RC_def {P : Params} {d nr : Nat} {f T : Addr} {vs us : List V} {S : St} {Q : V → St → Prop} {fd : FuncData} {code : Code} {o : Obj} {items : Array Value} {n : Nat} (ex : List V) (exW : List Value) (e : fnData (KK P) f = some fd)
    (hok : (fnOk (KK P) fd && (fd.params.args.map (·.arg)).all (bindOk fd.scope.names) && decide (fd.params.args.map (·.arg)).Nodup) = true) (hd : fd.defaults = .ref T) (ho : (KK P).lookup T = some o) (hs : o.data = .seq items n) (hex : ∀ h, RVs h ex exW) (hu : vs ++ ex = us) (hl : us.length = (fd.params.args.map (·.arg)).length)
    (hbv : ∀ ws : List Value, ws.length = vs.length → ∃ k, bindArgs fd ⟨ws, []⟩ = seqItems? fd.defaults >>= k ∧ k (some items) = pure ((fd.params.args.map (·.arg)).zip (ws ++ exW))) (hc : (cBody fd).map (fun c => ((restL fd).length, c)) = some (nr, code))
    (hr : Run (KK P) (WC (KK P) d) code [] (initE us (noE nr)) S noN Q) : WC (KK P) (d + 1) (.ref f) vs S Q := by
  rw [Bool.and_eq_true, Bool.and_eq_true] at hok
  subst hu
  obtain ⟨c, h1, h2⟩ := Option.map_eq_some_iff.mp hc
  cases h2
  exact RC_core e hok.1.1 (fun s ws X r => by
    obtain ⟨k, e1, e2⟩ := hbv ws r.length
    exact ⟨_, BindsTo.of_defaults hd (X _ _ ho) hs e1 e2, RBs.zip hl (r.app (hex _))⟩) hl (of_decide_eq_true hok.2) hok.1.2 h1 hr
end Mine
end
section
open PySem PySem.W PyProof.Rows
set_option maxRecDepth 100000
set_option linter.unusedVariables false
namespace Mine
/-- clamp [value, least, most] [] -/
noncomputable def code62 : Code := .load 1 <| .load 0 <| .load 2 <| .call (.builtin "min") 2 <| .call (.builtin "max") 2 <| .ret
theorem cf62 (P : Params) : cFn (KK P) 62 = some (3, 0, code62) := by kernel_rfl
/-- erased_pen [pen] [] -/
noncomputable def code69 : Code := .const (.vI 0) <| .const (.vI (-1)) <| .load 0 <| .const (.vI 2) <| .sub <| .const (.vI (-1)) <| .const (.vI 0) <| .tup 5 <| .ret
theorem cf69 (P : Params) : cFn (KK P) 69 = some (1, 0, code69) := by kernel_rfl
/-- blank_cell [pen] [] -/
noncomputable def code76 : Code := .tup 0 <| .const (.vI 1) <| .load 0 <| .call (.ref 69) 1 <| .const (.vB false) <| .tup 4 <| .ret
theorem cf76 (P : Params) : cFn (KK P) 76 = some (1, 0, code76) := by kernel_rfl
/-- line_blanks [many, pen] [] -/
noncomputable def code91 : Code := .load 1 <| .call (.ref 76) 1 <| .lst 1 <| .const (.vI 0) <| .load 0 <| .call (.builtin "max") 2 <| .bin .Mult <| .ret
theorem cf91 (P : Params) : cFn (KK P) 91 = some (2, 0, code91) := by kernel_rfl
/-- right_half [cell] [] -/
noncomputable def code98 : Code := .tup 0 <| .const (.vI 0) <| .load 0 <| .const (.vI 2) <| .sub <| .load 0 <| .const (.vI 3) <| .sub <| .tup 4 <| .ret
theorem cf98 (P : Params) : cFn (KK P) 98 = some (1, 0, code98) := by kernel_rfl
/-- line_part [cells, at] [] -/
noncomputable def code105 : Code := .const (.vI 0) <| .load 1 <| .keep .Lt <| .ite (.load 0 <| .call (.builtin "len") 1 <| .cmp .Lt <| .done) (.pop <| .const (.vB false) <| .done) <| .ite (.load 0 <| .load 1 <| .sub <| .const (.vI 1) <| .sub <| .const (.vI 0) <| .cmp .Eq <| .done) (.const (.vB false) <| .done) <| .ite (.load 0 <| .load 1 <| .const (.vI 1) <| .bin .Sub <| .sub <| .const (.vI 2) <| .sub <| .call (.ref 76) 1 <| .load 0 <| .load 1 <| .const (.vI 1) <| .bin .Sub <| .setit <| .load 0 <| .load 1 <| .sub <| .const (.vI 2) <| .sub <| .call (.ref 76) 1 <| .load 0 <| .load 1 <| .setit <| .done) (.done) <| .const .vN <| .ret
theorem cf105 (P : Params) : cFn (KK P) 105 = some (2, 0, code105) := by kernel_rfl
/-- __init__ [self, columns, pen] [] -/
noncomputable def code133 : Code := .load 1 <| .load 2 <| .call (.ref 91) 2 <| .load 0 <| .setat (Str.ofString "cells") <| .const (.vB false) <| .load 0 <| .setat (Str.ofString "is_wrapped") <| .const (.vT [(.vS (Str.ofString "single")), (.vS (Str.ofString "wide")), (.vS (Str.ofString "top")), (.vS (Str.ofString "bottom"))]) <| .const (.vI 0) <| .sub <| .load 0 <| .setat (Str.ofString "size") <| .const .vN <| .ret
theorem cf133 (P : Params) : cFn (KK P) 133 = some (3, 0, code133) := by kernel_rfl
/-- part [self, at] [] -/
noncomputable def code155 : Code := .load 0 <| .attr (Str.ofString "cells") <| .load 1 <| .call (.ref 105) 2 <| .drop <| .const .vN <| .ret
theorem cf155 (P : Params) : cFn (KK P) 155 = some (2, 0, code155) := by kernel_rfl
/-- put [self, column, cell] [] -/
noncomputable def code162 : Code := .const (.vI 0) <| .load 1 <| .keep .LtE <| .ite (.load 0 <| .attr (Str.ofString "cells") <| .call (.builtin "len") 1 <| .cmp .Lt <| .done) (.pop <| .const (.vB false) <| .done) <| .not <| .ite (.const (.vB true) <| .done) (.load 2 <| .const (.vI 1) <| .sub <| .const (.vI 0) <| .cmp .Eq <| .done) <| .ite (.const .vN <| .ret) (.done) <| .load 2 <| .const (.vI 1) <| .sub <| .const (.vI 2) <| .cmp .Eq <| .ite (.load 1 <| .const (.vI 1) <| .bin .Add <| .load 0 <| .attr (Str.ofString "cells") <| .call (.builtin "len") 1 <| .cmp .Eq <| .done) (.const (.vB false) <| .done) <| .ite (.load 2 <| .const (.vI 2) <| .sub <| .call (.ref 76) 1 <| .store 2 <| .done) (.done) <| .load 0 <| .meth (Str.ofString "part") 1 (.load 1 <| .done) <| .drop <| .load 0 <| .meth (Str.ofString "part") 1 (.load 1 <| .load 2 <| .const (.vI 1) <| .sub <| .bin .Add <| .done) <| .drop <| .load 2 <| .load 0 <| .attr (Str.ofString "cells") <| .load 1 <| .setit <| .load 2 <| .const (.vI 1) <| .sub <| .const (.vI 2) <| .cmp .Eq <| .ite (.load 2 <| .call (.ref 98) 1 <| .load 0 <| .attr (Str.ofString "cells") <| .load 1 <| .const (.vI 1) <| .bin .Add <| .setit <| .done) (.done) <| .const .vN <| .ret
theorem cf162 (P : Params) : cFn (KK P) 162 = some (3, 0, code162) := by kernel_rfl
/-- erase [self, left, right, pen, is_selective] [border, column] -/
noncomputable def code177 : Code := .const (.vI 0) <| .load 1 <| .call (.builtin "max") 2 <| .load 2 <| .load 0 <| .attr (Str.ofString "cells") <| .call (.builtin "len") 1 <| .const (.vI 1) <| .bin .Sub <| .call (.builtin "min") 2 <| .tup 2 <| .unpack [1, 2] <| .load 1 <| .load 2 <| .cmp .Gt <| .ite (.const .vN <| .ret) (.done) <| .load 1 <| .load 2 <| .const (.vI 1) <| .bin .Add <| .tup 2 <| .for_ .els (.one 5) (.load 5 <| .load 0 <| .attr (Str.ofString "cells") <| .call (.builtin "len") 1 <| .cmp .Lt <| .ite (.load 4 <| .tst <| .ite (.load 0 <| .attr (Str.ofString "cells") <| .load 5 <| .sub <| .const (.vI 3) <| .sub <| .tst <| .done) (.const (.vB false) <| .done) <| .not <| .done) (.const (.vB false) <| .done) <| .ite (.load 0 <| .meth (Str.ofString "part") 1 (.load 5 <| .done) <| .drop <| .done) (.done) <| .done) <| .load 1 <| .load 2 <| .const (.vI 1) <| .bin .Add <| .tup 2 <| .for_ .rng (.one 6) (.load 4 <| .tst <| .ite (.load 0 <| .attr (Str.ofString "cells") <| .load 6 <| .sub <| .const (.vI 3) <| .sub <| .tst <| .done) (.const (.vB false) <| .done) <| .not <| .ite (.load 3 <| .call (.ref 76) 1 <| .load 0 <| .attr (Str.ofString "cells") <| .load 6 <| .setit <| .done) (.done) <| .done) <| .load 2 <| .load 0 <| .attr (Str.ofString "cells") <| .call (.builtin "len") 1 <| .const (.vI 1) <| .bin .Sub <| .cmp .Eq <| .ite (.const (.vB false) <| .load 0 <| .setat (Str.ofString "is_wrapped") <| .done) (.done) <| .const .vN <| .ret
/-- __init__ [self, rows, columns] [] -/
noncomputable def code260 : Code := .load 1 <| .const (.vI 1) <| .cmp .Lt <| .ite (.const (.vB true) <| .done) (.load 2 <| .const (.vI 1) <| .cmp .Lt <| .done) <| .ite (.fail) (.done) <| .load 1 <| .load 0 <| .setat (Str.ofString "rows") <| .load 2 <| .load 0 <| .setat (Str.ofString "columns") <| .load 1 <| .tup 1 <| .comp .rng (.load 3 <| .const (.vT [(.vI 0), (.vI (-1)), (.vI (-1)), (.vI (-1)), (.vI 0)]) <| .call (.ref 244) 2 <| .done) <| .load 0 <| .setat (Str.ofString "lines") <| .const .vN <| .ret
theorem cf260 (P : Params) : cFn (KK P) 260 = some (3, 0, code260) := by kernel_rfl
/-- line [self, row] [] -/
noncomputable def code267 : Code := .load 0 <| .attr (Str.ofString "lines") <| .load 1 <| .sub <| .ret
theorem cf267 (P : Params) : cFn (KK P) 267 = some (2, 0, code267) := by kernel_rfl
/-- is_wide [self, area] [] -/
noncomputable def code281 : Code := .load 1 <| .const (.vI 1) <| .sub <| .const (.vI 0) <| .cmp .Eq <| .dup <| .tst <| .ite (.pop <| .load 1 <| .const (.vI 3) <| .sub <| .load 0 <| .attr (Str.ofString "columns") <| .const (.vI 1) <| .bin .Sub <| .cmp .Eq <| .done) (.done) <| .ret
theorem cf281 (P : Params) : cFn (KK P) 281 = some (2, 0, code281) := by kernel_rfl
/-- fresh [self, many, pen] [] -/
noncomputable def code286 : Code := .load 1 <| .tup 1 <| .comp .rng (.load 1 <| .attr (Str.ofString "columns") <| .load 3 <| .call (.ref 244) 2 <| .done) <| .ret
theorem cf286 (P : Params) : cFn (KK P) 286 = some (3, 0, code286) := by kernel_rfl
/-- part_above [self, row] [] -/
noncomputable def code293 : Code := .load 1 <| .const (.vI 0) <| .cmp .Gt <| .ite (.const (.vB false) <| .load 0 <| .attr (Str.ofString "lines") <| .load 1 <| .const (.vI 1) <| .bin .Sub <| .sub <| .setat (Str.ofString "is_wrapped") <| .done) (.done) <| .const .vN <| .ret
theorem cf293 (P : Params) : cFn (KK P) 293 = some (2, 0, code293) := by kernel_rfl
/-- scroll_up [self, area, many, pen] [top, left, bottom, right, row, gone, kept] -/
noncomputable def code300 : Code := .load 1 <| .unpack [4, 5, 6, 7] <| .load 2 <| .const (.vI 0) <| .load 6 <| .load 4 <| .bin .Sub <| .const (.vI 1) <| .bin .Add <| .call (.ref 62) 3 <| .store 2 <| .load 2 <| .const (.vI 0) <| .cmp .Eq <| .ite (.lst 0 <| .ret) (.done) <| .load 0 <| .meth (Str.ofString "is_wide") 1 (.load 1 <| .done) <| .tst <| .not <| .ite (.load 4 <| .load 6 <| .const (.vI 1) <| .bin .Add <| .load 2 <| .bin .Sub <| .tup 2 <| .for_ .rng (.one 8) (.load 0 <| .meth (Str.ofString "put_cells") 3 (.load 8 <| .load 5 <| .load 0 <| .meth (Str.ofString "cells_of") 3 (.load 8 <| .load 2 <| .bin .Add <| .load 5 <| .load 7 <| .done) <| .done) <| .drop <| .done) <| .load 0 <| .meth (Str.ofString "erase_area") 2 (.load 6 <| .const (.vI 1) <| .bin .Add <| .load 2 <| .bin .Sub <| .load 5 <| .load 6 <| .load 7 <| .tup 4 <| .load 3 <| .done) <| .drop <| .load 0 <| .meth (Str.ofString "unwrap") 1 (.load 1 <| .done) <| .drop <| .lst 0 <| .ret) (.done) <| .load 0 <| .attr (Str.ofString "lines") <| .load 4 <| .chk <| .load 4 <| .load 2 <| .bin .Add <| .chk <| .slice <| .store 9 <| .load 0 <| .attr (Str.ofString "lines") <| .load 4 <| .load 2 <| .bin .Add <| .chk <| .load 6 <| .const (.vI 1) <| .bin .Add <| .chk <| .slice <| .store 10 <| .load 0 <| .attr (Str.ofString "lines") <| .const .vN <| .load 4 <| .chk <| .slice <| .load 10 <| .bin .Add <| .load 0 <| .meth (Str.ofString "fresh") 2 (.load 2 <| .load 3 <| .done) <| .bin .Add <| .load 0 <| .attr (Str.ofString "lines") <| .load 6 <| .const (.vI 1) <| .bin .Add <| .chk <| .const .vN <| .slice <| .bin .Add <| .load 0 <| .setat (Str.ofString "lines") <| .load 0 <| .meth (Str.ofString "part_above") 1 (.load 4 <| .done) <| .drop <| .load 0 <| .meth (Str.ofString "part_above") 1 (.load 6 <| .const (.vI 1) <| .bin .Add <| .load 2 <| .bin .Sub <| .done) <| .drop <| .load 9 <| .ret
theorem cf300 (P : Params) : cFn (KK P) 300 = some (4, 7, code300) := by kernel_rfl
/-- scroll_down [self, area, many, pen] [top, left, bottom, right, kept, row] -/
noncomputable def code307 : Code := .load 1 <| .unpack [4, 5, 6, 7] <| .load 2 <| .const (.vI 0) <| .load 6 <| .load 4 <| .bin .Sub <| .const (.vI 1) <| .bin .Add <| .call (.ref 62) 3 <| .store 2 <| .load 2 <| .const (.vI 0) <| .cmp .Gt <| .ite (.load 0 <| .meth (Str.ofString "is_wide") 1 (.load 1 <| .done) <| .tst <| .done) (.const (.vB false) <| .done) <| .ite (.load 0 <| .attr (Str.ofString "lines") <| .load 4 <| .chk <| .load 6 <| .const (.vI 1) <| .bin .Add <| .load 2 <| .bin .Sub <| .chk <| .slice <| .store 8 <| .load 0 <| .attr (Str.ofString "lines") <| .const .vN <| .load 4 <| .chk <| .slice <| .load 0 <| .meth (Str.ofString "fresh") 2 (.load 2 <| .load 3 <| .done) <| .bin .Add <| .load 8 <| .bin .Add <| .load 0 <| .attr (Str.ofString "lines") <| .load 6 <| .const (.vI 1) <| .bin .Add <| .chk <| .const .vN <| .slice <| .bin .Add <| .load 0 <| .setat (Str.ofString "lines") <| .load 0 <| .meth (Str.ofString "part_above") 1 (.load 4 <| .done) <| .drop <| .load 0 <| .meth (Str.ofString "part_above") 1 (.load 6 <| .const (.vI 1) <| .bin .Add <| .done) <| .drop <| .done) (.load 2 <| .const (.vI 0) <| .cmp .Gt <| .ite (.load 6 <| .load 4 <| .load 2 <| .bin .Add <| .const (.vI 1) <| .bin .Sub <| .const (.vI 1) <| .neg <| .tup 3 <| .for_ .rng (.one 9) (.load 0 <| .meth (Str.ofString "put_cells") 3 (.load 9 <| .load 5 <| .load 0 <| .meth (Str.ofString "cells_of") 3 (.load 9 <| .load 2 <| .bin .Sub <| .load 5 <| .load 7 <| .done) <| .done) <| .drop <| .done) <| .load 0 <| .meth (Str.ofString "erase_area") 2 (.load 4 <| .load 5 <| .load 4 <| .load 2 <| .bin .Add <| .const (.vI 1) <| .bin .Sub <| .load 7 <| .tup 4 <| .load 3 <| .done) <| .drop <| .load 0 <| .meth (Str.ofString "unwrap") 1 (.load 1 <| .done) <| .drop <| .done) (.done) <| .done) <| .const .vN <| .ret
theorem cf307 (P : Params) : cFn (KK P) 307 = some (4, 6, code307) := by kernel_rfl
/-- unwrap [self, area] [row] -/
noncomputable def code314 : Code := .load 1 <| .const (.vI 3) <| .sub <| .load 0 <| .attr (Str.ofString "columns") <| .const (.vI 1) <| .bin .Sub <| .cmp .Eq <| .ite (.load 1 <| .const (.vI 0) <| .sub <| .load 1 <| .const (.vI 2) <| .sub <| .const (.vI 1) <| .bin .Add <| .tup 2 <| .for_ .rng (.one 2) (.const (.vB false) <| .load 0 <| .attr (Str.ofString "lines") <| .load 2 <| .sub <| .setat (Str.ofString "is_wrapped") <| .done) <| .done) (.done) <| .load 1 <| .const (.vI 1) <| .sub <| .const (.vI 0) <| .cmp .Eq <| .ite (.load 1 <| .const (.vI 0) <| .sub <| .load 1 <| .const (.vI 2) <| .sub <| .const (.vI 2) <| .bin .Add <| .tup 2 <| .for_ .rng (.one 2) (.load 0 <| .meth (Str.ofString "part_above") 1 (.load 2 <| .done) <| .drop <| .done) <| .done) (.done) <| .const .vN <| .ret
theorem cf314 (P : Params) : cFn (KK P) 314 = some (2, 1, code314) := by kernel_rfl
/-- cells_of [self, row, left, right] [] -/
noncomputable def code335 : Code := .load 0 <| .attr (Str.ofString "lines") <| .load 1 <| .sub <| .attr (Str.ofString "cells") <| .load 2 <| .chk <| .load 3 <| .const (.vI 1) <| .bin .Add <| .chk <| .slice <| .call (.ref 411) 1 <| .ret
theorem cf335 (P : Params) : cFn (KK P) 335 = some (4, 0, code335) := by kernel_rfl
/-- put_cells [self, row, column, cells] [line, end, step, cell] -/
noncomputable def code342 : Code := .load 0 <| .attr (Str.ofString "lines") <| .load 1 <| .sub <| .store 4 <| .load 2 <| .load 3 <| .call (.builtin "len") 1 <| .bin .Add <| .store 5 <| .load 3 <| .lst 0 <| .cmp .NotEq <| .ite (.load 4 <| .attr (Str.ofString "cells") <| .load 2 <| .sub <| .const (.vI 1) <| .sub <| .const (.vI 0) <| .cmp .Eq <| .ite (.load 4 <| .attr (Str.ofString "cells") <| .load 2 <| .const (.vI 1) <| .bin .Sub <| .sub <| .call (.ref 404) 1 <| .load 4 <| .attr (Str.ofString "cells") <| .load 2 <| .const (.vI 1) <| .bin .Sub <| .setit <| .done) (.done) <| .load 5 <| .load 0 <| .attr (Str.ofString "columns") <| .cmp .Lt <| .ite (.load 4 <| .attr (Str.ofString "cells") <| .load 5 <| .sub <| .const (.vI 1) <| .sub <| .const (.vI 0) <| .cmp .Eq <| .done) (.const (.vB false) <| .done) <| .ite (.load 4 <| .attr (Str.ofString "cells") <| .load 5 <| .sub <| .call (.ref 404) 1 <| .load 4 <| .attr (Str.ofString "cells") <| .load 5 <| .setit <| .done) (.done) <| .load 3 <| .tup 1 <| .for_ .enm (.two 6 7) (.load 7 <| .load 4 <| .attr (Str.ofString "cells") <| .load 2 <| .load 6 <| .bin .Add <| .setit <| .done) <| .done) (.done) <| .const .vN <| .ret
theorem cf342 (P : Params) : cFn (KK P) 342 = some (4, 4, code342) := by kernel_rfl
/-- erase_area [self, area, pen, is_selective] [top, left, bottom, right, row] -/
noncomputable def code350 : Code := .load 1 <| .unpack [4, 5, 6, 7] <| .load 4 <| .load 6 <| .const (.vI 1) <| .bin .Add <| .tup 2 <| .for_ .rng (.one 8) (.load 0 <| .attr (Str.ofString "lines") <| .load 8 <| .sub <| .meth (Str.ofString "erase") 4 (.load 5 <| .load 7 <| .load 2 <| .load 3 <| .done) <| .drop <| .load 7 <| .load 0 <| .attr (Str.ofString "columns") <| .const (.vI 1) <| .bin .Sub <| .cmp .Eq <| .ite (.const (.vB false) <| .load 0 <| .attr (Str.ofString "lines") <| .load 8 <| .sub <| .setat (Str.ofString "is_wrapped") <| .done) (.done) <| .done) <| .const .vN <| .ret
/-- grid_cut [cell] [] -/
noncomputable def code404 : Code := .load 0 <| .const (.vI 2) <| .sub <| .call (.ref 76) 1 <| .ret
theorem cf404 (P : Params) : cFn (KK P) 404 = some (1, 0, code404) := by kernel_rfl
/-- grid_mended [cells] [found] -/
noncomputable def code411 : Code := .load 0 <| .call (.type "list") 1 <| .store 1 <| .load 1 <| .lst 0 <| .cmp .NotEq <| .ite (.load 1 <| .const (.vI 0) <| .sub <| .const (.vI 1) <| .sub <| .const (.vI 0) <| .cmp .Eq <| .done) (.const (.vB false) <| .done) <| .ite (.load 1 <| .const (.vI 0) <| .sub <| .call (.ref 404) 1 <| .load 1 <| .const (.vI 0) <| .setit <| .done) (.done) <| .load 1 <| .lst 0 <| .cmp .NotEq <| .ite (.load 1 <| .const (.vI 1) <| .neg <| .sub <| .const (.vI 1) <| .sub <| .const (.vI 2) <| .cmp .Eq <| .done) (.const (.vB false) <| .done) <| .ite (.load 1 <| .const (.vI 1) <| .neg <| .sub <| .call (.ref 404) 1 <| .load 1 <| .const (.vI 1) <| .neg <| .setit <| .done) (.done) <| .load 1 <| .ret
theorem cf411 (P : Params) : cFn (KK P) 411 = some (1, 1, code411) := by kernel_rfl
/-- __init__ [self] [] -/
noncomputable def code425 : Code := .const (.vI 0) <| .load 0 <| .setat (Str.ofString "row") <| .const (.vI 0) <| .load 0 <| .setat (Str.ofString "column") <| .const (.vB false) <| .load 0 <| .setat (Str.ofString "is_waiting") <| .const (.vT [(.vI 0), (.vI (-1)), (.vI (-1)), (.vI (-1)), (.vI 0)]) <| .load 0 <| .setat (Str.ofString "pen") <| .const (.vB false) <| .load 0 <| .setat (Str.ofString "is_origin") <| .const (.vB false) <| .load 0 <| .setat (Str.ofString "is_guarding") <| .const .vN <| .ret
theorem cf425 (P : Params) : cFn (KK P) 425 = some (1, 0, code425) := by kernel_rfl
/-- go [self, row, column] [] -/
noncomputable def code439 : Code := .load 1 <| .load 0 <| .setat (Str.ofString "row") <| .load 2 <| .load 0 <| .setat (Str.ofString "column") <| .const (.vB false) <| .load 0 <| .setat (Str.ofString "is_waiting") <| .const .vN <| .ret
theorem cf439 (P : Params) : cFn (KK P) 439 = some (3, 0, code439) := by kernel_rfl
/-- place [self] [] -/
noncomputable def code446 : Code := .load 0 <| .attr (Str.ofString "row") <| .load 0 <| .attr (Str.ofString "column") <| .tup 2 <| .ret
theorem cf446 (P : Params) : cFn (KK P) 446 = some (1, 0, code446) := by kernel_rfl
/-- __init__ [self, rows, columns] [] -/
noncomputable def code474 : Code := .load 1 <| .load 0 <| .setat (Str.ofString "rows") <| .load 2 <| .load 0 <| .setat (Str.ofString "columns") <| .const (.vI 0) <| .load 0 <| .setat (Str.ofString "top") <| .load 1 <| .const (.vI 1) <| .bin .Sub <| .load 0 <| .setat (Str.ofString "bottom") <| .const (.vI 0) <| .load 0 <| .setat (Str.ofString "left") <| .load 2 <| .const (.vI 1) <| .bin .Sub <| .load 0 <| .setat (Str.ofString "right") <| .const .vN <| .ret
theorem cf474 (P : Params) : cFn (KK P) 474 = some (3, 0, code474) := by kernel_rfl
/-- set_rows [self, top, bottom] [is_right] -/
noncomputable def code481 : Code := .const (.vI 0) <| .load 1 <| .keep .LtE <| .ite (.load 2 <| .keep .Lt <| .ite (.load 0 <| .attr (Str.ofString "rows") <| .cmp .Lt <| .done) (.pop <| .const (.vB false) <| .done) <| .done) (.pop <| .const (.vB false) <| .done) <| .dup <| .tst <| .ite (.done) (.pop <| .load 1 <| .const (.vI 0) <| .cmp .Eq <| .dup <| .tst <| .ite (.pop <| .load 2 <| .load 0 <| .attr (Str.ofString "rows") <| .const (.vI 1) <| .bin .Sub <| .cmp .Eq <| .done) (.done) <| .done) <| .store 3 <| .load 3 <| .tst <| .ite (.load 1 <| .load 0 <| .setat (Str.ofString "top") <| .load 2 <| .load 0 <| .setat (Str.ofString "bottom") <| .done) (.done) <| .load 3 <| .ret
theorem cf481 (P : Params) : cFn (KK P) 481 = some (3, 1, code481) := by kernel_rfl
/-- set_columns [self, left, right] [is_right] -/
noncomputable def code488 : Code := .const (.vI 0) <| .load 1 <| .keep .LtE <| .ite (.load 2 <| .keep .Lt <| .ite (.load 0 <| .attr (Str.ofString "columns") <| .cmp .Lt <| .done) (.pop <| .const (.vB false) <| .done) <| .done) (.pop <| .const (.vB false) <| .done) <| .dup <| .tst <| .ite (.done) (.pop <| .load 1 <| .const (.vI 0) <| .cmp .Eq <| .dup <| .tst <| .ite (.pop <| .load 2 <| .load 0 <| .attr (Str.ofString "columns") <| .const (.vI 1) <| .bin .Sub <| .cmp .Eq <| .done) (.done) <| .done) <| .store 3 <| .load 3 <| .tst <| .ite (.load 1 <| .load 0 <| .setat (Str.ofString "left") <| .load 2 <| .load 0 <| .setat (Str.ofString "right") <| .done) (.done) <| .load 3 <| .ret
theorem cf488 (P : Params) : cFn (KK P) 488 = some (3, 1, code488) := by kernel_rfl
/-- area [self] [] -/
noncomputable def code516 : Code := .load 0 <| .attr (Str.ofString "top") <| .load 0 <| .attr (Str.ofString "left") <| .load 0 <| .attr (Str.ofString "bottom") <| .load 0 <| .attr (Str.ofString "right") <| .tup 4 <| .ret
theorem cf516 (P : Params) : cFn (KK P) 516 = some (1, 0, code516) := by kernel_rfl
/-- holds [self, row, column] [] -/
noncomputable def code523 : Code := .load 0 <| .meth (Str.ofString "holds_row") 1 (.load 1 <| .done) <| .dup <| .tst <| .ite (.pop <| .load 0 <| .meth (Str.ofString "holds_column") 1 (.load 2 <| .done) <| .done) (.done) <| .ret
theorem cf523 (P : Params) : cFn (KK P) 523 = some (3, 0, code523) := by kernel_rfl
/-- holds_row [self, row] [] -/
noncomputable def code530 : Code := .load 0 <| .attr (Str.ofString "top") <| .load 1 <| .keep .LtE <| .ite (.load 0 <| .attr (Str.ofString "bottom") <| .cmp .LtE <| .done) (.pop <| .const (.vB false) <| .done) <| .ret
theorem cf530 (P : Params) : cFn (KK P) 530 = some (2, 0, code530) := by kernel_rfl
/-- holds_column [self, column] [] -/
noncomputable def code537 : Code := .load 0 <| .attr (Str.ofString "left") <| .load 1 <| .keep .LtE <| .ite (.load 0 <| .attr (Str.ofString "right") <| .cmp .LtE <| .done) (.pop <| .const (.vB false) <| .done) <| .ret
theorem cf537 (P : Params) : cFn (KK P) 537 = some (2, 0, code537) := by kernel_rfl
/-- first_row [self, row] [] -/
noncomputable def code558 : Code := .load 1 <| .load 0 <| .attr (Str.ofString "top") <| .cmp .GtE <| .ite (.load 0 <| .attr (Str.ofString "top") <| .done) (.const (.vI 0) <| .done) <| .ret
theorem cf558 (P : Params) : cFn (KK P) 558 = some (2, 0, code558) := by kernel_rfl
/-- last_row [self, row] [] -/
noncomputable def code565 : Code := .load 1 <| .load 0 <| .attr (Str.ofString "bottom") <| .cmp .LtE <| .ite (.load 0 <| .attr (Str.ofString "bottom") <| .done) (.load 0 <| .attr (Str.ofString "rows") <| .const (.vI 1) <| .bin .Sub <| .done) <| .ret
theorem cf565 (P : Params) : cFn (KK P) 565 = some (2, 0, code565) := by kernel_rfl
/-- first_column [self, column] [] -/
noncomputable def code572 : Code := .load 1 <| .load 0 <| .attr (Str.ofString "left") <| .cmp .GtE <| .ite (.load 0 <| .attr (Str.ofString "left") <| .done) (.const (.vI 0) <| .done) <| .ret
theorem cf572 (P : Params) : cFn (KK P) 572 = some (2, 0, code572) := by kernel_rfl
/-- last_column [self, column] [] -/
noncomputable def code579 : Code := .load 1 <| .load 0 <| .attr (Str.ofString "right") <| .cmp .LtE <| .ite (.load 0 <| .attr (Str.ofString "right") <| .done) (.load 0 <| .attr (Str.ofString "columns") <| .const (.vI 1) <| .bin .Sub <| .done) <| .ret
theorem cf579 (P : Params) : cFn (KK P) 579 = some (2, 0, code579) := by kernel_rfl
/-- moved [cursor, margins, rows, columns] [row, column] -/
noncomputable def code600 : Code := .load 0 <| .attr (Str.ofString "row") <| .load 2 <| .bin .Add <| .load 1 <| .meth (Str.ofString "first_row") 1 (.load 0 <| .attr (Str.ofString "row") <| .done) <| .load 1 <| .meth (Str.ofString "last_row") 1 (.load 0 <| .attr (Str.ofString "row") <| .done) <| .call (.ref 62) 3 <| .store 4 <| .load 0 <| .attr (Str.ofString "column") <| .load 3 <| .bin .Add <| .load 1 <| .meth (Str.ofString "first_column") 1 (.load 0 <| .attr (Str.ofString "column") <| .done) <| .load 1 <| .meth (Str.ofString "last_column") 1 (.load 0 <| .attr (Str.ofString "column") <| .done) <| .call (.ref 62) 3 <| .store 5 <| .load 0 <| .meth (Str.ofString "go") 2 (.load 4 <| .load 5 <| .done) <| .drop <| .const .vN <| .ret
theorem cf600 (P : Params) : cFn (KK P) 600 = some (4, 2, code600) := by kernel_rfl
/-- _law_deck [script] [cell, cells, mixed] -/
noncomputable def code605 : Code := .load 0 <| .const .vN <| .const (.vI 20) <| .chk <| .slice <| .comp .els (.load 0 <| .call (.type "int") 1 <| .done) <| .const (.vI 3333) <| .tup 2 <| .unpack [2, 3] <| .load 2 <| .for_ .els (.one 1) (.load 3 <| .const (.vI 48271) <| .bin .Mult <| .load 1 <| .const (.vI 2147483629) <| .bin .Mod <| .bin .Add <| .const (.vI 3333) <| .bin .Add <| .const (.vI 2147483587) <| .bin .Mod <| .store 3 <| .done) <| .load 2 <| .const (.vI 1) <| .neg <| .rev <| .load 3 <| .const (.vI 0) <| .dict [(Str.ofString "cells"), (Str.ofString "mixed"), (Str.ofString "turn")] <| .ret
theorem cf605 (P : Params) : cFn (KK P) 605 = some (1, 3, code605) := by kernel_rfl
/-- _law_draw [deck, below] [figure, cell] -/
noncomputable def code612 : Code := .load 0 <| .const (.vS (Str.ofString "turn")) <| .sub <| .const (.vI 1) <| .bin .Add <| .load 0 <| .const (.vS (Str.ofString "turn")) <| .setit <| .load 0 <| .const (.vS (Str.ofString "mixed")) <| .sub <| .const (.vI 61613) <| .load 0 <| .const (.vS (Str.ofString "turn")) <| .sub <| .bin .Mult <| .load 0 <| .const (.vS (Str.ofString "turn")) <| .sub <| .bin .Mult <| .bin .Add <| .store 2 <| .load 0 <| .const (.vS (Str.ofString "cells")) <| .sub <| .lst 0 <| .cmp .NotEq <| .ite (.load 0 <| .const (.vS (Str.ofString "cells")) <| .sub <| .meth (Str.ofString "pop") 0 (.done) <| .store 3 <| .load 3 <| .const (.vI 1000000) <| .cmp .GtE <| .ite (.load 0 <| .const (.vS (Str.ofString "cells")) <| .sub <| .meth (Str.ofString "append") 1 (.load 3 <| .load 1 <| .bin .FloorDiv <| .done) <| .drop <| .load 3 <| .load 1 <| .bin .Mod <| .ret) (.done) <| .load 2 <| .load 3 <| .const (.vI 2147483563) <| .bin .Mod <| .bin .Add <| .store 2 <| .done) (.done) <| .load 2 <| .const (.vI 2147483629) <| .bin .Mod <| .const (.vI 40692) <| .bin .Mult <| .const (.vI 2147483647) <| .bin .Mod <| .store 2 <| .load 2 <| .load 2 <| .bin .Mult <| .const (.vI 1951) <| .bin .Add <| .const (.vI 2147483587) <| .bin .Mod <| .store 2 <| .load 2 <| .const (.vI 39373) <| .bin .Mult <| .const (.vI 2147483579) <| .bin .Mod <| .const (.vI 64) <| .bin .FloorDiv <| .load 1 <| .bin .Mod <| .ret
theorem cf612 (P : Params) : cFn (KK P) 612 = some (2, 2, code612) := by kernel_rfl
/-- _law_pick [deck, some] [] -/
noncomputable def code619 : Code := .load 1 <| .load 0 <| .load 1 <| .call (.builtin "len") 1 <| .call (.ref 612) 2 <| .sub <| .ret
theorem cf619 (P : Params) : cFn (KK P) 619 = some (2, 0, code619) := by kernel_rfl
/-- _law_pen [deck] [] -/
noncomputable def code626 : Code := .const (.vI 0) <| .const (.vI 1) <| .neg <| .load 0 <| .const (.vI 1) <| .neg <| .const (.vI 1) <| .const (.vI 4) <| .lst 3 <| .call (.ref 619) 2 <| .const (.vI 1) <| .neg <| .const (.vI 0) <| .tup 5 <| .ret
theorem cf626 (P : Params) : cFn (KK P) 626 = some (1, 0, code626) := by kernel_rfl
/-- _law_written [deck, rows, columns] [grid, found, row, line, column, pen, sign, width] -/
noncomputable def code633 : Code := .load 1 <| .load 2 <| .call (.ref 393) 2 <| .lst 0 <| .tup 2 <| .unpack [3, 4] <| .load 1 <| .tup 1 <| .for_ .rng (.one 5) (.lst 0 <| .const (.vI 0) <| .tup 2 <| .unpack [6, 7] <| .loop (.load 7 <| .load 2 <| .cmp .Lt <| .done) (.load 0 <| .call (.ref 626) 1 <| .const (.vI 97) <| .load 0 <| .const (.vI 6) <| .call (.ref 612) 2 <| .bin .Add <| .tup 2 <| .unpack [8, 9] <| .load 7 <| .const (.vI 1) <| .bin .Add <| .load 2 <| .cmp .Lt <| .ite (.load 0 <| .const (.vI 3) <| .call (.ref 612) 2 <| .const (.vI 0) <| .cmp .Eq <| .done) (.const (.vB false) <| .done) <| .ite (.const (.vI 2) <| .done) (.const (.vI 1) <| .done) <| .store 10 <| .load 3 <| .meth (Str.ofString "line") 1 (.load 5 <| .done) <| .meth (Str.ofString "put") 2 (.load 7 <| .load 9 <| .tup 1 <| .load 10 <| .load 8 <| .const (.vB false) <| .tup 4 <| .done) <| .drop <| .load 6 <| .meth (Str.ofString "append") 1 (.load 9 <| .tup 1 <| .load 10 <| .load 8 <| .const (.vB false) <| .tup 4 <| .done) <| .drop <| .load 10 <| .const (.vI 2) <| .cmp .Eq <| .ite (.load 6 <| .meth (Str.ofString "append") 1 (.tup 0 <| .const (.vI 0) <| .load 8 <| .const (.vB false) <| .tup 4 <| .done) <| .drop <| .done) (.done) <| .load 7 <| .load 10 <| .bin .Add <| .store 7 <| .done) <| .load 4 <| .meth (Str.ofString "append") 1 (.load 6 <| .done) <| .drop <| .done) <| .load 3 <| .load 4 <| .tup 2 <| .ret
theorem cf633 (P : Params) : cFn (KK P) 633 = some (3, 8, code633) := by kernel_rfl
/-- _law_cut [line, at] [blank] -/
noncomputable def code640 : Code := .load 1 <| .load 0 <| .call (.builtin "len") 1 <| .cmp .Lt <| .ite (.load 0 <| .load 1 <| .sub <| .const (.vI 1) <| .sub <| .const (.vI 0) <| .cmp .Eq <| .done) (.const (.vB false) <| .done) <| .ite (.load 0 <| .load 1 <| .sub <| .const (.vI 2) <| .sub <| .call (.ref 76) 1 <| .store 2 <| .load 0 <| .const .vN <| .load 1 <| .const (.vI 1) <| .bin .Sub <| .chk <| .slice <| .load 2 <| .load 2 <| .lst 2 <| .bin .Add <| .load 0 <| .load 1 <| .const (.vI 1) <| .bin .Add <| .chk <| .const .vN <| .slice <| .bin .Add <| .ret) (.done) <| .load 0 <| .ret
theorem cf640 (P : Params) : cFn (KK P) 640 = some (2, 1, code640) := by kernel_rfl
/-- _law_scrolled [cells, area, many, pen, is_up] [top, left, bottom, right, is_whole, found, row, line, inner, k, fresh, part] -/
noncomputable def code645 : Code := .load 1 <| .unpack [5, 6, 7, 8] <| .load 6 <| .const (.vI 0) <| .cmp .Eq <| .dup <| .tst <| .ite (.pop <| .load 8 <| .const (.vI 1) <| .bin .Add <| .load 0 <| .const (.vI 0) <| .sub <| .call (.builtin "len") 1 <| .cmp .Eq <| .done) (.done) <| .store 9 <| .lst 0 <| .store 10 <| .load 0 <| .tup 1 <| .for_ .enm (.two 11 12) (.load 10 <| .meth (Str.ofString "append") 1 (.load 5 <| .load 11 <| .keep .LtE <| .ite (.load 7 <| .cmp .LtE <| .done) (.pop <| .const (.vB false) <| .done) <| .ite (.load 12 <| .load 6 <| .call (.ref 640) 2 <| .load 8 <| .const (.vI 1) <| .bin .Add <| .call (.ref 640) 2 <| .done) (.load 12 <| .done) <| .done) <| .drop <| .done) <| .load 10 <| .load 5 <| .chk <| .load 7 <| .const (.vI 1) <| .bin .Add <| .chk <| .slice <| .comp .els (.load 0 <| .load 7 <| .chk <| .load 9 <| .const (.vI 1) <| .bin .Add <| .chk <| .slice <| .done) <| .store 13 <| .load 2 <| .load 13 <| .call (.builtin "len") 1 <| .call (.builtin "min") 2 <| .store 2 <| .load 2 <| .tup 1 <| .comp .rng (.load 4 <| .call (.ref 76) 1 <| .lst 1 <| .load 9 <| .const (.vI 1) <| .bin .Add <| .load 7 <| .bin .Sub <| .bin .Mult <| .done) <| .store 15 <| .load 4 <| .tst <| .ite (.load 13 <| .load 2 <| .chk <| .const .vN <| .slice <| .load 15 <| .bin .Add <| .done) (.load 15 <| .load 13 <| .const .vN <| .load 13 <| .call (.builtin "len") 1 <| .load 2 <| .bin .Sub <| .chk <| .slice <| .bin .Add <| .done) <| .store 13 <| .load 13 <| .tup 1 <| .for_ .enm (.two 14 16) (.load 10 <| .load 5 <| .load 14 <| .bin .Add <| .sub <| .const .vN <| .load 6 <| .chk <| .slice <| .load 16 <| .bin .Add <| .load 10 <| .load 5 <| .load 14 <| .bin .Add <| .sub <| .load 8 <| .const (.vI 1) <| .bin .Add <| .chk <| .const .vN <| .slice <| .bin .Add <| .load 10 <| .load 5 <| .load 14 <| .bin .Add <| .setit <| .done) <| .load 10 <| .load 9 <| .tst <| .ite (.load 4 <| .tst <| .done) (.const (.vB false) <| .done) <| .ite (.load 0 <| .load 5 <| .chk <| .load 5 <| .load 2 <| .bin .Add <| .chk <| .slice <| .done) (.lst 0 <| .done) <| .tup 2 <| .ret
theorem cf645 (P : Params) : cFn (KK P) 645 = some (5, 12, code645) := by kernel_rfl
/-- _law_told [grid] [] -/
noncomputable def code650 : Code := .load 0 <| .attr (Str.ofString "lines") <| .comp .els (.load 0 <| .attr (Str.ofString "cells") <| .call (.type "list") 1 <| .done) <| .ret
theorem cf650 (P : Params) : cFn (KK P) 650 = some (1, 0, code650) := by kernel_rfl
/-- _law_set [deck, margins, rows, columns, area] [top, left, bottom, right, is_rows, size, low, high, is_good, told] -/
noncomputable def code657 : Code := .load 4 <| .unpack [5, 6, 7, 8] <| .load 0 <| .const (.vI 2) <| .call (.ref 612) 2 <| .const (.vI 0) <| .cmp .Eq <| .store 9 <| .load 9 <| .tst <| .ite (.load 2 <| .done) (.load 3 <| .done) <| .store 10 <| .load 0 <| .load 10 <| .call (.ref 612) 2 <| .load 0 <| .load 10 <| .call (.ref 612) 2 <| .tup 2 <| .unpack [11, 12] <| .load 11 <| .load 12 <| .cmp .Lt <| .dup <| .tst <| .ite (.done) (.pop <| .load 11 <| .load 12 <| .tup 2 <| .const (.vI 0) <| .load 10 <| .const (.vI 1) <| .bin .Sub <| .tup 2 <| .cmp .Eq <| .done) <| .store 13 <| .load 9 <| .tst <| .ite (.load 1 <| .meth (Str.ofString "set_rows") 2 (.load 11 <| .load 12 <| .done) <| .done) (.load 1 <| .meth (Str.ofString "set_columns") 2 (.load 11 <| .load 12 <| .done) <| .done) <| .store 14 <| .load 14 <| .load 13 <| .cmp .IsNot <| .ite (.const .vN <| .ret) (.done) <| .load 13 <| .tst <| .not <| .ite (.load 4 <| .ret) (.done) <| .load 9 <| .tst <| .ite (.load 11 <| .load 6 <| .load 12 <| .load 8 <| .tup 4 <| .done) (.load 5 <| .load 11 <| .load 7 <| .load 12 <| .tup 4 <| .done) <| .ret
theorem cf657 (P : Params) : cFn (KK P) 657 = some (5, 10, code657) := by kernel_rfl
/-- _law_steps_right [deck, margins, area, rows, columns] [top, left, bottom, right, row, column, down, on, cursor, lows, highs, due, is_in] -/
noncomputable def code664 : Code := .load 2 <| .unpack [5, 6, 7, 8] <| .load 0 <| .load 3 <| .call (.ref 612) 2 <| .load 0 <| .load 4 <| .call (.ref 612) 2 <| .load 0 <| .const (.vI 9) <| .call (.ref 612) 2 <| .const (.vI 4) <| .bin .Sub <| .load 0 <| .const (.vI 9) <| .call (.ref 612) 2 <| .const (.vI 4) <| .bin .Sub <| .tup 4 <| .unpack [9, 10, 11, 12] <| .call (.ref 456) 0 <| .store 13 <| .load 13 <| .meth (Str.ofString "go") 2 (.load 9 <| .load 10 <| .done) <| .drop <| .load 13 <| .load 1 <| .load 11 <| .load 12 <| .call (.ref 600) 4 <| .drop <| .load 9 <| .load 5 <| .cmp .GtE <| .ite (.load 5 <| .done) (.const (.vI 0) <| .done) <| .load 10 <| .load 6 <| .cmp .GtE <| .ite (.load 6 <| .done) (.const (.vI 0) <| .done) <| .tup 2 <| .load 3 <| .const (.vI 1) <| .bin .Sub <| .load 4 <| .const (.vI 1) <| .bin .Sub <| .tup 2 <| .tup 2 <| .unpack [14, 15] <| .load 9 <| .load 7 <| .cmp .LtE <| .ite (.load 7 <| .done) (.load 15 <| .const (.vI 0) <| .sub <| .done) <| .load 10 <| .load 8 <| .cmp .LtE <| .ite (.load 8 <| .done) (.load 15 <| .const (.vI 1) <| .sub <| .done) <| .tup 2 <| .store 15 <| .load 11 <| .const (.vI 0) <| .cmp .Lt <| .ite (.load 14 <| .const (.vI 0) <| .sub <| .load 9 <| .load 11 <| .bin .Add <| .call (.builtin "max") 2 <| .done) (.load 15 <| .const (.vI 0) <| .sub <| .load 9 <| .load 11 <| .bin .Add <| .call (.builtin "min") 2 <| .done) <| .load 12 <| .const (.vI 0) <| .cmp .Lt <| .ite (.load 14 <| .const (.vI 1) <| .sub <| .load 10 <| .load 12 <| .bin .Add <| .call (.builtin "max") 2 <| .done) (.load 15 <| .const (.vI 1) <| .sub <| .load 10 <| .load 12 <| .bin .Add <| .call (.builtin "min") 2 <| .done) <| .tup 2 <| .store 16 <| .load 5 <| .load 9 <| .keep .LtE <| .ite (.load 7 <| .cmp .LtE <| .done) (.pop <| .const (.vB false) <| .done) <| .dup <| .tst <| .ite (.pop <| .load 6 <| .load 10 <| .keep .LtE <| .ite (.load 8 <| .cmp .LtE <| .done) (.pop <| .const (.vB false) <| .done) <| .done) (.done) <| .store 17 <| .load 13 <| .meth (Str.ofString "place") 0 (.done) <| .call (.type "tuple") 1 <| .load 16 <| .cmp .Eq <| .dup <| .tst <| .ite (.pop <| .load 1 <| .meth (Str.ofString "holds") 2 (.load 9 <| .load 10 <| .done) <| .load 17 <| .cmp .Is <| .done) (.done) <| .ret
theorem cf664 (P : Params) : cFn (KK P) 664 = some (5, 13, code664) := by kernel_rfl
/-- law [script] [deck, rows, columns, grid, cells, margins, area, turn, many, pen, is_up, gone, told] -/
noncomputable def code669 : Code := .load 0 <| .call (.ref 605) 1 <| .store 1 <| .const (.vI 3) <| .load 1 <| .const (.vI 2) <| .call (.ref 612) 2 <| .bin .Add <| .const (.vI 4) <| .load 1 <| .const (.vI 3) <| .call (.ref 612) 2 <| .bin .Add <| .tup 2 <| .unpack [2, 3] <| .load 1 <| .load 2 <| .load 3 <| .call (.ref 633) 3 <| .unpack [4, 5] <| .load 2 <| .load 3 <| .call (.ref 589) 2 <| .const (.vI 0) <| .const (.vI 0) <| .load 2 <| .const (.vI 1) <| .bin .Sub <| .load 3 <| .const (.vI 1) <| .bin .Sub <| .tup 4 <| .tup 2 <| .unpack [6, 7] <| .load 4 <| .call (.ref 650) 1 <| .load 5 <| .cmp .NotEq <| .ite (.const (.vB false) <| .ret) (.done) <| .const (.vI 1) <| .load 1 <| .const (.vI 3) <| .call (.ref 612) 2 <| .bin .Add <| .tup 1 <| .for_ .rng (.one 8) (.load 1 <| .load 6 <| .load 2 <| .load 3 <| .load 7 <| .call (.ref 657) 5 <| .store 7 <| .load 7 <| .const .vN <| .cmp .Is <| .ite (.const (.vB true) <| .done) (.load 6 <| .meth (Str.ofString "area") 0 (.done) <| .call (.type "tuple") 1 <| .load 7 <| .cmp .NotEq <| .ite (.const (.vB true) <| .done) (.load 1 <| .load 6 <| .load 7 <| .load 2 <| .load 3 <| .call (.ref 664) 5 <| .tst <| .not <| .done) <| .done) <| .ite (.const (.vB false) <| .ret) (.done) <| .const (.vI 1) <| .load 1 <| .const (.vI 6) <| .call (.ref 612) 2 <| .bin .Add <| .load 1 <| .call (.ref 626) 1 <| .load 1 <| .const (.vI 2) <| .call (.ref 612) 2 <| .const (.vI 0) <| .cmp .Eq <| .tup 3 <| .unpack [9, 10, 11] <| .load 5 <| .load 7 <| .load 9 <| .load 10 <| .load 11 <| .call (.ref 645) 5 <| .unpack [5, 12] <| .load 11 <| .tst <| .ite (.load 4 <| .meth (Str.ofString "scroll_up") 3 (.load 7 <| .load 9 <| .load 10 <| .done) <| .done) (.load 4 <| .meth (Str.ofString "scroll_down") 3 (.load 7 <| .load 9 <| .load 10 <| .done) <| .done) <| .store 13 <| .load 11 <| .tst <| .ite (.load 13 <| .dup <| .tst <| .ite (.done) (.pop <| .lst 0 <| .done) <| .comp .els (.load 0 <| .attr (Str.ofString "cells") <| .call (.type "list") 1 <| .done) <| .load 12 <| .cmp .NotEq <| .done) (.const (.vB false) <| .done) <| .ite (.const (.vB true) <| .done) (.load 4 <| .call (.ref 650) 1 <| .load 5 <| .cmp .NotEq <| .done) <| .ite (.const (.vB false) <| .ret) (.done) <| .done) <| .const (.vB true) <| .ret
end Mine
end
section
open PySem PySem.W PyProof.Rows
set_option maxRecDepth 100000
set_option linter.unusedVariables false
namespace Mine
section
variable {K : Frag} {c : Value → List V → St → (V → St → Prop) → Prop} {s : List V} {e : Env} {S : St} {N : List V → Env → St → Prop} {R : V → St → Prop} {k t f a : Code} {v w : V}
noncomputable def thenK (K : Frag) (c : Value → List V → St → (V → St → Prop) → Prop) (k : Code) (N : List V → Env → St → Prop) (R : V → St → Prop) : List V → Env → St → Prop := fun s e S => Run K c k s e S N R
theorem R_done : Run K c .done s e S N R = N s e S := rfl
theorem R_thenK : thenK K c k N R s e S = Run K c k s e S N R := rfl
theorem R_ret : Run K c .ret (v :: s) e S N R = R v S := rfl
theorem R_load {i : Nat} : Run K c (.load i k) s e S N R = onV (getE e i) (fun v => Run K c k (v :: s) e S N R) := rfl
theorem R_onV {F : V → Prop} : onV (some v) F = F v := rfl
theorem R_get0 {o : Option V} : getE (o :: e) 0 = o := rfl
theorem R_getS {o : Option V} {i : Nat} : getE (o :: e) (i + 1) = getE e i := rfl
theorem R_set0 {o : Option V} : setE (o :: e) 0 v = some v :: e := rfl
theorem R_setS {o : Option V} {i : Nat} : setE (o :: e) (i + 1) v = o :: setE e i v := rfl
theorem R_sets0 {F : Env → Prop} : setsE e [] [] F = F e := rfl
theorem R_setsS {F : Env → Prop} {i : Nat} {is : List Nat} {vs : List V} : setsE e (i :: is) (v :: vs) F = setsE (setE e i v) is vs F := rfl
theorem R_init0 : initE [] e = e := rfl
theorem R_initS {vs : List V} : initE (v :: vs) e = some v :: initE vs e := rfl
theorem R_noE0 : noE 0 = [] := rfl
theorem R_noES {n : Nat} : noE (n + 1) = none :: noE n := rfl
theorem R_const : Run K c (.const v k) s e S N R = Run K c k (v :: s) e S N R := rfl
theorem R_add {i j : Int} : Run K c (.bin .Add k) (.vI j :: .vI i :: s) e S N R = Run K c k (.vI (i + j) :: s) e S N R := rfl
theorem R_sub {i j : Int} : Run K c (.bin .Sub k) (.vI j :: .vI i :: s) e S N R = Run K c k (.vI (i - j) :: s) e S N R := rfl
theorem R_neg {i : Int} : Run K c (.neg k) (.vI i :: s) e S N R = Run K c k (.vI (-i) :: s) e S N R := rfl
theorem R_not {b : Bool} : Run K c (.not k) (.vB b :: s) e S N R = Run K c k (.vB (!b) :: s) e S N R := rfl
theorem R_tst {b : Bool} : Run K c (.tst k) (.vB b :: s) e S N R = Run K c k (.vB b :: s) e S N R := rfl
theorem R_dup : Run K c (.dup k) (v :: s) e S N R = Run K c k (v :: v :: s) e S N R := rfl
theorem R_pop : Run K c (.pop k) (v :: s) e S N R = Run K c k s e S N R := rfl
theorem R_chk {i : Int} : Run K c (.chk k) (.vI i :: s) e S N R = Run K c k (.vI i :: s) e S N R := rfl
theorem R_lt {i j : Int} : Run K c (.cmp .Lt k) (.vI j :: .vI i :: s) e S N R = Run K c k (.vB (decide (i < j)) :: s) e S N R := rfl
theorem R_le {i j : Int} : Run K c (.cmp .LtE k) (.vI j :: .vI i :: s) e S N R = Run K c k (.vB (decide (i ≤ j)) :: s) e S N R := rfl
theorem R_gt {i j : Int} : Run K c (.cmp .Gt k) (.vI j :: .vI i :: s) e S N R = Run K c k (.vB (decide (j < i)) :: s) e S N R := rfl
theorem R_ge {i j : Int} : Run K c (.cmp .GtE k) (.vI j :: .vI i :: s) e S N R = Run K c k (.vB (decide (j ≤ i)) :: s) e S N R := rfl
theorem R_eq {i j : Int} : Run K c (.cmp .Eq k) (.vI j :: .vI i :: s) e S N R = Run K c k (.vB (decide (i = j)) :: s) e S N R := rfl
theorem R_ne {i j : Int} : Run K c (.cmp .NotEq k) (.vI j :: .vI i :: s) e S N R = Run K c k (.vB (!decide (i = j)) :: s) e S N R := rfl
theorem R_klt {i j : Int} : Run K c (.keep .Lt k) (.vI j :: .vI i :: s) e S N R = Run K c k (.vB (decide (i < j)) :: .vI j :: s) e S N R := rfl
theorem R_kle {i j : Int} : Run K c (.keep .LtE k) (.vI j :: .vI i :: s) e S N R = Run K c k (.vB (decide (i ≤ j)) :: .vI j :: s) e S N R := rfl
theorem R_tup {n : Nat} : Run K c (.tup n k) s e S N R = popN n s [] (fun vs s => Run K c k (.vT vs :: s) e S N R) := rfl
theorem R_popN0 {acc : List V} {F : List V → List V → Prop} : popN 0 s acc F = F acc s := rfl
theorem R_popNS {acc : List V} {F : List V → List V → Prop} {n : Nat} : popN (n + 1) (v :: s) acc F = popN n s (v :: acc) F := rfl
theorem R_store {i : Nat} : Run K c (.store i k) (v :: s) e S N R = Run K c k s (setE e i v) S N R := rfl
theorem R_unpack {is : List Nat} {vs : List V} : Run K c (.unpack is k) (.vT vs :: s) e S N R = setsE e is vs (fun e' => Run K c k s e' S N R) := rfl
theorem R_drop : Run K c (.drop k) (.vN :: s) e S N R = Run K c k s e S N R := rfl
theorem R_iteT : Run K c (.ite t f k) (.vB true :: s) e S N R = Run K c t s e S (thenK K c k N R) R := rfl
theorem R_iteF : Run K c (.ite t f k) (.vB false :: s) e S N R = Run K c f s e S (thenK K c k N R) R := rfl
theorem R_notT : (!true) = false := rfl
theorem R_notF : (!false) = true := rfl
theorem vB_eq {p q : Prop} [Decidable p] [Decidable q] (h : p ↔ q) : [V.vB (decide p)] = [V.vB (decide q)] := congrArg (fun b => [V.vB b]) (decide_eq_decide.mpr h)
theorem vB_F {p : Prop} [Decidable p] (h : ¬ p) : [V.vB false] = [V.vB (decide p)] := congrArg (fun b => [V.vB b]) (decide_eq_false h).symm
theorem r_if {p : Prop} [Decidable p] (h1 : p → Run K c t s e S (thenK K c k N R) R) (h2 : ¬ p → Run K c f s e S (thenK K c k N R) R) : Run K c (.ite t f k) (.vB (decide p) :: s) e S N R := by
  by_cases h : p
  · rw [decide_eq_true h]; exact h1 h
  · rw [decide_eq_false h]; exact h2 h
theorem r_ifn {p : Prop} [Decidable p] (h1 : ¬ p → Run K c t s e S (thenK K c k N R) R) (h2 : p → Run K c f s e S (thenK K c k N R) R) : Run K c (.ite t f k) (.vB (!decide p) :: s) e S N R := by
  by_cases h : p
  · rw [decide_eq_true h]; exact h2 h
  · rw [decide_eq_false h]; exact h1 h
theorem r_b {b : Bool} (h1 : b = true → Run K c t s e S (thenK K c k N R) R) (h2 : b = false → Run K c f s e S (thenK K c k N R) R) : Run K c (.ite t f k) (.vB b :: s) e S N R := by
  cases b
  · exact h2 rfl
  · exact h1 rfl
theorem r_t {p : Prop} [Decidable p] (h : p) (h1 : Run K c t s e S (thenK K c k N R) R) : Run K c (.ite t f k) (.vB (decide p) :: s) e S N R := r_if (fun _ => h1) fun n => absurd h n
theorem r_f {p : Prop} [Decidable p] (h : ¬ p) (h1 : Run K c f s e S (thenK K c k N R) R) : Run K c (.ite t f k) (.vB (decide p) :: s) e S N R := r_if (fun n => absurd n h) fun _ => h1
noncomputable def turnK (K : Frag) (c : Value → List V → St → (V → St → Prop) → Prop) (tg : Tg) (b : Code) (R : V → St → Prop) : V → Env → St → (Env → St → Prop) → Prop := fun v e S Q => bindR tg v e fun e' => Run K c b [] e' S (fun _ e'' S'' => Q e'' S'') R
noncomputable def nxK (Q : Env → St → Prop) : List V → Env → St → Prop := fun _ e S => Q e S
noncomputable def endK (K : Frag) (c : Value → List V → St → (V → St → Prop) → Prop) (k : Code) (s : List V) (N : List V → Env → St → Prop) (R : V → St → Prop) : Env → St → Prop := fun e S => Run K c k s e S N R
noncomputable def turnC (K : Frag) (c : Value → List V → St → (V → St → Prop) → Prop) (a : Code) (e : Env) : V → St → (V → St → Prop) → Prop := fun v S Q => Run K c a [] (some v :: e) S (fun s' _ S'' => pop1 s' fun w _ => Q w S'') noR
noncomputable def popK (Q : V → St → Prop) : List V → Env → St → Prop := fun s' _ S'' => pop1 s' fun w _ => Q w S''
noncomputable def tstK (K : Frag) (c : Value → List V → St → (V → St → Prop) → Prop) (t : Code) : Env → St → (Bool → St → Prop) → Prop := fun e S k => Run K c t [] e S (fun s' _ S'' => pop1 s' fun v _ => onB v fun b => k b S'') noR
noncomputable def boolK (Q : Bool → St → Prop) : List V → Env → St → Prop := fun s' _ S'' => pop1 s' fun v _ => onB v fun b => Q b S''
noncomputable def bodK (K : Frag) (c : Value → List V → St → (V → St → Prop) → Prop) (b : Code) (R : V → St → Prop) : Env → St → (Env → St → Prop) → Prop := fun e S Q => Run K c b [] e S (fun _ e'' S'' => Q e'' S'') R
noncomputable def argK (c : Value → List V → St → (V → St → Prop) → Prop) (f a : Addr) (n : Nat) (Q : V → St → Prop) : List V → Env → St → Prop := fun s' _ S'' => popN n s' [] fun vs _ => c (.ref f) (.vR a :: vs) S'' Q
noncomputable def appK (l : Addr) (Q : V → St → Prop) : List V → Env → St → Prop := fun s' _ S'' => popN 1 s' [] fun vs _ => listMeth (Str.ofString "append") l vs S'' Q
theorem R_turn1 {i : Nat} {Q : Env → St → Prop} : turnK K c (.one i) f R v e S Q = Run K c f [] (setE e i v) S (nxK Q) R := rfl
theorem R_turn2 {i j : Nat} {Q : Env → St → Prop} : turnK K c (.two i j) f R (.vT [v, w]) e S Q = Run K c f [] (setE (setE e i v) j w) S (nxK Q) R := rfl
theorem R_nxK {Q : Env → St → Prop} : nxK Q s e S = Q e S := rfl
theorem R_endK : endK K c k s N R e S = Run K c k s e S N R := rfl
theorem R_turnC {Q : V → St → Prop} : turnC K c a e v S Q = Run K c a [] (some v :: e) S (popK Q) noR := rfl
theorem R_popK {Q : V → St → Prop} : popK Q (v :: s) e S = Q v S := rfl
theorem R_tstK {Q : Bool → St → Prop} : tstK K c t e S Q = Run K c t [] e S (boolK Q) noR := rfl
theorem R_boolK {Q : Bool → St → Prop} {b : Bool} : boolK Q (.vB b :: s) e S = Q b S := rfl
theorem R_bodK {Q : Env → St → Prop} : bodK K c t R e S Q = Run K c t [] e S (nxK Q) R := rfl
theorem R_argK {g o : Addr} {n : Nat} {Q : V → St → Prop} : argK c g o n Q s e S = popN n s [] (fun vs _ => c (.ref g) (.vR o :: vs) S Q) := rfl
theorem r_app {l : Addr} {xs : List V} {Q : V → St → Prop} (h1 : S l = some (.lst xs)) (h2 : xs.length + 1 ≤ LB) (h : Q .vN (put S l (.lst (xs ++ [v])))) : appK l Q (v :: s) e S := by
  show listMeth (Str.ofString "append") l [v] S Q
  unfold listMeth
  rw [if_pos rfl]
  exact ⟨xs, h1, h2, h⟩
theorem r_attr {o C dx : Addr} {fs : List (Str × V)} {name : Str} (h1 : S o = some (.inst C dx)) (h2 : S dx = some (.attrs fs)) (hd : dataOk K C name = true) (hl : fs.lookup name = some v) (hn : noF v = true) (h : Run K c k (v :: s) e S N R) : Run K c (.attr name k) (.vR o :: s) e S N R :=
  fun Q hQ => getA_ok h1 h2 hd hl hn (hQ _ h)
theorem r_setat {o C dx : Addr} {fs fs' : List (Str × V)} {name : Str} (h1 : S o = some (.inst C dx)) (h2 : S dx = some (.attrs fs)) (hd : setOk K C name = true) (hp : putF fs name v = fs') (hl : fs'.length ≤ 100) (h : Run K c k s e (put S dx (.attrs fs')) N R) : Run K c (.setat name k) (.vR o :: v :: s) e S N R :=
  fun Q hQ => setA_ok h1 h2 hd (by rw [hp]; exact hl) (by rw [hp]; exact hQ _ h)
theorem r_setin {o C dx : Addr} {fs fs' : List (Str × V)} {name : Str} (h1 : S o = some (.inst C dx)) (ne : o ≠ dx) (hd : setOk K C name = true) (hp : putF fs name v = fs') (hl : fs'.length ≤ 100) (h : Run K c k s e (put S dx (.attrs fs')) N R) : Run K c (.setat name k) (.vR o :: v :: s) e (put S dx (.attrs fs)) N R :=
  r_setat (by rw [put_off ne]; exact h1) put_at hd hp hl (by rw [put_put]; exact h)
theorem r_mul {i j : Int} (h1 : IntMulOk i j) (h : Run K c k (.vI (i * j) :: s) e S N R) : Run K c (.bin .Mult k) (.vI j :: .vI i :: s) e S N R := fun Q hQ => by exact (⟨h1, hQ _ _ h⟩ : _ ∧ _)
theorem r_fdiv {i j : Int} (h1 : j ≠ 0) (h2 : Builtin.divisionGoesByPylong i j = false) (h : Run K c k (.vI (i.fdiv j) :: s) e S N R) : Run K c (.bin .FloorDiv k) (.vI j :: .vI i :: s) e S N R := fun Q hQ => by exact (⟨h1, h2, hQ _ _ h⟩ : _ ∧ _ ∧ _)
theorem r_mod {i j : Int} (h1 : j ≠ 0) (h : Run K c k (.vI (i.fmod j) :: s) e S N R) : Run K c (.bin .Mod k) (.vI j :: .vI i :: s) e S N R := fun Q hQ => by exact (⟨h1, hQ _ _ h⟩ : _ ∧ _)
theorem r_isn_same {b : Bool} (h : Run K c k (.vB false :: s) e S N R) : Run K c (.cmp .IsNot k) (.vB b :: .vB b :: s) e S N R := fun Q hQ => by
  rw [wCmp_isn, beq_self_eq_true]; exact hQ _ h
theorem r_is_same {b : Bool} (h : Run K c k (.vB true :: s) e S N R) : Run K c (.cmp .Is k) (.vB b :: .vB b :: s) e S N R := fun Q hQ => by
  rw [wCmp_is, beq_self_eq_true]; exact hQ _ h
theorem r_istn {vs : List V} (h : Run K c k (.vB false :: s) e S N R) : Run K c (.cmp .Is k) (.vN :: .vT vs :: s) e S N R := fun Q hQ => by
  rw [wCmp_istn]; exact hQ _ h
theorem r_list {d : Nat} {l : Addr} {vs : List V} (hl : lstOf S l = some vs) (h : ∀ r, Fresh S r → Run K (WC K d) k (.vR r :: s) e (put S r (.lst vs)) N R) : Run K (WC K d) (.call (.type "list") 1 k) (.vR l :: s) e S N R := fun Q hQ => WC_t (list_w hl fun r hr => hQ _ _ (h r hr))
theorem r_dget {o : Addr} {fs : List (Str × V)} {x : Str} (h1 : S o = some (.dict fs)) (h2 : fs.lookup x = some v) (h : Run K c k (v :: s) e S N R) : Run K c (.sub k) (.vS x :: .vR o :: s) e S N R := fun Q hQ => by exact (⟨fs, v, h1, h2, hQ _ h⟩ : ∃ fs v, S o = some (.dict fs) ∧ fs.lookup x = some v ∧ Q v)
theorem r_dset {o : Addr} {fs fs' : List (Str × V)} {x : Str} (h1 : S o = some (.dict fs)) (h2 : (fs.lookup x).isSome = true) (hp : putF fs x v = fs') (h : Run K c k s e (put S o (.dict fs')) N R) : Run K c (.setit k) (.vS x :: .vR o :: v :: s) e S N R := fun Q hQ => by
  subst hp
  exact (⟨fs, h1, h2, hQ _ h⟩ : ∃ fs, S o = some (.dict fs) ∧ (fs.lookup x).isSome = true ∧ Q (put S o (.dict (putF fs x v))))
theorem r_tup {vs : List V} {i : Nat} (hv : vs[i]? = some v) (hn : i ≤ 1000) (h : Run K c k (v :: s) e S N R) : Run K c (.sub k) (.vI (i : Int) :: .vT vs :: s) e S N R := fun Q hQ => item_tup hv hn (hQ _ h)
theorem r_t0 {vs : List V} (hv : vs[0]? = some v) (h : Run K c k (v :: s) e S N R) : Run K c (.sub k) (.vI 0 :: .vT vs :: s) e S N R := r_tup (i := 0) hv (by decide) h
theorem r_t1 {vs : List V} (hv : vs[1]? = some v) (h : Run K c k (v :: s) e S N R) : Run K c (.sub k) (.vI 1 :: .vT vs :: s) e S N R := r_tup (i := 1) hv (by decide) h
theorem r_cell_w {b : Cell} (h : Run K c k (.vI b.w :: s) e S N R) : Run K c (.sub k) (.vI 1 :: cellV b :: s) e S N R := r_t1 rfl h
theorem r_cell_pen {b : Cell} (h : Run K c k (penV b.b :: s) e S N R) : Run K c (.sub k) (.vI 2 :: cellV b :: s) e S N R := r_tup (i := 2) rfl (by decide) h
theorem r_meth {o C dx g : Addr} {fs : List (Str × V)} {name : Str} {n : Nat} (h1 : S o = some (.inst C dx)) (h2 : S dx = some (.attrs fs)) (h4 : methOf K C name = some g) (h3 : fs.lookup name = none)
    (h : ∀ Q, (∀ v S', Run K c k (v :: s) e S' N R → Q v S') → Run K c a [] e S (argK c g o n Q) noR) : Run K c (.meth name n a k) (.vR o :: s) e S N R := fun Q hQ => MC.inst h1 h2 h4 h3 (h Q hQ)
theorem r_append {l : Addr} {xs : List V} (h1 : S l = some (.lst xs)) (h : ∀ Q : V → St → Prop, (∀ v S', Run K c k (v :: s) e S' N R → Q v S') → Run K c a [] e S (appK l Q) noR) : Run K c (.meth (Str.ofString "append") 1 a k) (.vR l :: s) e S N R := fun Q hQ =>
  MC.lst h1 (by decide +kernel) (h Q hQ)
theorem r_mpop {l : Addr} {xs : List V} (h1 : S l = some (.lst (xs ++ [v]))) (h : Run K c k (v :: s) e (put S l (.lst xs)) N R) : Run K c (.meth (Str.ofString "pop") 0 .done k) (.vR l :: s) e S N R := fun Q hQ => by
  refine MC.lst h1 (by decide +kernel) ?_
  show listMeth (Str.ofString "pop") l [] S Q
  unfold listMeth
  rw [if_neg (by decide +kernel), if_pos rfl]
  exact ⟨xs, v, h1, hQ _ _ h⟩
theorem r_max {i j : Int} {d : Nat} (h : Run K (WC K d) k (.vI (max i j) :: s) e S N R) : Run K (WC K d) (.call (.builtin "max") 2 k) (.vI j :: .vI i :: s) e S N R := fun Q hQ => WC_b (max_w (hQ _ _ h))
theorem r_min {i j : Int} {d : Nat} (h : Run K (WC K d) k (.vI (min i j) :: s) e S N R) : Run K (WC K d) (.call (.builtin "min") 2 k) (.vI j :: .vI i :: s) e S N R := fun Q hQ => WC_b (min_w (hQ _ _ h))
theorem r_len {d : Nat} {l : Addr} {vs : List V} (hl : lstOf S l = some vs) (h : Run K (WC K d) k (.vI vs.length :: s) e S N R) : Run K (WC K d) (.call (.builtin "len") 1 k) (.vR l :: s) e S N R := fun Q hQ => WC_b (len_list hl (hQ _ _ h))
theorem r_lenC {d : Nat} {l : Addr} {cs : List Cell} (hl : S l = some (.lst (cellsV cs))) (h : Run K (WC K d) k (.vI cs.length :: s) e S N R) : Run K (WC K d) (.call (.builtin "len") 1 k) (.vR l :: s) e S N R := fun Q hQ => WC_b (len_cells hl (hQ _ _ h))
theorem r_tuple {d : Nat} {vs : List V} (h : Run K (WC K d) k (.vT vs :: s) e S N R) : Run K (WC K d) (.call (.type "tuple") 1 k) (.vT vs :: s) e S N R := fun Q hQ => WC_t (tuple_w (hQ _ _ h))
theorem r_int {d : Nat} {i : Int} (h : Run K (WC K d) k (.vI i :: s) e S N R) : Run K (WC K d) (.call (.type "int") 1 k) (.vI i :: s) e S N R := fun Q hQ => WC_t (int_w (hQ _ _ h))
section
variable {i j : Int} {tg : Tg}
theorem r_for1 (h1 : -1000000 ≤ i) (h2 : i ≤ 1000000) (h : loopR (fun _ => True) (turnK K c tg t R) ((upInts 0 i).map .vI) e S (endK K c k s N R)) : Run K c (.for_ .rng tg t k) (.vT [.vI i] :: s) e S N R := by exact (⟨h1, h2, h⟩ : _ ∧ _ ∧ _)
theorem r_for2 (h1 : -1000000 ≤ i) (h2 : i ≤ 1000000) (h3 : -1000000 ≤ j) (h4 : j ≤ 1000000) (h : loopR (fun _ => True) (turnK K c tg t R) ((upInts i j).map .vI) e S (endK K c k s N R)) : Run K c (.for_ .rng tg t k) (.vT [.vI i, .vI j] :: s) e S N R := by exact (⟨h1, h2, h3, h4, h⟩ : _ ∧ _ ∧ _ ∧ _ ∧ _)
theorem r_for3 (h1 : -1000000 ≤ i) (h2 : i ≤ 1000000) (h3 : -1000000 ≤ j) (h4 : j ≤ 1000000) (h : loopR (fun _ => True) (turnK K c tg t R) ((downInts i j).map .vI) e S (endK K c k s N R)) : Run K c (.for_ .rng tg t k) (.vT [.vI i, .vI j, .vI (-1)] :: s) e S N R := by exact (⟨rfl, h1, h2, h3, h4, h⟩ : _ ∧ _ ∧ _ ∧ _ ∧ _ ∧ _)
theorem r_forT {vs : List V} (h : loopR (fun _ => True) (turnK K c tg t R) vs e S (endK K c k s N R)) : Run K c (.for_ .els tg t k) (.vT vs :: s) e S N R := h
theorem r_forL {l : Addr} {vs : List V} (h1 : lstOf S l = some vs) (h : loopR (fun S => lstOf S l = some vs) (turnK K c tg t R) vs e S (endK K c k s N R)) : Run K c (.for_ .els tg t k) (.vR l :: s) e S N R := by exact (⟨vs, h1, h⟩ : ∃ xs, lstOf S l = some xs ∧ loopR (fun S => lstOf S l = some xs) (turnK K c tg t R) xs e S (endK K c k s N R))
theorem r_forE {l : Addr} {vs : List V} (h1 : lstOf S l = some vs) (h : loopR (fun S => lstOf S l = some vs) (turnK K c tg t R) (vs.zipIdx.map fun p => V.vT [.vI (p.2 : Nat), p.1]) e S (endK K c k s N R)) : Run K c (.for_ .enm tg t k) (.vT [.vR l] :: s) e S N R := by exact (⟨l, vs, rfl, h1, h⟩ : ∃ l' xs, V.vT [.vR l] = .vT [.vR l'] ∧ lstOf S l' = some xs ∧ loopR (fun S => lstOf S l' = some xs) (turnK K c tg t R) (xs.zipIdx.map fun p => V.vT [.vI (p.2 : Nat), p.1]) e S (endK K c k s N R))
theorem r_comp1 (h1 : -1000000 ≤ i) (h2 : i ≤ 1000000) (h : ∀ Q : V → St → Prop, (∀ v S', Run K c k (v :: s) e S' N R → Q v S') → compW (fun _ => True) (turnC K c a e) ((upInts 0 i).map .vI) [] S fun acc S' => ∀ r, Fresh S r → S' r = none → Q (.vR r) (put S' r (.lst acc))) : Run K c (.comp .rng a k) (.vT [.vI i] :: s) e S N R := by exact (⟨h1, h2, rfl, h⟩ : _ ∧ _ ∧ _ ∧ _)
theorem r_compL {l : Addr} {vs : List V} (h1 : lstOf S l = some vs) (h : ∀ Q : V → St → Prop, (∀ v S', Run K c k (v :: s) e S' N R → Q v S') → compW (fun S => lstOf S l = some vs) (turnC K c a e) vs [] S fun acc S' => ∀ r, Fresh S r → S' r = none → Q (.vR r) (put S' r (.lst acc))) : Run K c (.comp .els a k) (.vR l :: s) e S N R := by exact (⟨vs, h1, rfl, h⟩ : ∃ xs, lstOf S l = some xs ∧ compIt (.lst l xs) = true ∧ compR (fun S => lstOf S l = some xs) (turnC K c a e) xs S fun w S' => Run K c k (w :: s) e S' N R)
theorem r_loop (n : Nat) (h : whileR (tstK K c t) (bodK K c f R) n e S (endK K c k s N R)) : Run K c (.loop t f k) s e S N R := by exact (⟨n, h⟩ : ∃ n, whileR (tstK K c t) (bodK K c f R) n e S (endK K c k s N R))
end
/-! loops -/
theorem while_indR {test : Env → St → (Bool → St → Prop) → Prop} {body : Env → St → (Env → St → Prop) → Prop} {Q : Env → St → Prop} (I : Nat → Env → St → Prop)
    (h1 : ∀ k m S, I k m S → ∀ Q' : Env → St → Prop, (∀ j m' S', j < k → I j m' S' → Q' m' S') → test m S fun b S1 => if b = true then body m S1 Q' else Q m S1) :
    ∀ n k m S, k < n → I k m S → whileR test body n m S Q
  | 0, k, _, _, h, _ => absurd h (Nat.not_lt_zero k)
  | n + 1, k, m, S, hk, h => h1 k m S h (fun m' S' => whileR test body n m' S' Q) fun j m' S' lt h' => while_indR I h1 n j m' S' (by lia) h'
theorem loopR_ints {chk : St → Prop} {turn : V → Env → St → (Env → St → Prop) → Prop} {Q : Env → St → Prop} (I : List Int → Env → St → Prop)
    (h1 : ∀ x xs m S, I (x :: xs) m S → chk S ∧ ∀ Q' : Env → St → Prop, (∀ m' S', I xs m' S' → Q' m' S') → turn (.vI x) m S Q')
    (h0 : ∀ m S, I [] m S → chk S ∧ Q m S) :
    ∀ xs m S, I xs m S → loopR chk turn (xs.map .vI) m S Q
  | [], m, S, h => h0 m S h
  | x :: xs, m, S, h => ⟨(h1 x xs m S h).1, (h1 x xs m S h).2 _ fun m' S' h' => loopR_ints I h1 h0 xs m' S' h'⟩
theorem rUp {chk : St → Prop} {turn : V → Env → St → (Env → St → Prop) → Prop} {Q : Env → St → Prop} {A B : Int} {a b : Nat} (I : Nat → Env → St → Prop) (hA : A = a) (hB : B = b) (hab : a ≤ b)
    (h1 : ∀ i m S, a ≤ i → i < b → I i m S → chk S ∧ ∀ Q' : Env → St → Prop, (∀ m' S', I (i + 1) m' S' → Q' m' S') → turn (.vI i) m S Q')
    (h0 : ∀ m S, I b m S → chk S ∧ Q m S) (m : Env) (S : St) (h : I a m S) : loopR chk turn ((upInts A B).map .vI) m S Q := by
  subst hA hB
  have key : ∀ k j, a + j + k = b → ∀ m S, I (a + j) m S → loopR chk turn (((List.range k).map fun (q : Nat) => ((a + j : Nat) : Int) + (q : Int)).map .vI) m S Q := fun k => by
    induction k with
    | zero => exact fun j e m S h => h0 m S (e ▸ h)
    | succ k ih =>
      intro j e m S h
      have h2 := h1 (a + j) m S (Nat.le_add_right a j) (by lia) h
      rw [List.range_succ_eq_map, List.map_cons, List.map_map, List.map_cons]
      refine ⟨h2.1, ?_⟩
      rw [show ((a + j : Nat) : Int) + ((0 : Nat) : Int) = ((a + j : Nat) : Int) from Int.add_zero _]
      refine h2.2 _ fun m' S' h' => ?_
      have := ih (j + 1) (by lia) m' S' h'
      rw [show ((List.range k).map ((fun (q : Nat) => ((a + j : Nat) : Int) + (q : Int)) ∘ Nat.succ)) = (List.range k).map fun (q : Nat) => ((a + (j + 1) : Nat) : Int) + (q : Int) from List.map_congr_left fun z _ => by simp only [Function.comp]; lia]
      exact this
  have := key (b - a) 0 (by lia) m S h
  rw [Nat.add_zero] at this
  unfold upInts
  rw [show ((b : Int) - (a : Int)).toNat = b - a by lia]
  exact this
theorem rDown {chk : St → Prop} {turn : V → Env → St → (Env → St → Prop) → Prop} {Q : Env → St → Prop} {A B : Int} {a c : Nat} (I : Nat → Env → St → Prop) (hA : A = a) (hB : B = (c : Int) - 1) (hab : c ≤ a + 1)
    (h1 : ∀ i m S, c ≤ i → i ≤ a → I (i + 1) m S → chk S ∧ ∀ Q' : Env → St → Prop, (∀ m' S', I i m' S' → Q' m' S') → turn (.vI i) m S Q')
    (h0 : ∀ m S, I c m S → chk S ∧ Q m S) (m : Env) (S : St) (h : I (a + 1) m S) : loopR chk turn ((downInts A B).map .vI) m S Q := by
  subst hA hB
  have key : ∀ (k : Nat) (b : Int), b = (c : Int) + k - 1 → c + k ≤ a + 1 → ∀ m S, I (c + k) m S → loopR chk turn (((List.range k).map fun (q : Nat) => b - (q : Int)).map .vI) m S Q := fun k => by
    induction k with
    | zero => exact fun b e le m S h => h0 m S h
    | succ k ih =>
      intro b e le m S h
      have h2 := h1 (c + k) m S (Nat.le_add_right c k) (by lia) h
      rw [List.range_succ_eq_map, List.map_cons, List.map_map, List.map_cons]
      refine ⟨h2.1, ?_⟩
      rw [show b - ((0 : Nat) : Int) = ((c + k : Nat) : Int) by lia]
      refine h2.2 _ fun m' S' h' => ?_
      have := ih (b - 1) (by lia) (by lia) m' S' h'
      rw [show ((List.range k).map ((fun (q : Nat) => b - (q : Int)) ∘ Nat.succ)) = (List.range k).map fun (q : Nat) => b - 1 - (q : Int) from List.map_congr_left fun z _ => by simp only [Function.comp]; lia]
      exact this
  have := key (a + 1 - c) a (by lia) (by lia) m S (by rw [show c + (a + 1 - c) = a + 1 by lia]; exact h)
  unfold downInts
  rw [show ((a : Int) - ((c : Int) - 1)).toNat = a + 1 - c by lia]
  exact this
theorem rList {chk : St → Prop} {turn : V → Env → St → (Env → St → Prop) → Prop} {Q : Env → St → Prop} {xs : List V} (I : Nat → Env → St → Prop)
    (h1 : ∀ k v m S, xs[k]? = some v → I k m S → chk S ∧ ∀ Q' : Env → St → Prop, (∀ m' S', I (k + 1) m' S' → Q' m' S') → turn v m S Q')
    (h0 : ∀ m S, I xs.length m S → chk S ∧ Q m S) (m : Env) (S : St) (h : I 0 m S) : loopR chk turn xs m S Q := by
  have key : ∀ (l p : List V), p ++ l = xs → ∀ m S, I p.length m S → loopR chk turn l m S Q := fun l => by
    induction l with
    | nil => exact fun p e m S h => h0 m S (by rw [List.append_nil] at e; rw [← e]; exact h)
    | cons v l ih =>
      intro p e m S h
      have h2 := h1 p.length v m S (by rw [← e, List.getElem?_append_right (Nat.le_refl _), Nat.sub_self]; rfl) h
      exact ⟨h2.1, h2.2 _ fun m' S' h' => ih (p ++ [v]) (by rw [List.append_assoc]; exact e) m' S' (by rw [List.length_append]; exact h')⟩
  exact key xs [] rfl m S h
theorem r_join (J : List V → Env → St → Prop) (h1 : ∀ N' : List V → Env → St → Prop, (∀ s e S, J s e S → N' s e S) → Run K c (.ite t f .done) (v :: s) e S N' R) (h2 : ∀ s e S, J s e S → Run K c k s e S N R) : Run K c (.ite t f k) (v :: s) e S N R :=
  h1 (thenK K c k N R) h2
end
end Mine
end
section
open PySem PySem.W PyProof.Rows
set_option maxRecDepth 100000
set_option linter.unusedVariables false
set_option linter.unusedSimpArgs false
set_option maxHeartbeats 4000000
namespace Mine
variable {P : Params} {S : St} {Q : V → St → Prop} {d : Nat}

theorem clamp_ok {a b c : Int} (h : Q (.vI (max b (min a c))) S) : WC (KK P) (d + 1) (.ref 62) [.vI a, .vI b, .vI c] S Q := by
  refine RC_go (cf62 P) ?_
  unfold code62
  refine fun Q1 hQ1 => WC_b (min_w (hQ1 _ _ ?_))
  try clear hQ1 Q1
  refine fun Q1 hQ1 => WC_b (max_w (hQ1 _ _ ?_))
  try clear hQ1 Q1
  exact h
theorem erased_pen_ok {b : Int} (h : Q (penV b) S) : WC (KK P) (d + 1) (.ref 69) [penV b] S Q := by
  refine RC_go (cf69 P) ?_
  unfold code69
  refine fun Q1 hQ1 => pen_back (hQ1 _ ?_)
  try clear hQ1 Q1
  exact h
theorem blank_cell_ok {b : Int} (h : Q (cellV (blank b)) S) : WC (KK P) (d + 2) (.ref 76) [penV b] S Q := by
  refine RC_go (cf76 P) ?_
  unfold code76
  refine fun Q1 hQ1 => erased_pen_ok (hQ1 _ _ ?_)
  try clear hQ1 Q1
  exact h
theorem right_half_ok {c : Cell} (h : Q (cellV ⟨none, 0, c.b⟩) S) : WC (KK P) (d + 1) (.ref 98) [cellV c] S Q := by
  refine RC_go (cf98 P) ?_
  unfold code98
  refine fun Q1 hQ1 => cell_pen (hQ1 _ ?_)
  try clear hQ1 Q1
  refine fun Q1 hQ1 => cell_guard (hQ1 _ ?_)
  try clear hQ1 Q1
  exact h
theorem grid_cut_ok {c : Cell} (h : Q (cellV (blank c.b)) S) : WC (KK P) (d + 3) (.ref 404) [cellV c] S Q := by
  refine RC_go (cf404 P) ?_
  unfold code404
  refine fun Q1 hQ1 => cell_pen (hQ1 _ ?_)
  try clear hQ1 Q1
  refine fun Q1 hQ1 => blank_cell_ok (hQ1 _ _ ?_)
  try clear hQ1 Q1
  exact h
/-- line_part -/
noncomputable def partC (cs : List Cell) (at' : Int) : List Cell :=
  if 0 < at' ∧ at' < cs.length ∧ (at0 cs at').w = 0 then (cs.set (at' - 1).toNat (blank (at0 cs (at' - 1)).b)).set at'.toNat (blank (at0 cs at').b) else cs
theorem at0_set {cs : List Cell} {i : Int} {c : Cell} (h : 0 < i) : at0 (cs.set (i - 1).toNat c) i = at0 cs i := by
  unfold at0
  simp only [List.getD_eq_getElem?_getD]
  rw [List.getElem?_set_ne (by lia)]
theorem line_part_ok {lc : Addr} {cs : List Cell} {i : Int} (hS : S lc = some (.lst (cellsV cs))) (h : Q .vN (put S lc (.lst (cellsV (partC cs i))))) : WC (KK P) (d + 3) (.ref 105) [.vR lc, .vI i] S Q := by
  have no : ¬ (0 < i ∧ i < cs.length ∧ (at0 cs i).w = 0) → Q .vN S := fun n => by unfold partC at h; rw [if_neg n, put_same hS] at h; exact h
  refine RC_go (cf105 P) ?_
  unfold code105
  refine r_if (fun h0 => ?_) fun h0 => ?_
  · skip
    refine fun Q1 hQ1 => WC_b (len_cells hS (hQ1 _ _ ?_))
    try clear hQ1 Q1
    refine r_if (fun h1 => ?_) fun h1 => ?_
    · skip
      refine fun Q1 hQ1 => item_cell hS (Int.le_of_lt h0) h1 (hQ1 _ ?_)
      try clear hQ1 Q1
      refine fun Q1 hQ1 => cell_w (hQ1 _ ?_)
      try clear hQ1 Q1
      refine r_if (fun h2 => ?_) fun h2 => ?_
      · skip
        have g0 : 0 ≤ i - 1 := by lia
        have g1 : i - 1 < cs.length := by lia
        have g2 : ∀ {c : Cell} {j : Nat}, i < (cs.set j c).length := by intro c j; rw [List.length_set]; exact h1
        refine fun Q1 hQ1 => item_cell hS g0 g1 (hQ1 _ ?_)
        try clear hQ1 Q1
        refine fun Q1 hQ1 => cell_pen (hQ1 _ ?_)
        try clear hQ1 Q1
        refine fun Q1 hQ1 => blank_cell_ok (hQ1 _ _ ?_)
        try clear hQ1 Q1
        refine fun Q1 hQ1 => set_cell hS g0 g1 (hQ1 _ ?_)
        try clear hQ1 Q1
        refine fun Q1 hQ1 => item_cell put_at (Int.le_of_lt h0) g2 (hQ1 _ ?_)
        try clear hQ1 Q1
        refine fun Q1 hQ1 => cell_pen (hQ1 _ ?_)
        try clear hQ1 Q1
        refine fun Q1 hQ1 => blank_cell_ok (hQ1 _ _ ?_)
        try clear hQ1 Q1
        refine fun Q1 hQ1 => set_cell put_at (Int.le_of_lt h0) g2 (hQ1 _ ?_)
        try clear hQ1 Q1
        unfold partC at h
        rw [if_pos ⟨h0, h1, h2⟩] at h
        rw [put_put, at0_set h0]
        exact h
      · skip
        exact no fun z => h2 z.2.2
    · skip
      exact no fun z => h1 z.2.1
  · skip
    exact no fun z => h0 z.1
theorem line_blanks_ok {many b : Int} (hn : many ≤ 1000) (h : ∀ r S', Kp none_ S S' → S r = none → S' r = some (.lst (cellsV (List.replicate many.toNat (blank b)))) → Q (.vR r) S') : WC (KK P) (d + 3) (.ref 91) [.vI many, penV b] S Q := by
  have hm : (max 0 many).toNat = many.toNat := by lia
  have hLB : (List.replicate many.toNat (cellV (blank b))).length ≤ LB := by
    rw [List.length_replicate]
    show many.toNat ≤ 4096
    lia
  have hm2 : max 0 many ≤ 1000 := by lia
  have hm3 : -1000 ≤ max 0 many := by lia
  refine RC_go (cf91 P) ?_
  unfold code91
  refine fun Q1 hQ1 => blank_cell_ok (hQ1 _ _ ?_)
  try clear hQ1 Q1
  refine fun r hr => ?_
  refine fun Q1 hQ1 => WC_b (max_w (hQ1 _ _ ?_))
  try clear hQ1 Q1
  have hl : lstOf (put S r (.lst [cellV (blank b)])) r = some [cellV (blank b)] := lst_of put_at
  refine fun Q1 hQ1 => bin_rep hl ?_ hm3 hm2 fun r2 hr2 => hQ1 _ _ ?_
  try clear hQ1 Q1
  · rw [repL_one, hm]; exact hLB
  · rw [repL_one, hm]
    have e : S r2 = none := by
      have := hr2.self
      rw [put_off (fun q => by subst q; rw [put_at] at this; cases this)] at this; exact this
    refine h _ _ ((Kp.new hr.self).trans (Kp.new hr2.self)) e ?_
    rw [put_at, cellsV_rep]
/-- grid_mended -/
noncomputable def mend0 (cs : List Cell) : List Cell := if cs ≠ [] ∧ (at0 cs 0).w = 0 then cs.set 0 (blank (at0 cs 0).b) else cs
noncomputable def mend1 (cs : List Cell) : List Cell := if cs ≠ [] ∧ (at0 cs (cs.length - 1)).w = 2 then cs.set (cs.length - 1) (blank (at0 cs (cs.length - 1)).b) else cs
noncomputable def mendC (cs : List Cell) : List Cell := mend1 (mend0 cs)
theorem grid_mended_ok {l : Addr} {cs : List Cell} (hS : S l = some (.lst (cellsV cs))) (h : ∀ r S', Kp none_ S S' → S r = none → S' r = some (.lst (cellsV (mendC cs))) → Q (.vR r) S') : WC (KK P) (d + 4) (.ref 411) [.vR l] S Q := by
  refine RC_go (cf411 P) ?_
  unfold code411
  refine fun Q1 hQ1 => WC_t (list_w (lst_of hS) fun r hr => hQ1 _ _ ?_)
  try clear hQ1 Q1
  refine fun r1 hr1 => ?_
  have hc : put (put S r (.lst (cellsV cs))) r1 (.lst []) r = some (.lst (cellsV cs)) := put_fr hr1 put_at
  have hk : Kp none_ S (put (put S r (.lst (cellsV cs))) r1 (.lst [])) := (Kp.new hr.self).newL hr1
  have hn : lstOf (put (put S r (.lst (cellsV cs))) r1 (.lst [])) r1 = some [] := lst_of put_at
  generalize put (put S r (.lst (cellsV cs))) r1 (.lst []) = S1 at *
  refine fun Q1 hQ1 => ne_nil (lst_of hc) hn (hQ1 _ ?_)
  try clear hQ1 Q1
  refine r_join (fun s e S' => s = [.vB (decide (cs ≠ [] ∧ (at0 cs 0).w = 0))] ∧ e = [some (.vR l), some (.vR r)] ∧ S' = S1) (fun N' hN => r_ifn (fun h0 => ?_) fun h0 => ?_) ?_
  · have hp : 0 < (cs.length : Int) := Int.ofNat_lt.mpr (List.length_pos_iff.mpr h0)
    refine fun Q1 hQ1 => item_cell hc (Int.le_refl 0) hp (hQ1 _ ?_)
    try clear hQ1 Q1
    refine fun Q1 hQ1 => cell_w (hQ1 _ ?_)
    try clear hQ1 Q1
    exact hN _ _ _ ⟨vB_eq ⟨fun z => ⟨h0, z⟩, fun z => z.2⟩, rfl, rfl⟩
  · skip
    exact hN _ _ _ ⟨vB_F fun z => z.1 h0, rfl, rfl⟩
  intro _ _ _ x00
  refine hide fun G0 g0 => ?_
  obtain ⟨rfl, rfl, rfl⟩ := x00
  refine g0 ?_
  clear g0 G0
  refine r_join (fun s e S' => s = [] ∧ e = [some (.vR l), some (.vR r)] ∧ Kp none_ S S' ∧ S' r = some (.lst (cellsV (mend0 cs)))) (fun N' hN => r_if (fun h0 => ?_) fun h0 => ?_) ?_
  · have hp : 0 < (cs.length : Int) := Int.ofNat_lt.mpr (List.length_pos_iff.mpr h0.1)
    refine fun Q1 hQ1 => item_cell hc (Int.le_refl 0) hp (hQ1 _ ?_)
    try clear hQ1 Q1
    refine fun Q1 hQ1 => grid_cut_ok (hQ1 _ _ ?_)
    try clear hQ1 Q1
    refine fun Q1 hQ1 => set_cell hc (Int.le_refl 0) hp (hQ1 _ ?_)
    try clear hQ1 Q1
    exact hN _ _ _ ⟨rfl, rfl, hk.later hr.self, by unfold mend0; rw [if_pos h0]; exact put_at⟩
  · skip
    exact hN _ _ _ ⟨rfl, rfl, hk, by unfold mend0; rw [if_neg h0]; exact hc⟩
  clear hc hn hk
  intro _ _ S1 x00
  refine hide fun G0 g0 => ?_
  obtain ⟨rfl, rfl, hk, hc⟩ := x00
  refine g0 ?_
  clear g0 G0
  unfold mendC at h
  generalize mend0 cs = cs at *
  refine fun r1 hr1 => ?_
  have hc : put S1 r1 (.lst []) r = some (.lst (cellsV cs)) := put_fr hr1 hc
  have hk : Kp none_ S (put S1 r1 (.lst [])) := hk.newL hr1
  have hn : lstOf (put S1 r1 (.lst [])) r1 = some [] := lst_of put_at
  generalize put S1 r1 (.lst []) = S1 at *
  refine fun Q1 hQ1 => ne_nil (lst_of hc) hn (hQ1 _ ?_)
  try clear hQ1 Q1
  refine r_join (fun s e S' => s = [.vB (decide (cs ≠ [] ∧ (at0 cs (cs.length - 1)).w = 2))] ∧ e = [some (.vR l), some (.vR r)] ∧ S' = S1) (fun N' hN => r_ifn (fun h0 => ?_) fun h0 => ?_) ?_
  · have hp : 0 < cs.length := List.length_pos_iff.mpr h0
    refine fun Q1 hQ1 => item_last hc hp (hQ1 _ ?_)
    try clear hQ1 Q1
    refine fun Q1 hQ1 => cell_w (hQ1 _ ?_)
    try clear hQ1 Q1
    exact hN _ _ _ ⟨vB_eq ⟨fun z => ⟨h0, z⟩, fun z => z.2⟩, rfl, rfl⟩
  · skip
    exact hN _ _ _ ⟨vB_F fun z => z.1 h0, rfl, rfl⟩
  intro _ _ _ x00
  refine hide fun G0 g0 => ?_
  obtain ⟨rfl, rfl, rfl⟩ := x00
  refine g0 ?_
  clear g0 G0
  refine r_if (fun h0 => ?_) fun h0 => ?_
  · have hp : 0 < cs.length := List.length_pos_iff.mpr h0.1
    refine fun Q1 hQ1 => item_last hc hp (hQ1 _ ?_)
    try clear hQ1 Q1
    refine fun Q1 hQ1 => grid_cut_ok (hQ1 _ _ ?_)
    try clear hQ1 Q1
    refine fun Q1 hQ1 => set_last hc hp (hQ1 _ ?_)
    try clear hQ1 Q1
    exact h _ _ (hk.later hr.self) hr.self (by unfold mend1; rw [if_pos h0]; exact put_at)
  · skip
    exact h _ _ hk hr.self (by unfold mend1; rw [if_neg h0]; exact hc)
end Mine
end
section
open PySem PySem.W PyProof.Rows
set_option linter.unusedVariables false
set_option linter.unusedSimpArgs false
set_option maxHeartbeats 1000000
namespace Mine
/-! rows as tables -/
noncomputable def tab {α : Type} (n : Nat) (f : Nat → α) : List α := (List.range n).map f
theorem tab_len {α : Type} {n : Nat} {f : Nat → α} : (tab n f).length = n := by simp [tab]
theorem tab_get {α : Type} {n i : Nat} {f : Nat → α} : (tab n f)[i]? = if i < n then some (f i) else none := by
  unfold tab
  rw [List.getElem?_map]
  by_cases h : i < n
  · simp [h]
  · simp [h]
theorem tab_eq {α : Type} {n : Nat} {f g : Nat → α} (h : ∀ i, i < n → f i = g i) : tab n f = tab n g := by
  apply List.ext_getElem?; intro i
  rw [tab_get, tab_get]; split
  · rw [h i (by assumption)]
  · rfl
theorem tab_set {α : Type} {n i : Nat} {f : Nat → α} {c : α} : (tab n f).set i c = tab n (fun j => if j = i then c else f j) := by
  apply List.ext_getElem?; intro j
  rw [List.getElem?_set, tab_get, tab_get, tab_len]
  by_cases h : i = j
  · subst h; simp
  · rw [if_neg h]; split
    · rw [if_neg (fun z => h z.symm)]
    · rfl
theorem tab_take {α : Type} {n k : Nat} {f : Nat → α} (h : k ≤ n) : (tab n f).take k = tab k f := by
  apply List.ext_getElem?; intro j
  rw [List.getElem?_take, tab_get, tab_get]
  by_cases hj : j < k
  · rw [if_pos hj, if_pos (by lia), if_pos hj]
  · rw [if_neg hj, if_neg hj]
theorem tab_drop {α : Type} {n k : Nat} {f : Nat → α} : (tab n f).drop k = tab (n - k) (fun i => f (i + k)) := by
  apply List.ext_getElem?; intro j
  rw [List.getElem?_drop, tab_get, tab_get]
  by_cases hj : k + j < n
  · rw [if_pos hj, if_pos (by lia), Nat.add_comm]
  · rw [if_neg hj, if_neg (by lia)]
theorem tab_app {α : Type} {a b : Nat} {f g : Nat → α} : tab a f ++ tab b g = tab (a + b) (fun i => if i < a then f i else g (i - a)) := by
  apply List.ext_getElem?; intro j
  rw [tab_get]
  by_cases hj : j < a
  · rw [List.getElem?_append_left (by rw [tab_len]; exact hj), tab_get, if_pos hj, if_pos (by lia), if_pos hj]
  · rw [List.getElem?_append_right (by rw [tab_len]; lia), tab_get, tab_len, if_neg hj]
    by_cases h2 : j < a + b
    · rw [if_pos h2, if_pos (by lia)]
    · rw [if_neg h2, if_neg (by lia)]
theorem tab_rep {α : Type} {k : Nat} {c : α} : List.replicate k c = tab k (fun _ => c) := by
  apply List.ext_getElem?; intro j
  rw [tab_get, List.getElem?_replicate]
theorem tab_map {α β : Type} {n : Nat} {f : Nat → α} {g : α → β} : (tab n f).map g = tab n (fun i => g (f i)) := by
  simp [tab]
theorem tab_of {α : Type} (l : List α) (dflt : α) : l = tab l.length (fun i => l.getD i dflt) := by
  apply List.ext_getElem?; intro j
  rw [tab_get]
  by_cases h : j < l.length
  · simp [h]
  · simp [h]
theorem tab_succ {α : Type} {n : Nat} {f : Nat → α} : tab (n + 1) f = tab n f ++ [f n] := by
  unfold tab; rw [List.range_succ]; simp
theorem at0_tab {n : Nat} {f : Nat → Cell} {i : Nat} (h : i < n) : at0 (tab n f) (i : Int) = f i := by
  unfold at0
  rw [List.getD_eq_getElem?_getD, Int.toNat_natCast, tab_get, if_pos h]; rfl
/-! the cuts of a row -/
noncomputable def partF (n : Nat) (f : Nat → Cell) (i : Nat) : Nat → Cell := fun j => if 0 < i ∧ i < n ∧ (f i).w = 0 ∧ (j + 1 = i ∨ j = i) then blank (f j).b else f j
noncomputable def cut2F (n : Nat) (f : Nat → Cell) (l r : Nat) : Nat → Cell := fun j => if (0 < l ∧ (f l).w = 0 ∧ (j + 1 = l ∨ j = l)) ∨ (r + 1 < n ∧ (f (r + 1)).w = 0 ∧ (j = r ∨ j = r + 1)) then blank (f j).b else f j
theorem part2 {n l r : Nat} {f : Nat → Cell} (hl : l ≤ r) (hn : l < n) : partF n (partF n f l) (r + 1) = cut2F n f l r := by
  have e : (partF n f l (r + 1)).w = (f (r + 1)).w := by unfold partF; rw [if_neg (by lia)]
  funext j
  unfold cut2F
  show (if 0 < r + 1 ∧ r + 1 < n ∧ (partF n f l (r + 1)).w = 0 ∧ (j + 1 = r + 1 ∨ j = r + 1) then blank (partF n f l j).b else partF n f l j) = _
  rw [e]
  have eb : (partF n f l j).b = (f j).b := by unfold partF; split <;> rfl
  rw [eb]
  unfold partF
  by_cases h1 : 0 < l ∧ (f l).w = 0 ∧ (j + 1 = l ∨ j = l) <;> by_cases h2 : r + 1 < n ∧ (f (r + 1)).w = 0 ∧ (j = r ∨ j = r + 1)
  · rw [if_pos (by lia), if_pos (by lia)]
  · rw [if_neg (by lia), if_pos (by lia), if_pos (by lia)]
  · rw [if_pos (by lia), if_pos (by lia)]
  · rw [if_neg (by lia), if_neg (by lia), if_neg (by lia)]
theorem partC_tab {n : Nat} {f : Nat → Cell} {i : Nat} : partC (tab n f) i = tab n (partF n f i) := by
  unfold partC
  rw [tab_len]
  by_cases h : 0 < i ∧ i < n ∧ (f i).w = 0
  · have h' : (0 < (i : Int) ∧ (i : Int) < n ∧ (at0 (tab n f) i).w = 0) := ⟨by lia, by lia, by rw [at0_tab h.2.1]; exact h.2.2⟩
    have e : ((i : Int) - 1) = ((i - 1 : Nat) : Int) := by lia
    rw [if_pos h', e, at0_tab h.2.1, at0_tab (by lia), Int.toNat_natCast, Int.toNat_natCast, tab_set, tab_set]
    refine tab_eq fun j hj => ?_
    unfold partF
    by_cases h1 : j = i
    · subst h1; rw [if_pos rfl, if_pos ⟨h.1, h.2.1, h.2.2, Or.inr rfl⟩]
    · by_cases h2 : j = i - 1
      · subst h2; rw [if_neg h1, if_pos rfl, if_pos ⟨h.1, h.2.1, h.2.2, Or.inl (by lia)⟩]
      · rw [if_neg h1, if_neg h2, if_neg (by lia)]
  · rw [if_neg (fun z => h ⟨by lia, by lia, by rw [at0_tab (by lia)] at z; exact z.2.2⟩)]
    refine tab_eq fun j hj => ?_
    unfold partF
    rw [if_neg (fun z => h ⟨z.1, z.2.1, z.2.2.1⟩)]
/-- halves stand beside one another -/
structure WF (n : Nat) (f : Nat → Cell) : Prop where
  zero : ∀ j, j < n → (f j).w = 0 → 0 < j ∧ (f (j - 1)).w = 2 ∧ (f (j - 1)).b = (f j).b
  two : ∀ j, j < n → (f j).w = 2 → j + 1 < n ∧ (f (j + 1)).w = 0
theorem mend_tab {n l r : Nat} {f : Nat → Cell} (hw : WF n f) (hl : l ≤ r) (hr : r < n) : mendC (tab (r + 1 - l) (fun i => f (i + l))) = tab (r + 1 - l) (fun i => cut2F n f l r (i + l)) := by
  unfold mendC
  have hne : ∀ {g : Nat → Cell}, tab (r + 1 - l) g ≠ [] := fun {g} z => by
    have := congrArg List.length z; rw [tab_len] at this; simp at this; lia
  have e0 : mend0 (tab (r + 1 - l) (fun i => f (i + l))) = tab (r + 1 - l) (fun i => if i = 0 ∧ (f l).w = 0 then blank (f l).b else f (i + l)) := by
    unfold mend0
    have a : at0 (tab (r + 1 - l) (fun i => f (i + l))) 0 = f l := by
      have := at0_tab (n := r + 1 - l) (f := fun i => f (i + l)) (i := 0) (by lia)
      simpa using this
    rw [a]
    by_cases h : (f l).w = 0
    · rw [if_pos ⟨hne, h⟩, tab_set]
      refine tab_eq fun j hj => ?_
      by_cases hj0 : j = 0 <;> simp [hj0, h]
    · rw [if_neg (fun z => h z.2)]
      exact tab_eq fun j hj => by rw [if_neg (fun z => h z.2)]
  rw [e0]
  unfold mend1
  rw [tab_len]
  have e1 : (((r + 1 - l : Nat) : Int) - 1) = ((r - l : Nat) : Int) := by lia
  rw [e1, at0_tab (by lia)]
  have e2 : r + 1 - l - 1 = r - l := by lia
  have e3 : r - l + l = r := by lia
  rw [e2, e3]
  have key : (r + 1 < n ∧ (f (r + 1)).w = 0) ↔ (f r).w = 2 := ⟨fun z => by have := (hw.zero _ z.1 z.2).2.1; simpa using this, fun z => hw.two _ hr z⟩
  have kl : (0 < l ∧ (f l).w = 0) ↔ (f l).w = 0 := ⟨fun z => z.2, fun z => ⟨(hw.zero _ (by lia) z).1, z⟩⟩
  have spec : ∀ i, i < r + 1 - l → cut2F n f l r (i + l) = if (i = 0 ∧ (f l).w = 0) ∨ (i = r - l ∧ (f r).w = 2) then blank (f (i + l)).b else f (i + l) := fun i hi => by
    unfold cut2F
    by_cases c1 : i = 0 ∧ (f l).w = 0
    · rw [if_pos (Or.inl ⟨(kl.mpr c1.2).1, c1.2, by lia⟩), if_pos (Or.inl c1)]
    · by_cases c2 : i = r - l ∧ (f r).w = 2
      · rw [if_pos (Or.inr ⟨(key.mpr c2.2).1, (key.mpr c2.2).2, by lia⟩), if_pos (Or.inr c2)]
      · rw [if_neg, if_neg (by lia)]
        rintro (z | z)
        · exact c1 ⟨by lia, z.2.1⟩
        · exact c2 ⟨by lia, key.mp ⟨z.1, z.2.1⟩⟩
  by_cases h : (f r).w = 2
  · by_cases h0 : r - l = 0 ∧ (f l).w = 0
    · have : l = r := by lia
      subst this; rw [h0.2] at h; cases h
    · rw [if_neg h0, if_pos ⟨hne, h⟩, tab_set]
      refine tab_eq fun j hj => ?_
      rw [spec j hj]
      by_cases c : j = r - l
      · subst c; rw [if_pos rfl, if_pos (Or.inr ⟨rfl, h⟩), e3]
      · rw [if_neg c]
        by_cases c1 : j = 0 ∧ (f l).w = 0
        · rw [if_pos c1, if_pos (Or.inl c1), c1.1, Nat.zero_add]
        · rw [if_neg c1, if_neg (by lia)]
  · rw [if_neg]
    · refine tab_eq fun j hj => ?_
      rw [spec j hj]
      by_cases c1 : j = 0 ∧ (f l).w = 0
      · rw [if_pos c1, if_pos (Or.inl c1), c1.1, Nat.zero_add]
      · rw [if_neg c1, if_neg (by lia)]
    · rintro ⟨_, z⟩
      by_cases c : r - l = 0 ∧ (f l).w = 0
      · rw [if_pos c] at z; cases z
      · rw [if_neg c] at z; exact h z
/-- a row whose middle comes from elsewhere -/
noncomputable def mixF (n : Nat) (f : Nat → Cell) (l r : Nat) (g : Nat → Cell) : Nat → Cell := fun j => if l ≤ j ∧ j ≤ r then g j else cut2F n f l r j
theorem WF.cut {n l r : Nat} {f : Nat → Cell} (hw : WF n f) (hl : l ≤ r) (hr : r < n) : WF n (cut2F n f l r) ∧ (cut2F n f l r l).w ≠ 0 ∧ (cut2F n f l r r).w ≠ 2 ∧ (0 < l → (cut2F n f l r (l - 1)).w ≠ 2) ∧ (r + 1 < n → (cut2F n f l r (r + 1)).w ≠ 0) := by
  have key : ∀ j, j < n → ((cut2F n f l r j).w = 0 → (f j).w = 0 ∧ j ≠ l ∧ j ≠ r + 1) ∧ ((cut2F n f l r j).w = 2 → (f j).w = 2 ∧ j ≠ r ∧ j + 1 ≠ l) := fun j hj => by
    unfold cut2F
    split
    · exact ⟨fun z => absurd z (by simp [blank]), fun z => absurd z (by simp [blank])⟩
    · rename_i c
      refine ⟨fun z => ⟨z, ?_, ?_⟩, fun z => ⟨z, ?_, ?_⟩⟩
      · rintro rfl; exact c (Or.inl ⟨(hw.zero _ hj z).1, z, Or.inr rfl⟩)
      · rintro rfl; exact c (Or.inr ⟨hj, z, Or.inr rfl⟩)
      · rintro rfl; exact c (Or.inr ⟨(hw.two _ hj z).1, (hw.two _ hj z).2, Or.inl rfl⟩)
      · rintro rfl; exact c (Or.inl ⟨by lia, (hw.two _ hj z).2, Or.inl rfl⟩)
  have kb : ∀ j, (cut2F n f l r j).b = (f j).b := fun j => by unfold cut2F; split <;> rfl
  refine ⟨⟨fun j hj z => ?_, fun j hj z => ?_⟩, fun z => ((key l (by lia)).1 z).2.1 rfl, fun z => ((key r hr).2 z).2.1 rfl, fun h0 z => ((key (l - 1) (by lia)).2 z).2.2 (by lia), fun h0 z => ((key (r + 1) h0).1 z).2.2 rfl⟩
  · obtain ⟨z1, z2, z3⟩ := (key j hj).1 z
    obtain ⟨y1, y2, y3⟩ := hw.zero j hj z1
    refine ⟨y1, ?_, by rw [kb, kb]; exact y3⟩
    unfold cut2F; rw [if_neg (by
      intro qq
      rcases qq with q | q
      · rcases q.2.2 with q2 | q2
        · lia
        · have h0 := q.2.1; rw [← q2] at h0; rw [h0] at y2; cases y2
      · rcases q.2.2 with q2 | q2
        · lia
        · have h0 := q.2.1; rw [← q2] at h0; rw [h0] at y2; cases y2)]; exact y2
  · obtain ⟨z1, z2, z3⟩ := (key j hj).2 z
    obtain ⟨y1, y2⟩ := hw.two j hj z1
    refine ⟨y1, ?_⟩
    unfold cut2F; rw [if_neg (by
      intro qq
      rcases qq with q | q
      · rcases q.2.2 with q2 | q2
        · have := hw.zero l (by lia) q.2.1
          rw [show l - 1 = j + 1 by lia, y2] at this; cases this.2.1
        · lia
      · rcases q.2.2 with q2 | q2
        · have := hw.zero (r + 1) q.1 q.2.1
          rw [show r + 1 - 1 = j + 1 by lia, y2] at this; cases this.2.1
        · lia)]; exact y2
theorem WF.mix {n l r : Nat} {f g : Nat → Cell} (hw : WF n f) (hl : l ≤ r) (hr : r < n) (hz : ∀ j, l ≤ j → j ≤ r → (g j).w = 0 → l < j ∧ (g (j - 1)).w = 2 ∧ (g (j - 1)).b = (g j).b)
    (ht : ∀ j, l ≤ j → j ≤ r → (g j).w = 2 → j < r ∧ (g (j + 1)).w = 0) : WF n (mixF n f l r g) := by
  obtain ⟨hc, c1, c2, c3, c4⟩ := hw.cut hl hr
  unfold mixF
  refine ⟨fun j hj z => ?_, fun j hj z => ?_⟩
  · by_cases c : l ≤ j ∧ j ≤ r
    · rw [if_pos c] at z
      obtain ⟨a, b, e⟩ := hz j c.1 c.2 z
      rw [if_pos (by lia), if_pos c]
      exact ⟨by lia, b, e⟩
    · rw [if_neg c] at z
      obtain ⟨a, b, e⟩ := hc.zero j hj z
      have : j ≠ r + 1 := by rintro rfl; exact c4 hj z
      rw [if_neg (by lia), if_neg c]; exact ⟨a, b, e⟩
  · by_cases c : l ≤ j ∧ j ≤ r
    · rw [if_pos c] at z
      obtain ⟨a, b⟩ := ht j c.1 c.2 z
      rw [if_pos (by lia)]
      exact ⟨by lia, b⟩
    · rw [if_neg c] at z
      obtain ⟨a, b⟩ := hc.two j hj z
      have : j + 1 ≠ l := by
        intro q; have h3 := c3 (by lia); rw [show l - 1 = j by lia] at h3; exact h3 z
      rw [if_neg (by lia)]; exact ⟨a, b⟩
theorem WF.mixCut {n l r : Nat} {f g : Nat → Cell} (hw : WF n f) (hg : WF n g) (hl : l ≤ r) (hr : r < n) : WF n (mixF n f l r (cut2F n g l r)) := by
  obtain ⟨hc, c1, c2, c3, c4⟩ := hg.cut hl hr
  refine hw.mix hl hr (fun j h1 h2 z => ?_) fun j h1 h2 z => ?_
  · have : j ≠ l := by rintro rfl; exact c1 z
    exact ⟨by lia, (hc.zero j (by lia) z).2⟩
  · have : j ≠ r := by rintro rfl; exact c2 z
    exact ⟨by lia, (hc.two j (by lia) z).2⟩
theorem WF.mixBlank {n l r : Nat} {f : Nat → Cell} {b : Int} (hw : WF n f) (hl : l ≤ r) (hr : r < n) : WF n (mixF n f l r (fun _ => blank b)) :=
  hw.mix hl hr (fun j _ _ z => absurd z (by simp [blank])) fun j _ _ z => absurd z (by simp [blank])
theorem WF.congr {n : Nat} {f g : Nat → Cell} (hw : WF n f) (h : ∀ j, j < n → f j = g j) : WF n g := by
  refine ⟨fun j hj z => ?_, fun j hj z => ?_⟩
  · rw [← h j hj] at z ⊢
    obtain ⟨a, b, c⟩ := hw.zero j hj z
    rw [← h (j - 1) (by lia)]; exact ⟨a, b, c⟩
  · rw [← h j hj] at z
    obtain ⟨a, b⟩ := hw.two j hj z
    rw [← h (j + 1) a]; exact ⟨a, b⟩
/-- all columns: no cut -/
theorem cut2_whole {n : Nat} {f : Nat → Cell} {j : Nat} : cut2F n f 0 (n - 1) j = f j := by
  unfold cut2F; rw [if_neg (by lia)]
/-! loops over ints -/
theorem upInts_succ {a : Int} {k : Nat} : upInts a (a + (k + 1 : Nat)) = upInts a (a + k) ++ [a + k] := by
  unfold upInts
  have e1 : (a + (k + 1 : Nat) - a).toNat = k + 1 := by lia
  have e2 : (a + (k : Int) - a).toNat = k := by lia
  rw [e1, e2, List.range_succ, List.map_append]; rfl
noncomputable def fillC (b : Int) (cs : List Cell) (is : List Int) : List Cell := is.foldl (fun c i => c.set i.toNat (blank b)) cs
theorem fill_tab {n l k : Nat} {b : Int} {f : Nat → Cell} : fillC b (tab n f) (upInts l ((l : Int) + k)) = tab n (fun j => if l ≤ j ∧ j < l + k then blank b else f j) := by
  induction k with
  | zero =>
    have : upInts (l : Int) ((l : Int) + (0 : Nat)) = [] := by unfold upInts; have : ((l : Int) + (0 : Nat) - l).toNat = 0 := by lia
                                                               rw [this]; rfl
    rw [this]
    exact tab_eq fun j hj => by rw [if_neg (by lia)]
  | succ k ih =>
    rw [upInts_succ]
    unfold fillC at ih ⊢
    rw [List.foldl_append, ih, List.foldl_cons, List.foldl_nil, tab_set]
    refine tab_eq fun j hj => ?_
    have e : ((l : Int) + k).toNat = l + k := by lia
    rw [e]
    by_cases h : j = l + k
    · rw [if_pos h, if_pos (by lia)]
    · rw [if_neg h]
      by_cases h2 : l ≤ j ∧ j < l + k
      · rw [if_pos h2, if_pos (by lia)]
      · rw [if_neg h2, if_neg (by lia)]
theorem upInts_mem {a b i : Int} {is js : List Int} (h : upInts a b = js ++ i :: is) : a ≤ i ∧ i < b := by
  have : i ∈ upInts a b := by rw [h]; simp
  unfold upInts at this
  obtain ⟨k, hk, rfl⟩ := List.mem_map.mp this
  have := List.mem_range.mp hk
  lia
theorem enum_get {xs : List V} {k : Nat} {v : V} (h : (xs.zipIdx.map fun p => V.vT [.vI (p.2 : Nat), p.1])[k]? = some v) : ∃ u, xs[k]? = some u ∧ v = .vT [.vI k, u] := by
  rw [List.getElem?_map, List.getElem?_zipIdx] at h
  cases e : xs[k]? with
  | none => rw [e] at h; cases h
  | some u =>
    rw [e] at h
    simp at h
    exact ⟨u, rfl, h.symm⟩
theorem enum_len {xs : List V} : (xs.zipIdx.map fun p => V.vT [.vI (p.2 : Nat), p.1]).length = xs.length := by simp
theorem clip_nat {n i : Nat} {j : Int} (hj : j = i) (h : i ≤ n) : clip n j = i := by
  subst hj; unfold clip; rw [if_neg (by lia)]; lia
theorem slice_tab {n l k : Nat} {f : Nat → V} {a b : Int} (ha : a = l) (hb : b = k) (h : l ≤ n) (h2 : k ≤ n) : sliceL (tab n f) (some a) (some b) = tab (k - l) (fun j => f (j + l)) := by
  unfold sliceL
  simp only [Option.elim, tab_len, clip_nat ha h, clip_nat hb h2]
  rw [tab_drop, tab_take (by lia)]
theorem slice_tab_lo {n k : Nat} {f : Nat → V} {b : Int} (hb : b = k) (h2 : k ≤ n) : sliceL (tab n f) none (some b) = tab k f := by
  unfold sliceL
  simp only [Option.elim, tab_len, clip_nat hb h2]
  rw [tab_drop, tab_take (by lia)]; rfl
theorem slice_tab_hi {n l : Nat} {f : Nat → V} {a : Int} (ha : a = l) (h : l ≤ n) : sliceL (tab n f) (some a) none = tab (n - l) (fun j => f (j + l)) := by
  unfold sliceL
  simp only [Option.elim, tab_len, clip_nat ha h]
  rw [tab_drop, tab_take (by lia)]
theorem cellsV_tab {n : Nat} {f : Nat → Cell} : cellsV (tab n f) = tab n (fun i => cellV (f i)) := tab_map
end Mine
end
section
open PySem PySem.W PyProof.Rows
set_option maxRecDepth 100000
set_option linter.unusedVariables false
set_option linter.unusedSimpArgs false
set_option maxHeartbeats 4000000
namespace Mine
variable {P : Params} {S : St} {Q : V → St → Prop} {d : Nat}

noncomputable def lineD (lc : Addr) (wr : Bool) : List (Str × V) := [(Str.ofString "cells", .vR lc), (Str.ofString "is_wrapped", .vB wr), (Str.ofString "size", .vS (Str.ofString "single"))]
theorem lineD_len {lc : Addr} {wr : Bool} : (lineD lc wr).length ≤ 100 := Nat.le_of_lt (by decide : 3 < 100)
theorem putF_wr {a v : V} : putF [(Str.ofString "cells", a)] (Str.ofString "is_wrapped") v = [(Str.ofString "cells", a), (Str.ofString "is_wrapped", v)] := by kernel_rfl
theorem putF_sz {a b v : V} : putF [(Str.ofString "cells", a), (Str.ofString "is_wrapped", b)] (Str.ofString "size") v = [(Str.ofString "cells", a), (Str.ofString "is_wrapped", b), (Str.ofString "size", v)] := by kernel_rfl
theorem lineD_wr {lc : Addr} {wr w : Bool} : putF (lineD lc wr) (Str.ofString "is_wrapped") (.vB w) = lineD lc w := by kernel_rfl
theorem put_rr {S : St} {a b : Addr} {o o' : AO} (n : b ≠ a) (h : S b = some o') : put S a o b = some o' := by rw [put_off n]; exact h
theorem line_new_ok {n b : Int} (hn : n ≤ 1000) (h : ∀ a dx lc S', Kp none_ S S' → S a = none → S dx = none → S lc = none → S' a = some (.inst 244 dx) → S' dx = some (.attrs (lineD lc false)) → S' lc = some (.lst (cellsV (List.replicate n.toNat (blank b)))) → Q (.vR a) S') : WC (KK P) (d + 5) (.ref 244) [.vI n, penV b] S Q := by
  refine WC_cls (KK P) (f_244 P) (i_244 P) fun dx hdx => ?_
  have ne : dx ≠ dx + 1 := Nat.ne_of_lt (Nat.lt_succ_self _)
  have ne' : dx + 1 ≠ dx := ne.symm
  have hd1 : S (dx + 1) = none := hdx _ (Nat.le_succ _)
  have e1 : put (put S dx (.attrs [])) (dx + 1) (.inst 244 dx) (dx + 1) = some (.inst 244 dx) := put_at
  have e2 : put (put S dx (.attrs [])) (dx + 1) (.inst 244 dx) dx = some (.attrs []) := by rw [put_off ne, put_at]
  have k0 : Kp none_ S (put (put S dx (.attrs [])) (dx + 1) (.inst 244 dx)) := (Kp.new hdx.self).later hd1
  generalize put (put S dx (.attrs [])) (dx + 1) (.inst 244 dx) = S0 at *
  refine RC_go (cf133 P) ?_
  unfold code133
  refine fun Q1 hQ1 => line_blanks_ok hn fun lc S1 k1 hl0 hl => hQ1 _ _ ?_
  try clear hQ1 Q1
  have a1 := k1.at e1 id
  have a2 := k1.at e2 id
  have n1 : lc ≠ dx := by rintro rfl; rw [hl0] at e2; cases e2
  have n2 : lc ≠ dx + 1 := by rintro rfl; rw [hl0] at e1; cases e1
  have hlS : S lc = none := by
    apply Classical.byContradiction; intro z
    have := k0 lc z id; rw [hl0] at this; exact z this.symm
  refine r_setat a1 a2 (s_244_cells P) rfl (by decide : 1 ≤ 100) ?_
  refine r_setat (put_rr ne' a1) put_at (s_244_is_wrapped P) (putF_wr (a := .vR lc)) (by decide : 2 ≤ 100) ?_
  refine r_t0 rfl ?_
  refine r_setat (put_rr ne' (put_rr ne' a1)) put_at (s_244_size P) (putF_sz (a := .vR lc)) lineD_len ?_
  refine ⟨rfl, ?_⟩
  refine h _ dx lc _ ((((k0.trans k1).later hdx.self).later hdx.self).later hdx.self) hd1 hdx.self hlS (put_rr ne' (put_rr ne' (put_rr ne' a1))) ?_ ?_
  · exact put_at
  · exact put_rr n1 (put_rr n1 (put_rr n1 hl))
theorem line_part_m {a dx lc : Addr} {wr : Bool} {cs : List Cell} {i : Int} (h1 : S a = some (.inst 244 dx)) (h2 : S dx = some (.attrs (lineD lc wr))) (hS : S lc = some (.lst (cellsV cs))) (h : Q .vN (put S lc (.lst (cellsV (partC cs i))))) : WC (KK P) (d + 4) (.ref 155) [.vR a, .vI i] S Q := by
  refine RC_go (cf155 P) ?_
  unfold code155
  refine r_attr h1 h2 (d_244_cells P) rfl rfl ?_
  refine fun Q1 hQ1 => line_part_ok hS (hQ1 _ _ h)
theorem part_blank {cs : List Cell} {k : Nat} {b i : Int} (hi : cs.length ≤ i) : partC (cs ++ List.replicate k (blank b)) i = cs ++ List.replicate k (blank b) := by
  unfold partC
  rw [if_neg]
  rintro ⟨h1, h2, h3⟩
  unfold at0 at h3
  rw [List.getD_eq_getElem?_getD, List.getElem?_append_right (by lia), List.getElem?_replicate, if_pos (by simp at h2; lia)] at h3
  simp [blank] at h3
/-- Line.put in front of what is blank -/
theorem line_put_m {a dx lc : Addr} {wr : Bool} {cs : List Cell} {k : Nat} {c : Cell} (h1 : S a = some (.inst 244 dx)) (h2 : S dx = some (.attrs (lineD lc wr))) (hS : S lc = some (.lst (cellsV (cs ++ List.replicate k (blank (-1))))))
   (hc : (c.w = 1 ∧ 1 ≤ k) ∨ (c.w = 2 ∧ 2 ≤ k)) (h : Q .vN (put S lc (.lst (cellsV (cs ++ (if c.w = 2 then [c, ⟨none, 0, c.b⟩] ++ List.replicate (k - 2) (blank (-1)) else [c] ++ List.replicate (k - 1) (blank (-1)))))))) : WC (KK P) (d + 5) (.ref 162) [.vR a, .vI cs.length, cellV c] S Q := by
  have n1 : a ≠ lc := by rintro rfl; rw [h1] at hS; cases hS
  have n2 : dx ≠ lc := by rintro rfl; rw [h2] at hS; cases hS
  have hlen : (cs ++ List.replicate k (blank (-1))).length = cs.length + k := by simp
  have p0 : 0 ≤ (cs.length : Int) := Int.natCast_nonneg _
  have p1 : (cs.length : Int) < ((cs ++ List.replicate k (blank (-1))).length : Nat) := by rw [hlen]; lia
  have p2 : c.w = 2 → ¬ (cs.length : Int) + 1 = ((cs ++ List.replicate k (blank (-1))).length : Nat) := by rw [hlen]; lia
  have p3 : ¬ c.w = 0 := by lia
  have x1 : ∀ o, put S lc o a = some (.inst 244 dx) := fun o => put_rr n1 h1
  have x2 : ∀ o, put S lc o dx = some (.attrs (lineD lc wr)) := fun o => put_rr n2 h2
  have q1 : (cs.length : Int) ≤ cs.length := Int.le_refl _
  have q2 : (cs.length : Int) ≤ cs.length + c.w := by lia
  refine RC_go (cf162 P) ?_
  unfold code162
  (try dsimp only [R_noE0, R_initS, R_init0, R_const, R_load, R_getS, R_get0, R_onV, R_kle])
  refine r_t p0 ?_
  refine r_attr h1 h2 (d_244_cells P) rfl rfl ?_
  refine r_lenC hS ?_
  (try dsimp only [R_lt, R_done, R_thenK, R_not])
  rw [decide_eq_true p1]
  refine r_cell_w ?_
  refine r_f p3 ?_
  refine r_cell_w ?_
  refine r_join (fun s e S' => s = [.vB false] ∧ e = [some (.vR a), some (.vI cs.length), some (cellV c)] ∧ S' = S) (fun N' hN => r_if (fun h2w => ?_) fun h2w => ?_) ?_
  · skip
    refine r_attr h1 h2 (d_244_cells P) rfl rfl ?_
    refine r_lenC hS ?_
    exact hN _ _ _ ⟨by rw [decide_eq_false (p2 h2w)], rfl, rfl⟩
  · skip
    exact hN _ _ _ ⟨rfl, rfl, rfl⟩
  rintro _ _ _ ⟨rfl, rfl, rfl⟩
  refine r_meth h1 h2 (m_244_part P) rfl fun Q1 hQ1 => ?_
  refine line_part_m h1 h2 hS ?_
  rw [part_blank q1, put_same hS]
  refine hQ1 _ _ ?_
  try clear hQ1 Q1
  refine r_meth h1 h2 (m_244_part P) rfl fun Q1 hQ1 => ?_
  refine r_cell_w ?_
  refine line_part_m h1 h2 hS ?_
  rw [part_blank q2, put_same hS]
  refine hQ1 _ _ ?_
  try clear hQ1 Q1
  refine r_attr h1 h2 (d_244_cells P) rfl rfl ?_
  refine fun Q1 hQ1 => set_cell hS p0 p1 (hQ1 _ ?_)
  try clear hQ1 Q1
  rw [Int.toNat_natCast]
  refine r_cell_w ?_
  refine r_if (fun h2w => ?_) fun h2w => ?_
  · skip
    rw [if_pos h2w] at h
    obtain ⟨k', rfl⟩ : ∃ k', k = k' + 2 := ⟨k - 2, by lia⟩
    have p4 : 0 ≤ (cs.length : Int) + 1 := by lia
    have p5 : (cs.length : Int) + 1 < (((cs ++ List.replicate (k' + 2) (blank (-1))).set cs.length c).length : Nat) := by rw [List.length_set, hlen]; lia
    refine fun Q1 hQ1 => right_half_ok (hQ1 _ _ ?_)
    try clear hQ1 Q1
    refine r_attr (x1 _) (x2 _) (d_244_cells P) rfl rfl ?_
    refine fun Q1 hQ1 => set_cell put_at p4 p5 (hQ1 _ ?_)
    try clear hQ1 Q1
    rw [put_put]
    have e : ((cs ++ List.replicate (k' + 2) (blank (-1))).set cs.length c).set ((cs.length : Int) + 1).toNat ⟨none, 0, c.b⟩ = cs ++ ([c, ⟨none, 0, c.b⟩] ++ List.replicate (k' + 2 - 2) (blank (-1))) := by
      rw [show ((cs.length : Int) + 1).toNat = cs.length + 1 from rfl, List.set_append_right _ _ (Nat.le_refl _), List.set_append_right _ _ (Nat.le_succ _), Nat.sub_self, show cs.length.succ - cs.length = 1 from Nat.add_sub_cancel_left (n := cs.length) (m := 1)]
      rfl
    rw [e]; exact h
  · skip
    rw [if_neg h2w] at h
    obtain ⟨k', rfl⟩ : ∃ k', k = k' + 1 := ⟨k - 1, by lia⟩
    have e : ((cs ++ List.replicate (k' + 1) (blank (-1))).set cs.length c) = cs ++ ([c] ++ List.replicate (k' + 1 - 1) (blank (-1))) := by
      rw [List.set_append_right _ _ (Nat.le_refl _), Nat.sub_self]
      rfl
    rw [e]; exact h
theorem len3 : ∀ {ws : List Value}, ws.length = 3 → ∃ a b c, ws = [a, b, c]
  | [a, b, c], _ => ⟨a, b, c, rfl⟩
theorem len5 {ws : List Value} (e : ws.length = 5) : ∃ a b c d e, ws = [a, b, c, d, e] := by
  induction ws using List.casesOn with
  | nil => cases e
  | cons a ws => induction ws using List.casesOn with
    | nil => cases e
    | cons b ws =>
      obtain ⟨x, y, z, rfl⟩ := len3 (Nat.succ.inj (Nat.succ.inj e))
      exact ⟨a, b, x, y, z, rfl⟩
theorem partC_len {cs : List Cell} {i : Int} : (partC cs i).length = cs.length := by
  unfold partC
  split
  · rw [List.length_set, List.length_set]
  · rfl
theorem line_erase_m {a dx lc : Addr} {wr : Bool} {n l r : Nat} {f : Nat → Cell} {b : Int} (h1 : S a = some (.inst 244 dx)) (h2 : S dx = some (.attrs (lineD lc wr))) (hS : S lc = some (.lst (cellsV (tab n f)))) (hl : l ≤ r) (hr : r < n) (hn : n ≤ 1000)
    (h : ∀ wr', Q .vN (put (put S lc (.lst (cellsV (tab n (mixF n f l r (fun _ => blank b)))))) dx (.attrs (lineD lc wr')))) : WC (KK P) (d + 5) (.ref 177) [.vR a, .vI l, .vI r, penV b, .vB false] S Q := by
  have n1 : a ≠ lc := by rintro rfl; rw [h1] at hS; cases hS
  have n2 : dx ≠ lc := by rintro rfl; rw [h2] at hS; cases hS
  have n3 : a ≠ dx := by rintro rfl; rw [h1] at h2; cases h2
  have b1 : -1000000 ≤ (l : Int) := by lia
  have b2 : (l : Int) ≤ 1000000 := by lia
  have b3 : -1000000 ≤ (r : Int) + 1 := by lia
  have b4 : (r : Int) + 1 ≤ 1000000 := by lia
  have em : max (0 : Int) l = l := by lia
  have en : min (r : Int) (((tab n f).length : Nat) - 1 : Int) = r := by rw [tab_len]; lia
  have eg : ¬ (r : Int) < l := by lia
  have ei : upInts (l : Int) ((r : Int) + 1) = upInts l ((l : Int) + (r + 1 - l : Nat)) := by congr 1; lia
  have em2 : tab n (fun j => if l ≤ j ∧ j < l + (r + 1 - l) then blank b else cut2F n f l r j) = tab n (mixF n f l r fun _ => blank b) := by
    refine tab_eq fun j hj => ?_
    unfold mixF
    by_cases c : l ≤ j ∧ j ≤ r
    · rw [if_pos c, if_pos (by lia)]
    · rw [if_neg c, if_neg (by lia)]
  have x1 : ∀ o, put S lc o a = some (.inst 244 dx) := fun o => put_rr n1 h1
  have x2 : ∀ o, put S lc o dx = some (.attrs (lineD lc wr)) := fun o => put_rr n2 h2
  refine RC_def [] [] (by with_unfolding_all rfl) (by rfl) (by rfl) (by with_unfolding_all rfl) (by rfl) (fun h => rfl) rfl (by rfl) (by intro ws hw; obtain ⟨a, b, c, d, e, rfl⟩ := len5 hw; exact ⟨_, rfl, rfl⟩) (by kernel_rfl : _ = some (2, code177)) ?_
  unfold code177
  refine r_max ?_
  refine r_attr h1 h2 (d_244_cells P) rfl rfl ?_
  refine r_lenC hS ?_
  refine r_min ?_
  rw [em, en]
  refine r_f eg ?_
  refine r_forT (loopR_ints (I := fun is e S' => (∃ w, e = [some (.vR a), some (.vI l), some (.vI r), some (penV b), some (.vB false), w, none]) ∧ ∃ c, c.length = n ∧ is.foldl partC c = tab n (cut2F n f l r) ∧ S' = put S lc (.lst (cellsV c))) ?_ ?_ [(l : Int), (r : Int) + 1] _ _ ?_)
  · intro i is u2_ u3_ hI_
    refine hide fun G_ hG_ => ?_
    obtain ⟨⟨w, he0_⟩, c, hc, hf, he1_⟩ := hI_
    subst he0_
    subst he1_
    refine hG_ ?_
    clear hG_ G_
    refine ⟨trivial, fun Q' hQ => ?_⟩
    refine r_attr (x1 _) (x2 _) (d_244_cells P) rfl rfl ?_
    refine r_lenC put_at ?_
    refine r_if (fun hi => ?_) fun hi => ?_
    · skip
      refine r_meth (x1 _) (x2 _) (m_244_part P) rfl fun Q1 hQ1 => ?_
      refine line_part_m (x1 _) (x2 _) put_at ?_
      rw [put_put]
      refine hQ1 _ _ ?_
      try clear hQ1 Q1
      exact hQ _ _ ⟨⟨_, rfl⟩, _, (partC_len).trans hc, hf, rfl⟩
    · skip
      refine hQ _ _ ⟨⟨_, rfl⟩, c, hc, ?_, rfl⟩
      have : partC c i = c := if_neg fun z => hi z.2.1
      rw [List.foldl_cons, this] at hf; exact hf
  · intro u0_ u1_ hI_
    refine hide fun G_ hG_ => ?_
    obtain ⟨⟨w, he0_⟩, c, hc, hf, he1_⟩ := hI_
    subst he0_
    subst he1_
    refine hG_ ?_
    clear hG_ G_
    rw [List.foldl_nil] at hf
    subst hf
    refine ⟨trivial, ?_⟩
    refine r_for2 b1 b2 b3 b4 (loopR_ints (I := fun is e S' => (∃ v, e = [some (.vR a), some (.vI l), some (.vI r), some (penV b), some (.vB false), w, v]) ∧
      ∃ c js, upInts (l : Int) ((r : Int) + 1) = js ++ is ∧ c.length = n ∧ fillC b c is = tab n (mixF n f l r (fun _ => blank b)) ∧ S' = put S lc (.lst (cellsV c))) ?_ ?_ _ _ _ ?_)
    · intro i is u2_ u3_ hI_
      refine hide fun G_ hG_ => ?_
      obtain ⟨⟨v, he0_⟩, c, js, hj, hc, hf, he1_⟩ := hI_
      subst he0_
      subst he1_
      refine hG_ ?_
      clear hG_ G_
      refine ⟨trivial, fun Q' hQ => ?_⟩
      obtain ⟨g1, g2⟩ := upInts_mem hj
      have g3 : 0 ≤ i := by lia
      have g4 : i < c.length := by lia
      refine fun Q1 hQ1 => blank_cell_ok (hQ1 _ _ ?_)
      try clear hQ1 Q1
      refine r_attr (x1 _) (x2 _) (d_244_cells P) rfl rfl ?_
      refine fun Q1 hQ1 => set_cell put_at g3 g4 (hQ1 _ ?_)
      try clear hQ1 Q1
      rw [put_put]
      exact hQ _ _ ⟨⟨_, rfl⟩, _, js ++ [i], by rw [hj, List.append_assoc]; rfl, (List.length_set).trans hc, hf, rfl⟩
    · intro u0_ u1_ hI_
      refine hide fun G_ hG_ => ?_
      obtain ⟨⟨v, he0_⟩, c, js, hj, hc, hf, he1_⟩ := hI_
      subst he0_
      subst he1_
      refine hG_ ?_
      clear hG_ G_
      unfold fillC at hf
      rw [List.foldl_nil] at hf
      subst hf
      refine ⟨trivial, ?_⟩
      refine r_attr (x1 _) (x2 _) (d_244_cells P) rfl rfl ?_
      refine r_lenC put_at ?_
      refine r_if (fun _ => ?_) fun _ => ?_
      · skip
        refine r_setat (x1 _) (x2 _) (s_244_is_wrapped P) lineD_wr lineD_len ?_
        exact h false
      · skip
        have := h wr; rw [put_same (x2 _)] at this; exact this
    · exact ⟨⟨_, rfl⟩, _, [], rfl, tab_len, by rw [ei, fill_tab, em2], rfl⟩
  · refine ⟨⟨_, rfl⟩, tab n f, tab_len, ?_, (put_same hS).symm⟩
    rw [List.foldl_cons, List.foldl_cons, List.foldl_nil, partC_tab, show ((r : Int) + 1) = ((r + 1 : Nat) : Int) from rfl, partC_tab, part2 hl (Nat.lt_of_le_of_lt hl hr)]
end Mine
end
section
open PySem PySem.W PyProof.Rows
set_option maxRecDepth 100000
set_option linter.unusedVariables false
set_option linter.unusedSimpArgs false
set_option maxHeartbeats 4000000
namespace Mine
variable {P : Params} {S S' : St} {Q : V → St → Prop} {d : Nat} {F : Addr → Prop} {g : Addr} {m n : Nat}

structure GI where
  gdx : Addr
  L : Addr
  as : Nat → Addr
  dxs : Nat → Addr
  lcs : Nat → Addr
  wrs : Nat → Bool
noncomputable def gridD (m n : Nat) (L : Addr) : List (Str × V) := [(Str.ofString "rows", .vI m), (Str.ofString "columns", .vI n), (Str.ofString "lines", .vR L)]
structure GSd (S : St) (F : Addr → Prop) (g : Addr) (m n : Nat) (G : GI) (rows : Nat → Nat → Cell) : Prop where
  gi : S g = some (.inst 393 G.gdx)
  gd : S G.gdx = some (.attrs (gridD m n G.L))
  ln : S G.L = some (.lst (tab m (fun i => .vR (G.as i))))
  ai : ∀ i, i < m → S (G.as i) = some (.inst 244 (G.dxs i))
  ad : ∀ i, i < m → S (G.dxs i) = some (.attrs (lineD (G.lcs i) (G.wrs i)))
  al : ∀ i, i < m → S (G.lcs i) = some (.lst (cellsV (tab n (rows i))))
  inj : ∀ i j, i < m → j < m → G.lcs i = G.lcs j → i = j
  mp : 0 < m
  np : 0 < n
  ml : m ≤ 10
  nl : n ≤ 10
  f1 : ¬ F g
  f2 : ¬ F G.gdx
  f3 : ¬ F G.L
  f4 : ∀ i, i < m → ¬ F (G.as i) ∧ ¬ F (G.dxs i) ∧ ¬ F (G.lcs i)
  fa : ∀ a, F a → S a ≠ none
/-- what is of F stays -/
noncomputable def KF (F : Addr → Prop) (S S' : St) : Prop := ∀ a, F a → S' a = S a
theorem KF.refl : KF F S S := fun _ _ => rfl
theorem KF.trans {S1 S2 S3 : St} (x : KF F S1 S2) (y : KF F S2 S3) : KF F S1 S3 := fun a h => (y a h).trans (x a h)
theorem GSd.mono {G : GI} {rows : Nat → Nat → Cell} {F' : Addr → Prop} (x : GSd S F g m n G rows) (k : Kp F S S') (h1 : ∀ a, F' a → F a ∨ S a = none) (h2 : ∀ a, F' a → S' a ≠ none) : GSd S' F' g m n G rows := by
  have no : ∀ {a : Addr} {o : AO}, S a = some o → ¬ F a → ¬ F' a := fun e q z => by
    rcases h1 _ z with z | z
    · exact q z
    · rw [e] at z; cases z
  exact ⟨k.at x.gi x.f1, k.at x.gd x.f2, k.at x.ln x.f3, fun i h => k.at (x.ai i h) (x.f4 i h).1, fun i h => k.at (x.ad i h) (x.f4 i h).2.1, fun i h => k.at (x.al i h) (x.f4 i h).2.2, x.inj, x.mp, x.np, x.ml, x.nl,
    no x.gi x.f1, no x.gd x.f2, no x.ln x.f3, fun i h => ⟨no (x.ai i h) (x.f4 i h).1, no (x.ad i h) (x.f4 i h).2.1, no (x.al i h) (x.f4 i h).2.2⟩, h2⟩
theorem GSd.keep {G : GI} {rows : Nat → Nat → Cell} (x : GSd S F g m n G rows) (k : Kp none_ S S') : GSd S' F g m n G rows :=
  x.mono (k.weak fun _ z => z.elim) (fun _ z => Or.inl z) fun a z => by rw [k a (x.fa a z) id]; exact x.fa a z
theorem GSd.kf {G : GI} {rows : Nat → Nat → Cell} (x : GSd S F g m n G rows) (k : Kp none_ S S') : KF F S S' := fun a z => k a (x.fa a z) id
theorem kinds {a b : Addr} {o o' : AO} (h : S a = some o) (h' : S b = some o') (n : o ≠ o') : a ≠ b := by
  rintro rfl; rw [h] at h'; exact n (Option.some.inj h')
/-- one line is changed -/
theorem GSd.upd {G : GI} {rows : Nat → Nat → Cell} {k : Nat} {f : Nat → Cell} {wr : Bool} (x : GSd S F g m n G rows) (hk : k < m) (hp : Kp (fun a => a = G.lcs k ∨ a = G.dxs k) S S')
    (h1 : S' (G.lcs k) = some (.lst (cellsV (tab n f)))) (h2 : S' (G.dxs k) = some (.attrs (lineD (G.lcs k) wr))) :
    GSd S' F g m n { G with wrs := fun i => if i = k then wr else G.wrs i } (fun i => if i = k then f else rows i) ∧ KF F S S' := by
  have a1 := x.al k hk
  have a2 := x.ad k hk
  have ne1 : ∀ {a : Addr} {C dx : Addr}, S a = some (.inst C dx) → ¬ (a = G.lcs k ∨ a = G.dxs k) := fun e z => by
    rcases z with rfl | rfl
    · rw [a1] at e; cases e
    · rw [a2] at e; cases e
  have ngd : ¬ (G.gdx = G.lcs k ∨ G.gdx = G.dxs k) := fun z => by
    have e := x.gd
    rcases z with z | z
    · rw [z, a1] at e; cases e
    · rw [z, a2] at e
      have := (AO.attrs.inj (Option.some.inj e))
      have := congrArg List.head? this
      simp [lineD, gridD, strEq] at this
  have nL : ¬ (G.L = G.lcs k ∨ G.L = G.dxs k) := fun z => by
    have e := x.ln
    rcases z with z | z
    · rw [z, a1] at e
      have := AO.lst.inj (Option.some.inj e)
      have h0 := congrArg (fun l => l[0]?) this
      simp only [tab_get, cellsV, List.getElem?_map, if_pos x.mp, if_pos x.np, Option.map_some, cellV] at h0
      cases h0
    · rw [z, a2] at e; cases e
  have o1 : ∀ i, i < m → i ≠ k → ¬ (G.lcs i = G.lcs k ∨ G.lcs i = G.dxs k) := fun i hi hn z => by
    rcases z with z | z
    · exact hn (x.inj i k hi hk z)
    · have e := x.al i hi; rw [z, a2] at e; cases e
  have o2 : ∀ i, i < m → i ≠ k → ¬ (G.dxs i = G.lcs k ∨ G.dxs i = G.dxs k) := fun i hi hn z => by
    have e := x.ad i hi
    rcases z with z | z
    · rw [z, a1] at e; cases e
    · rw [z, a2] at e
      have := AO.attrs.inj (Option.some.inj e)
      simp only [lineD, List.cons.injEq, Prod.mk.injEq, V.vR.injEq, true_and] at this
      exact hn (x.inj i k hi hk this.1.symm)
  have kf : KF F S S' := fun a z => hp a (x.fa a z) (fun q => by
    rcases q with rfl | rfl
    · exact (x.f4 k hk).2.2 z
    · exact (x.f4 k hk).2.1 z)
  refine ⟨⟨hp.at x.gi (ne1 x.gi), hp.at x.gd ngd, hp.at x.ln nL, fun i h => hp.at (x.ai i h) (ne1 (x.ai i h)), fun i h => ?_, fun i h => ?_, x.inj, x.mp, x.np, x.ml, x.nl, x.f1, x.f2, x.f3, x.f4, fun a z => by rw [kf a z]; exact x.fa a z⟩, kf⟩
  · by_cases c : i = k
    · subst c; simp only [if_true]; exact h2
    · simp only [c, if_false]; exact hp.at (x.ad i h) (o2 i h c)
  · by_cases c : i = k
    · subst c; simp only [if_true]; exact h1
    · simp only [c, if_false]; exact hp.at (x.al i h) (o1 i h c)
theorem GSd.congr {G : GI} {rows rows' : Nat → Nat → Cell} (x : GSd S F g m n G rows) (h : ∀ i j, i < m → j < n → rows i j = rows' i j) : GSd S F g m n G rows' :=
  { x with al := fun i hi => by rw [← tab_eq (fun j hj => h i j hi hj)]; exact x.al i hi }
theorem GSd.wr {G : GI} {rows : Nat → Nat → Cell} {k : Nat} {wr : Bool} (x : GSd S F g m n G rows) (hk : k < m) :
    (∃ G', GSd (put S (G.dxs k) (.attrs (lineD (G.lcs k) wr))) F g m n G' rows) ∧ KF F S (put S (G.dxs k) (.attrs (lineD (G.lcs k) wr))) := by
  have ne : G.lcs k ≠ G.dxs k := kinds (x.al k hk) (x.ad k hk) (fun z => nomatch z)
  obtain ⟨a, b⟩ := x.upd (S' := put S (G.dxs k) (.attrs (lineD (G.lcs k) wr))) (f := rows k) (wr := wr) hk (Kp.upd (Or.inr rfl)) (put_rr ne (x.al k hk)) put_at
  refine ⟨⟨_, a.congr fun i j _ _ => ?_⟩, b⟩
  split
  · rename_i e; rw [e]
  · rfl
section
variable {G : GI} {rows : Nat → Nat → Cell}
theorem GSd.lines {k : V → Prop} (x : GSd S F g m n G rows) (h : k (.vR G.L)) : getA (KK P) S (.vR g) (Str.ofString "lines") k := getA_ok x.gi x.gd (d_393_lines P) rfl rfl h
theorem GSd.columns {k : V → Prop} (x : GSd S F g m n G rows) (h : k (.vI n)) : getA (KK P) S (.vR g) (Str.ofString "columns") k := getA_ok x.gi x.gd (d_393_columns P) rfl rfl h
theorem GSd.item {k : V → Prop} {i : Nat} (x : GSd S F g m n G rows) (hi : i < m) (h : k (.vR (G.as i))) : Mine.item S (.vR G.L) (.vI i) k := by
  refine ⟨_, .vR (G.as i), lst_of x.ln, ?_, h⟩
  unfold itemL
  rw [if_pos (by lia), Int.toNat_natCast, tab_get, if_pos hi]
theorem GSd.cells {k : V → Prop} {i : Nat} (x : GSd S F g m n G rows) (hi : i < m) (h : k (.vR (G.lcs i))) : getA (KK P) S (.vR (G.as i)) (Str.ofString "cells") k := getA_ok (x.ai i hi) (x.ad i hi) (d_244_cells P) rfl rfl h
theorem GSd.wrap {k : St → Prop} {i : Nat} (x : GSd S F g m n G rows) (hi : i < m) (h : ∀ S' G', GSd S' F g m n G' rows → KF F S S' → k S') : setA (KK P) S (.vR (G.as i)) (Str.ofString "is_wrapped") (.vB false) k := by
  refine setA_ok (x.ai i hi) (x.ad i hi) (s_244_is_wrapped P) lineD_len ?_
  obtain ⟨⟨G', a⟩, b⟩ := x.wr (wr := false) hi
  exact h _ G' a b
theorem int_pred {i : Nat} (h : 0 < i) : ((i : Int) - 1) = ((i - 1 : Nat) : Int) := by lia
theorem big {i : Nat} {j : Int} (h : j = i) (h2 : i ≤ 1000) : -1000000 ≤ j ∧ j ≤ 1000000 := by lia
theorem line_m {i : Nat} (x : GSd S F g m n G rows) (hi : i < m) (h : Q (.vR (G.as i)) S) : WC (KK P) (d + 1) (.ref 267) [.vR g, .vI i] S Q := by
  refine RC_go (cf267 P) ?_
  unfold code267
  refine fun Q1 hQ1 => x.lines (hQ1 _ ?_)
  try clear hQ1 Q1
  refine fun Q1 hQ1 => x.item hi (hQ1 _ ?_)
  try clear hQ1 Q1
  exact h
theorem is_wide_m {t l b r : Int} (x : GSd S F g m n G rows) (h : Q (.vB (decide (l = 0 ∧ r = n - 1))) S) : WC (KK P) (d + 1) (.ref 281) [.vR g, .vT [.vI t, .vI l, .vI b, .vI r]] S Q := by
  refine RC_go (cf281 P) ?_
  unfold code281
  refine r_t1 rfl ?_
  refine r_if (fun h0 => ?_) fun h0 => ?_
  · skip
    refine r_tup (i := 3) rfl (by decide) ?_
    refine fun Q1 hQ1 => x.columns (hQ1 _ ?_)
    try clear hQ1 Q1
    (try dsimp only [R_noE0, R_initS, R_init0, R_const, R_sub, R_eq, R_done, R_thenK, R_ret])
    rw [decide_eq_decide.mpr (⟨fun z => ⟨h0, z⟩, fun z => z.2⟩ : r = n - 1 ↔ l = 0 ∧ r = n - 1)]
    exact h
  · skip
    rw [decide_eq_false h0]
    rw [decide_eq_false (fun z => h0 z.1)] at h
    exact h
theorem part_above_m {i : Nat} (x : GSd S F g m n G rows) (hi : i < m + 1) (h : ∀ S' G', GSd S' F g m n G' rows → KF F S S' → Q .vN S') : WC (KK P) (d + 1) (.ref 293) [.vR g, .vI i] S Q := by
  refine RC_go (cf293 P) ?_
  unfold code293
  refine r_if (fun h0 => ?_) fun h0 => ?_
  · skip
    have h0 : 0 < i := Int.ofNat_lt.mp h0
    have h1 : i - 1 < m := by lia
    refine fun Q1 hQ1 => x.lines (hQ1 _ ?_)
    try clear hQ1 Q1
    (try dsimp only [R_noE0, R_initS, R_init0, R_load, R_getS, R_get0, R_const, R_onV, R_sub])
    rw [int_pred h0]
    refine fun Q1 hQ1 => x.item h1 (hQ1 _ ?_)
    try clear hQ1 Q1
    refine fun Q1 hQ1 => x.wrap h1 fun S' G' x' kf => hQ1 _ ?_
    try clear hQ1 Q1
    exact h _ _ x' kf
  · skip
    exact h _ _ x KF.refl
theorem unwrap_m {t l b r : Nat} (x : GSd S F g m n G rows) (hb : t ≤ b) (hbm : b < m) (h : ∀ S' G', GSd S' F g m n G' rows → KF F S S' → Q .vN S') : WC (KK P) (d + 2) (.ref 314) [.vR g, .vT [.vI t, .vI l, .vI b, .vI r]] S Q := by
  have hm := x.ml
  obtain ⟨b1, b2⟩ := big (i := t) rfl (by lia)
  obtain ⟨b3, b4⟩ := big (i := b + 1) (j := (b : Int) + 1) rfl (by lia)
  obtain ⟨b5, b6⟩ := big (i := b + 2) (j := (b : Int) + 2) rfl (by lia)
  have le1 : t ≤ b + 1 := by lia
  have le2 : t ≤ b + 2 := by lia
  refine RC_go (cf314 P) ?_
  unfold code314
  refine r_tup (i := 3) rfl (by decide) ?_
  refine fun Q1 hQ1 => x.columns (hQ1 _ ?_)
  try clear hQ1 Q1
  refine r_join (fun s e S' => s = [] ∧ (∃ w, e = [some (.vR g), some (.vT [.vI t, .vI l, .vI b, .vI r]), w]) ∧ KF F S S' ∧ ∃ G', GSd S' F g m n G' rows) (fun N' hN => r_if (fun _ => ?_) fun _ => ?_) ?_
  · skip
    refine r_t0 rfl ?_
    refine r_tup (i := 2) rfl (by decide) ?_
    refine r_for2 b1 b2 b3 b4 (rUp (fun i e S' => (∃ w, e = [some (.vR g), some (.vT [.vI t, .vI l, .vI b, .vI r]), w]) ∧ KF F S S' ∧ ∃ G', GSd S' F g m n G' rows) rfl (show ((b : Int) + 1) = ((b + 1 : Nat) : Int) from rfl) le1 ?_ ?_ _ _ ⟨⟨_, rfl⟩, KF.refl, _, x⟩)
    · intro i u1_ S1 hi1 hi2 hI_
      refine hide fun G_ hG_ => ?_
      obtain ⟨⟨w, he0_⟩, kf, G1, x1⟩ := hI_
      subst he0_
      refine hG_ ?_
      clear hG_ G_
      refine ⟨trivial, fun Q' q => ?_⟩
      have hi : i < m := by lia
      refine fun Q1 hQ1 => x1.lines (hQ1 _ ?_)
      try clear hQ1 Q1
      refine fun Q1 hQ1 => x1.item hi (hQ1 _ ?_)
      try clear hQ1 Q1
      refine fun Q1 hQ1 => x1.wrap hi fun S2 G2 x2 k2 => hQ1 _ ?_
      try clear hQ1 Q1
      exact q _ _ ⟨⟨_, rfl⟩, kf.trans k2, _, x2⟩
    · rintro e S1 ⟨he, hI⟩
      refine ⟨trivial, ?_⟩
      exact hN _ _ _ ⟨rfl, he, hI⟩
  · skip
    exact hN _ _ _ ⟨rfl, ⟨_, rfl⟩, KF.refl, _, x⟩
  intro u0_ u1_ S1 hI_
  refine hide fun G_ hG_ => ?_
  obtain ⟨he0_, ⟨w, he1_⟩, kf, G1, x1⟩ := hI_
  subst he0_
  subst he1_
  refine hG_ ?_
  clear hG_ G_
  refine r_t1 rfl ?_
  refine r_if (fun _ => ?_) fun _ => ?_
  · skip
    refine r_t0 rfl ?_
    refine r_tup (i := 2) rfl (by decide) ?_
    refine r_for2 b1 b2 b5 b6 (rUp (fun i e S' => (∃ w, e = [some (.vR g), some (.vT [.vI t, .vI l, .vI b, .vI r]), w]) ∧ KF F S S' ∧ ∃ G', GSd S' F g m n G' rows) rfl (show ((b : Int) + 2) = ((b + 2 : Nat) : Int) from rfl) le2 ?_ ?_ _ _ ⟨⟨_, rfl⟩, kf, _, x1⟩)
    · intro i u1_ S1 hi1 hi2 hI_
      refine hide fun G_ hG_ => ?_
      obtain ⟨⟨w, he0_⟩, kf, G1, x1⟩ := hI_
      subst he0_
      refine hG_ ?_
      clear hG_ G_
      refine ⟨trivial, fun Q' q => ?_⟩
      have hi : i < m + 1 := by lia
      refine r_meth x1.gi x1.gd (m_393_part_above P) rfl fun Q1 hQ1 => ?_
      refine part_above_m x1 hi fun S2 G2 x2 k2 => hQ1 _ _ ?_
      try clear hQ1 Q1
      exact q _ _ ⟨⟨_, rfl⟩, kf.trans k2, _, x2⟩
    · intro u0_ S1 hI_
      refine hide fun G_ hG_ => ?_
      obtain ⟨⟨w, he0_⟩, kf, G1, x1⟩ := hI_
      subst he0_
      refine hG_ ?_
      clear hG_ G_
      refine ⟨trivial, ?_⟩
      exact h _ _ x1 kf
  · skip
    exact h _ _ x1 kf
theorem cells_of_m {i l r : Nat} (x : GSd S F g m n G rows) (hi : i < m) (hl : l ≤ r) (hr : r < n) (hw : WF n (rows i)) (h : ∀ q S', Kp none_ S S' → S q = none → S' q = some (.lst (cellsV (tab (r + 1 - l) (fun j => cut2F n (rows i) l r (j + l))))) → Q (.vR q) S') : WC (KK P) (d + 5) (.ref 335) [.vR g, .vI i, .vI l, .vI r] S Q := by
  refine RC_go (cf335 P) ?_
  unfold code335
  refine fun Q1 hQ1 => x.lines (hQ1 _ ?_)
  try clear hQ1 Q1
  refine fun Q1 hQ1 => x.item hi (hQ1 _ ?_)
  try clear hQ1 Q1
  refine fun Q1 hQ1 => x.cells hi (hQ1 _ ?_)
  try clear hQ1 Q1
  refine ⟨_, _, rfl, lst_of (x.al i hi), fun r1 hr1 => ?_⟩
  rw [cellsV_tab, slice_tab (a := (l : Int)) (b := (r : Int) + 1) (l := l) (k := r + 1) rfl rfl (Nat.le_trans hl (Nat.le_of_lt hr)) hr, ← cellsV_tab (f := fun j => rows i (j + l))]
  refine fun Q1 hQ1 => grid_mended_ok put_at fun q S1 k1 hq0 hq => hQ1 _ _ ?_
  try clear hQ1 Q1
  rw [mend_tab hw hl hr] at hq
  refine h q S1 ((Kp.new hr1.self).trans k1) ?_ hq
  exact Classical.byContradiction fun z => z (by rw [← hq0]; exact (Kp.new hr1.self (fp := none_) q z id).symm)
noncomputable def pc1 (f : Nat → Cell) (l : Nat) : Nat → Cell := fun j => if j + 1 = l ∧ (f l).w = 0 then blank (f j).b else f j
noncomputable def pc2 (n : Nat) (f : Nat → Cell) (l r : Nat) : Nat → Cell := fun j => if (j + 1 = l ∧ (f l).w = 0) ∨ (j = r + 1 ∧ j < n ∧ (f (r + 1)).w = 0) then blank (f j).b else f j
noncomputable def pc3 (n : Nat) (h f : Nat → Cell) (l r k : Nat) : Nat → Cell := fun j => if l ≤ j ∧ j < l + k then f (j - l) else pc2 n h l r j
theorem pc1_same {f : Nat → Cell} {l : Nat} (h : ¬ (f l).w = 0) : tab n (pc1 f l) = tab n f := tab_eq fun j _ => if_neg fun z => h z.2
theorem pc1_set {f : Nat → Cell} {l : Nat} (h : (f l).w = 0) (hl : 0 < l) : (tab n f).set (l - 1) (blank (f (l - 1)).b) = tab n (pc1 f l) := by
  rw [tab_set]
  refine tab_eq fun j _ => ?_
  unfold pc1
  by_cases c : j = l - 1
  · subst c; rw [if_pos rfl, if_pos ⟨Nat.sub_add_cancel hl, h⟩]
  · rw [if_neg c, if_neg fun z => c (by rw [← z.1]; rfl)]
theorem pc1_at {f : Nat → Cell} {l r : Nat} (h : l ≤ r) : pc1 f l (r + 1) = f (r + 1) := if_neg (by lia)
theorem pc2_same {f : Nat → Cell} {l r : Nat} (h : ¬ (r + 1 < n ∧ (f (r + 1)).w = 0)) : tab n (pc1 f l) = tab n (pc2 n f l r) := tab_eq fun j hj => by
  unfold pc1 pc2
  by_cases c : j + 1 = l ∧ (f l).w = 0
  · rw [if_pos c, if_pos (Or.inl c)]
  · rw [if_neg c, if_neg]
    rintro (z | z)
    · exact c z
    · exact h ⟨z.1 ▸ hj, z.2.2⟩
theorem pc2_set {f : Nat → Cell} {l r : Nat} (h : (f (r + 1)).w = 0) : (tab n (pc1 f l)).set (r + 1) (blank (f (r + 1)).b) = tab n (pc2 n f l r) := by
  rw [tab_set]
  refine tab_eq fun j hj => ?_
  unfold pc1 pc2
  by_cases c : j = r + 1
  · subst c; rw [if_pos rfl, if_pos (Or.inr ⟨rfl, hj, h⟩)]
  · rw [if_neg c]
    by_cases c2 : j + 1 = l ∧ (f l).w = 0
    · rw [if_pos c2, if_pos (Or.inl c2)]
    · rw [if_neg c2, if_neg fun z => z.elim c2 fun z => c z.1]
theorem pc3_zero {h f : Nat → Cell} {l r : Nat} : tab n (pc2 n h l r) = tab n (pc3 n h f l r 0) := tab_eq fun j _ => (if_neg fun z => Nat.lt_irrefl _ (Nat.lt_of_le_of_lt z.1 z.2)).symm
theorem pc3_set {h f : Nat → Cell} {l r k : Nat} : (tab n (pc3 n h f l r k)).set (l + k) (f k) = tab n (pc3 n h f l r (k + 1)) := by
  rw [tab_set]
  refine tab_eq fun j _ => ?_
  unfold pc3
  by_cases c : j = l + k
  · subst c; rw [if_pos rfl, if_pos ⟨Nat.le_add_right l k, Nat.lt_succ_self _⟩, Nat.add_sub_cancel_left]
  · rw [if_neg c]
    by_cases c2 : l ≤ j ∧ j < l + k
    · rw [if_pos c2, if_pos ⟨c2.1, Nat.lt_succ_of_lt c2.2⟩]
    · rw [if_neg c2, if_neg fun z => c2 ⟨z.1, Nat.lt_of_le_of_ne (Nat.le_of_lt_succ z.2) c⟩]
theorem pc3_end {h f : Nat → Cell} {l r : Nat} (hl : l ≤ r) : tab n (pc3 n h f l r (r + 1 - l)) = tab n (mixF n h l r fun j => f (j - l)) := tab_eq fun j hj => by
  unfold pc3 mixF pc2 cut2F
  have e : l + (r + 1 - l) = r + 1 := by lia
  rw [e]
  by_cases c : l ≤ j ∧ j ≤ r
  · rw [if_pos c, if_pos ⟨c.1, Nat.lt_succ_of_le c.2⟩]
  · rw [if_neg c, if_neg fun z => c ⟨z.1, Nat.le_of_lt_succ z.2⟩]
    by_cases c1 : j + 1 = l ∧ (h l).w = 0
    · rw [if_pos (Or.inl c1), if_pos (Or.inl ⟨c1.1 ▸ Nat.succ_pos j, c1.2, Or.inl c1.1⟩)]
    · by_cases c2 : j = r + 1 ∧ j < n ∧ (h (r + 1)).w = 0
      · rw [if_pos (Or.inr c2), if_pos (Or.inr ⟨c2.1 ▸ c2.2.1, c2.2.2, Or.inr c2.1⟩)]
      · rw [if_neg fun z => z.elim c1 c2, if_neg]
        rintro (z | z)
        · rcases z.2.2 with z2 | z2
          · exact c1 ⟨z2, z.2.1⟩
          · exact c ⟨Nat.le_of_eq z2.symm, z2 ▸ hl⟩
        · rcases z.2.2 with z2 | z2
          · exact c ⟨z2 ▸ hl, Nat.le_of_eq z2⟩
          · exact c2 ⟨z2, hj, z.2.1⟩
theorem nat_lt {k n : Nat} {f : Nat → Cell} (h : k < n) : (k : Int) < ((tab n f).length : Nat) := by rw [tab_len]; exact Int.ofNat_lt.mpr h
theorem nat0 {k : Nat} : 0 ≤ (k : Int) := Int.natCast_nonneg k
theorem put_cells_m {i l r : Nat} {q : Addr} {f : Nat → Cell} (x : GSd S F g m n G rows) (hi : i < m) (hl : l ≤ r) (hr : r < n) (hw : WF n (rows i)) (hq : S q = some (.lst (cellsV (tab (r + 1 - l) f)))) (hne : q ≠ G.lcs i) (h : ∀ S' G', GSd S' F g m n G' (fun k => if k = i then mixF n (rows i) l r (fun j => f (j - l)) else rows k) → KF F S S' → Q .vN S') : WC (KK P) (d + 5) (.ref 342) [.vR g, .vI i, .vI l, .vR q] S Q := by
  have eE : ((l : Int) + ((tab (r + 1 - l) f).length : Nat)) = ((r + 1 : Nat) : Int) := by rw [tab_len]; lia
  have hnz : ¬ tab (r + 1 - l) f = [] := fun z => by
    have := congrArg List.length z; rw [tab_len] at this; simp at this; lia
  have hln : l < n := Nat.lt_of_le_of_lt hl hr
  refine RC_go (cf342 P) ?_
  unfold code342
  refine fun Q1 hQ1 => x.lines (hQ1 _ ?_)
  try clear hQ1 Q1
  refine fun Q1 hQ1 => x.item hi (hQ1 _ ?_)
  try clear hQ1 Q1
  refine r_lenC hq ?_
  (try dsimp only [R_noES, R_noE0, R_initS, R_init0, R_setS, R_set0, R_add, R_store, R_load, R_getS, R_get0, R_onV])
  rw [eE]
  refine fun r1 hr1 => ?_
  have x0 := x.keep (Kp.new (o := .lst []) hr1.self)
  have kf0 := x.kf (Kp.new (o := .lst []) hr1.self)
  have hq0 : put S r1 (.lst []) q = some (.lst (cellsV (tab (r + 1 - l) f))) := put_fr hr1 hq
  have hr10 : put S r1 (.lst []) r1 = some (.lst []) := put_at
  generalize put S r1 (.lst []) = S0 at *
  refine fun Q1 hQ1 => ne_nil (lst_of hq0) (lst_of hr10) (hQ1 _ ?_)
  try clear hQ1 Q1
  refine r_ifn (fun _ => ?_) fun z => absurd z hnz
  have y1 := x0.ai i hi
  have y2 := x0.ad i hi
  have y3 := x0.al i hi
  have z1 : ∀ o, put S0 (G.lcs i) o (G.as i) = some (.inst 244 (G.dxs i)) := fun o => put_rr (kinds y1 y3 (fun z => nomatch z)) y1
  have z2 : ∀ o, put S0 (G.lcs i) o (G.dxs i) = some (.attrs (lineD (G.lcs i) (G.wrs i))) := fun o => put_rr (kinds y2 y3 (fun z => nomatch z)) y2
  have z3 : ∀ o, put S0 (G.lcs i) o g = some (.inst 393 G.gdx) := fun o => put_rr (kinds x0.gi y3 (fun z => nomatch z)) x0.gi
  have z4 : ∀ o, put S0 (G.lcs i) o G.gdx = some (.attrs (gridD m n G.L)) := fun o => put_rr (kinds x0.gd y3 (fun z => nomatch z)) x0.gd
  have zq : ∀ o, put S0 (G.lcs i) o q = some (.lst (cellsV (tab (r + 1 - l) f))) := fun o => put_rr hne hq0
  refine fun Q1 hQ1 => x0.cells hi (hQ1 _ ?_)
  try clear hQ1 Q1
  refine fun Q1 hQ1 => item_cell y3 nat0 (nat_lt hln) (hQ1 _ ?_)
  try clear hQ1 Q1
  rw [at0_tab hln]
  refine r_cell_w ?_
  refine r_join (fun s e S' => s = [] ∧ e = [some (.vR g), some (.vI i), some (.vI l), some (.vR q), some (.vR (G.as i)), some (.vI ((r + 1 : Nat) : Int)), none, none] ∧ S' = put S0 (G.lcs i) (.lst (cellsV (tab n (pc1 (rows i) l))))) (fun N' hN => r_if (fun h0 => ?_) fun h0 => ?_) ?_
  · have hl0 := (hw.zero l hln h0).1
    have hl1 : l - 1 < n := by lia
    refine fun Q1 hQ1 => x0.cells hi (hQ1 _ ?_)
    try clear hQ1 Q1
    (try dsimp only [R_load, R_getS, R_get0, R_const, R_onV, R_sub])
    rw [int_pred hl0]
    refine fun Q1 hQ1 => item_cell y3 nat0 (nat_lt hl1) (hQ1 _ ?_)
    try clear hQ1 Q1
    rw [at0_tab hl1]
    refine fun Q1 hQ1 => grid_cut_ok (hQ1 _ _ ?_)
    try clear hQ1 Q1
    refine fun Q1 hQ1 => x0.cells hi (hQ1 _ ?_)
    try clear hQ1 Q1
    (try dsimp only [R_load, R_getS, R_get0, R_const, R_onV, R_sub])
    rw [int_pred hl0]
    refine fun Q1 hQ1 => set_cell y3 nat0 (nat_lt hl1) (hQ1 _ ?_)
    try clear hQ1 Q1
    rw [Int.toNat_natCast, pc1_set h0 hl0]
    exact hN _ _ _ ⟨rfl, rfl, rfl⟩
  · skip
    exact hN _ _ _ ⟨rfl, rfl, by rw [pc1_same h0, put_same y3]⟩
  rintro _ _ _ ⟨rfl, rfl, rfl⟩
  refine r_attr (z3 _) (z4 _) (d_393_columns P) rfl rfl ?_
  refine r_join (fun s e S' => s = [.vB (decide (r + 1 < n ∧ (rows i (r + 1)).w = 0))] ∧ e = [some (.vR g), some (.vI i), some (.vI l), some (.vR q), some (.vR (G.as i)), some (.vI ((r + 1 : Nat) : Int)), none, none] ∧ S' = put S0 (G.lcs i) (.lst (cellsV (tab n (pc1 (rows i) l))))) (fun N' hN => r_if (fun h0 => ?_) fun h0 => ?_) ?_
  · have h0 : r + 1 < n := Int.ofNat_lt.mp h0
    refine r_attr (z1 _) (z2 _) (d_244_cells P) rfl rfl ?_
    refine fun Q1 hQ1 => item_cell put_at nat0 (nat_lt h0) (hQ1 _ ?_)
    try clear hQ1 Q1
    rw [at0_tab h0, pc1_at hl]
    refine r_cell_w ?_
    exact hN _ _ _ ⟨vB_eq ⟨fun z => ⟨h0, z⟩, fun z => z.2⟩, rfl, rfl⟩
  · skip
    exact hN _ _ _ ⟨vB_F fun z => h0 (Int.ofNat_lt.mpr z.1), rfl, rfl⟩
  rintro _ _ _ ⟨rfl, rfl, rfl⟩
  refine r_join (fun s e S' => s = [] ∧ e = [some (.vR g), some (.vI i), some (.vI l), some (.vR q), some (.vR (G.as i)), some (.vI ((r + 1 : Nat) : Int)), none, none] ∧ S' = put S0 (G.lcs i) (.lst (cellsV (tab n (pc2 n (rows i) l r))))) (fun N' hN => r_if (fun h0 => ?_) fun h0 => ?_) ?_
  · skip
    refine r_attr (z1 _) (z2 _) (d_244_cells P) rfl rfl ?_
    refine fun Q1 hQ1 => item_cell put_at nat0 (nat_lt h0.1) (hQ1 _ ?_)
    try clear hQ1 Q1
    rw [at0_tab h0.1, pc1_at hl]
    refine fun Q1 hQ1 => grid_cut_ok (hQ1 _ _ ?_)
    try clear hQ1 Q1
    refine r_attr (z1 _) (z2 _) (d_244_cells P) rfl rfl ?_
    refine fun Q1 hQ1 => set_cell put_at nat0 (nat_lt h0.1) (hQ1 _ ?_)
    try clear hQ1 Q1
    rw [Int.toNat_natCast, put_put, pc2_set h0.2]
    exact hN _ _ _ ⟨rfl, rfl, rfl⟩
  · skip
    exact hN _ _ _ ⟨rfl, rfl, by rw [pc2_same h0]⟩
  rintro _ _ _ ⟨rfl, rfl, rfl⟩
  refine r_forE (lst_of (zq _)) (rList (fun k e S' => k ≤ r + 1 - l ∧ (∃ v w, e = [some (.vR g), some (.vI i), some (.vI l), some (.vR q), some (.vR (G.as i)), some (.vI ((r + 1 : Nat) : Int)), v, w]) ∧ S' = put S0 (G.lcs i) (.lst (cellsV (tab n (pc3 n (rows i) f l r k))))) ?_ ?_ _ _ ⟨Nat.zero_le _, ⟨_, _, rfl⟩, by rw [pc3_zero]⟩)
  · intro k v u2_ u3_ hv hI_
    refine hide fun G_ hG_ => ?_
    obtain ⟨hk, ⟨w1, w2, he0_⟩, he1_⟩ := hI_
    subst he0_
    subst he1_
    refine hG_ ?_
    clear hG_ G_
    obtain ⟨u, hu, rfl⟩ := enum_get hv
    rw [cellsV_tab, tab_get] at hu
    by_cases hk2 : k < r + 1 - l
    · rw [if_pos hk2] at hu
      cases hu
      have hk3 : l + k < n := by lia
      refine ⟨lst_of (zq _), fun Q' qq => ?_⟩
      refine r_attr (z1 _) (z2 _) (d_244_cells P) rfl rfl ?_
      (try dsimp only [R_setS, R_set0, R_load, R_getS, R_get0, R_onV, R_add])
      rw [show ((l : Int) + (k : Int)) = ((l + k : Nat) : Int) from rfl]
      refine fun Q1 hQ1 => set_cell put_at nat0 (nat_lt hk3) (hQ1 _ ?_)
      try clear hQ1 Q1
      rw [Int.toNat_natCast, put_put, pc3_set]
      exact qq _ _ ⟨hk2, ⟨_, _, rfl⟩, rfl⟩
    · rw [if_neg hk2] at hu; cases hu
  · intro u0_ u1_ hI_
    refine hide fun G_ hG_ => ?_
    obtain ⟨hk, ⟨w1, w2, he0_⟩, he1_⟩ := hI_
    subst he0_
    subst he1_
    refine hG_ ?_
    clear hG_ G_
    refine ⟨lst_of (zq _), ?_⟩
    rw [enum_len, cellsV_length, tab_len, pc3_end hl]
    obtain ⟨a, b⟩ := x0.upd (k := i) (wr := G.wrs i) (f := mixF n (rows i) l r (fun j => f (j - l))) hi (Kp.upd (Or.inl rfl)) put_at (z2 (.lst (cellsV (tab n (mixF n (rows i) l r (fun j => f (j - l)))))))
    exact h _ _ a (kf0.trans b)
theorem erase_step {t i l r : Nat} {p : Int} {k j : Nat} (h : t ≤ i) : (if k = i then mixF n (rows i) l r (fun _ => blank p) else (fun k => if t ≤ k ∧ k < i then mixF n (rows k) l r (fun _ => blank p) else rows k) k) j = (if t ≤ k ∧ k < i + 1 then mixF n (rows k) l r (fun _ => blank p) else rows k) j := by
  by_cases c : k = i
  · subst c; rw [if_pos rfl, if_pos ⟨h, Nat.lt_succ_self k⟩]
  · rw [if_neg c]
    by_cases c2 : t ≤ k ∧ k < i
    · rw [if_pos (⟨c2.1, Nat.lt_succ_of_lt c2.2⟩ : t ≤ k ∧ k < i + 1)]; exact congrFun (if_pos c2) j
    · rw [if_neg fun z => c2 ⟨z.1, Nat.lt_of_le_of_ne (Nat.le_of_lt_succ z.2) c⟩]; exact congrFun (if_neg c2) j
theorem erase_area_m {t l b r : Nat} {p : Int} (x : GSd S F g m n G rows) (htb : t ≤ b) (hb : b < m) (hl : l ≤ r) (hr : r < n) (h : ∀ S' G', GSd S' F g m n G' (fun k => if t ≤ k ∧ k ≤ b then mixF n (rows k) l r (fun _ => blank p) else rows k) → KF F S S' → Q .vN S') : WC (KK P) (d + 6) (.ref 350) [.vR g, .vT [.vI t, .vI l, .vI b, .vI r], penV p] S Q := by
  have hml := x.ml
  have hn := Nat.le_trans x.nl (by decide : 10 ≤ 1000)
  obtain ⟨b1, b2⟩ := big (i := t) rfl (by lia)
  obtain ⟨b3, b4⟩ := big (i := b + 1) (j := (b : Int) + 1) rfl (by lia)
  refine RC_def [.vB false] [.bool false] (by with_unfolding_all rfl) (by rfl) (by rfl) (by with_unfolding_all rfl) (by rfl) (fun h => ⟨_, _, rfl, rfl, rfl⟩) rfl (by rfl) (by intro ws hw; obtain ⟨a, b, c, rfl⟩ := len3 hw; exact ⟨_, rfl, rfl⟩) (by kernel_rfl : _ = some (5, code350)) ?_
  unfold code350
  refine r_for2 b1 b2 b3 b4 (rUp (fun i e S' => (∃ w, e = [some (.vR g), some (.vT [.vI t, .vI l, .vI b, .vI r]), some (penV p), some (.vB false), some (.vI t), some (.vI l), some (.vI b), some (.vI r), w]) ∧ KF F S S' ∧
    ∃ G', GSd S' F g m n G' (fun k => if t ≤ k ∧ k < i then mixF n (rows k) l r (fun _ => blank p) else rows k)) rfl (show ((b : Int) + 1) = ((b + 1 : Nat) : Int) from rfl) (Nat.le_succ_of_le htb) ?_ ?_ _ _ ⟨⟨_, rfl⟩, KF.refl, _, x.congr fun k j _ _ => (congrFun (if_neg fun z => Nat.lt_irrefl _ (Nat.lt_of_le_of_lt z.1 z.2)) j).symm⟩)
  · intro i u1_ S1 hi1 hi2 hI_
    refine hide fun G_ hG_ => ?_
    obtain ⟨⟨w, he0_⟩, kf, G1, x1⟩ := hI_
    subst he0_
    refine hG_ ?_
    clear hG_ G_
    refine ⟨trivial, fun Q' q => ?_⟩
    have him : i < m := Nat.lt_of_lt_of_le hi2 hb
    refine fun Q1 hQ1 => x1.lines (hQ1 _ ?_)
    try clear hQ1 Q1
    refine fun Q1 hQ1 => x1.item him (hQ1 _ ?_)
    try clear hQ1 Q1
    refine r_meth (x1.ai i him) (x1.ad i him) (m_244_erase P) rfl fun Q1 hQ1 => ?_
    have hal := x1.al i him
    rw [if_neg fun z => Nat.lt_irrefl _ z.2] at hal
    refine line_erase_m (x1.ai i him) (x1.ad i him) hal hl hr hn fun wr' => hQ1 _ _ ?_
    try clear hQ1 Q1
    have ne : G1.lcs i ≠ G1.dxs i := kinds (x1.al i him) (x1.ad i him) (fun z => nomatch z)
    obtain ⟨x2, k2⟩ := x1.upd (k := i) (wr := wr') (f := mixF n (rows i) l r (fun _ => blank p)) (S' := put (put S1 (G1.lcs i) (.lst (cellsV (tab n (mixF n (rows i) l r (fun _ => blank p)))))) (G1.dxs i) (.attrs (lineD (G1.lcs i) wr'))) him ((Kp.upd (Or.inl rfl)).trans (Kp.upd (Or.inr rfl))) (put_rr ne put_at) put_at
    have x3 := x2.congr (rows' := fun k => if t ≤ k ∧ k < i + 1 then mixF n (rows k) l r (fun _ => blank p) else rows k) fun k j _ _ => erase_step hi1
    generalize put (put S1 (G1.lcs i) (.lst (cellsV (tab n (mixF n (rows i) l r (fun _ => blank p)))))) (G1.dxs i) (.attrs (lineD (G1.lcs i) wr')) = S2 at *
    refine fun Q1 hQ1 => x3.columns (hQ1 _ ?_)
    try clear hQ1 Q1
    refine r_if (fun _ => ?_) fun _ => ?_
    · skip
      refine fun Q1 hQ1 => x3.lines (hQ1 _ ?_)
      try clear hQ1 Q1
      refine fun Q1 hQ1 => x3.item him (hQ1 _ ?_)
      try clear hQ1 Q1
      refine fun Q1 hQ1 => x3.wrap him fun S4 G4 x4 k4 => hQ1 _ ?_
      try clear hQ1 Q1
      exact q _ _ ⟨⟨_, rfl⟩, (kf.trans k2).trans k4, _, x4⟩
    · skip
      exact q _ _ ⟨⟨_, rfl⟩, kf.trans k2, _, x3⟩
  · intro u0_ S1 hI_
    refine hide fun G_ hG_ => ?_
    obtain ⟨⟨w, he0_⟩, kf, G1, x1⟩ := hI_
    subst he0_
    refine hG_ ?_
    clear hG_ G_
    refine ⟨trivial, ?_⟩
    refine h _ _ (x1.congr fun k j _ _ => ?_) kf
    by_cases c : t ≤ k ∧ k ≤ b
    · rw [if_pos c, if_pos ⟨c.1, Nat.lt_succ_of_le c.2⟩]
    · rw [if_neg c, if_neg fun z => c ⟨z.1, Nat.le_of_lt_succ z.2⟩]
end
end Mine
end
section
open PySem PySem.W PyProof.Rows
set_option maxRecDepth 100000
set_option linter.unusedVariables false
set_option linter.unusedSimpArgs false
set_option maxHeartbeats 4000000
namespace Mine
variable {P : Params} {S S' : St} {Q : V → St → Prop} {d : Nat} {F : Addr → Prop} {g : Addr} {m n : Nat} {G : GI} {rows : Nat → Nat → Cell}

theorem Kp.back {S0 S : St} {a : Addr} (k : Kp none_ S0 S) (h : S a = none) : S0 a = none :=
  Classical.byContradiction fun z => z (by rw [← h]; exact (k a z id).symm)
/-- new lines -/
structure NL (S0 S : St) (n k : Nat) (b : Int) (as dxs lcs : Nat → Addr) : Prop where
  kp : Kp none_ S0 S
  ai : ∀ i, i < k → S (as i) = some (.inst 244 (dxs i))
  ad : ∀ i, i < k → S (dxs i) = some (.attrs (lineD (lcs i) false))
  al : ∀ i, i < k → S (lcs i) = some (.lst (cellsV (tab n (fun _ => blank b))))
  inj : ∀ i j, i < k → j < k → lcs i = lcs j → i = j
  nw : ∀ i, i < k → S0 (as i) = none ∧ S0 (dxs i) = none ∧ S0 (lcs i) = none
noncomputable def ext {α : Type} (f : Nat → α) (k : Nat) (a : α) : Nat → α := fun i => if i = k then a else f i
theorem ext_at {α : Type} {f : Nat → α} {k : Nat} {a : α} : ext f k a k = a := if_pos rfl
theorem ext_ne {α : Type} {f : Nat → α} {k i : Nat} {a : α} (h : i ≠ k) : ext f k a i = f i := if_neg h
theorem NL.more {S0 S S' : St} {n k : Nat} {b : Int} {as dxs lcs : Nat → Addr} (x : NL S0 S n k b as dxs lcs) (kp : Kp none_ S S') {a dx lc : Addr} (h1 : S a = none) (h2 : S dx = none) (h3 : S lc = none)
    (e1 : S' a = some (.inst 244 dx)) (e2 : S' dx = some (.attrs (lineD lc false))) (e3 : S' lc = some (.lst (cellsV (tab n (fun _ => blank b))))) : NL S0 S' n (k + 1) b (ext as k a) (ext dxs k dx) (ext lcs k lc) := by
  have lt : ∀ {i}, i < k + 1 → i ≠ k → i < k := fun h n => by lia
  refine ⟨x.kp.trans kp, fun i hi => ?_, fun i hi => ?_, fun i hi => ?_, fun i j hi hj e => ?_, fun i hi => ?_⟩
  · by_cases c : i = k
    · subst c; rw [ext_at, ext_at]; exact e1
    · rw [ext_ne c, ext_ne c]; exact kp.at (x.ai i (lt hi c)) id
  · by_cases c : i = k
    · subst c; rw [ext_at, ext_at]; exact e2
    · rw [ext_ne c, ext_ne c]; exact kp.at (x.ad i (lt hi c)) id
  · by_cases c : i = k
    · subst c; rw [ext_at]; exact e3
    · rw [ext_ne c]; exact kp.at (x.al i (lt hi c)) id
  · by_cases c : i = k <;> by_cases c2 : j = k
    · lia
    · subst c; rw [ext_at, ext_ne c2] at e
      have := x.al j (lt hj c2); rw [← e, h3] at this; cases this
    · subst c2; rw [ext_at, ext_ne c] at e
      have := x.al i (lt hi c); rw [e, h3] at this; cases this
    · rw [ext_ne c, ext_ne c2] at e; exact x.inj i j (lt hi c) (lt hj c2) e
  · by_cases c : i = k
    · subst c; rw [ext_at, ext_at, ext_at]; exact ⟨x.kp.back h1, x.kp.back h2, x.kp.back h3⟩
    · rw [ext_ne c, ext_ne c, ext_ne c]; exact x.nw i (lt hi c)
theorem NL.zero {S : St} {n : Nat} {b : Int} {as dxs lcs : Nat → Addr} : NL S S n 0 b as dxs lcs :=
  ⟨Kp.refl, fun _ h => absurd h (Nat.not_lt_zero _), fun _ h => absurd h (Nat.not_lt_zero _), fun _ h => absurd h (Nat.not_lt_zero _), fun _ _ h => absurd h (Nat.not_lt_zero _), fun _ h => absurd h (Nat.not_lt_zero _)⟩
theorem NL.keep {S0 S S' : St} {n k : Nat} {b : Int} {as dxs lcs : Nat → Addr} (x : NL S0 S n k b as dxs lcs) (kp : Kp none_ S S') : NL S0 S' n k b as dxs lcs :=
  ⟨x.kp.trans kp, fun i h => kp.at (x.ai i h) id, fun i h => kp.at (x.ad i h) id, fun i h => kp.at (x.al i h) id, x.inj, x.nw⟩
theorem comp_up {chk : St → Prop} {turn : V → St → (V → St → Prop) → Prop} {Q : List V → St → Prop} {B : Int} {b : Nat} (I : Nat → List V → St → Prop) (hB : B = b) (hb : b ≤ 1000) (hlen : ∀ i acc S, I i acc S → acc.length ≤ i)
    (h1 : ∀ i acc S, i < b → I i acc S → chk S ∧ ∀ Q' : V → St → Prop, (∀ v S', I (i + 1) (acc ++ [v]) S' → Q' v S') → turn (.vI i) S Q')
    (h0 : ∀ acc S, I b acc S → chk S ∧ Q acc S) (S : St) (h : I 0 [] S) : compW chk turn ((upInts 0 B).map .vI) [] S Q := by
  subst hB
  refine comp_ind (fun is acc S => ∃ j, j ≤ b ∧ is = (upInts ((j : Nat) : Int) b).map .vI ∧ I j acc S) ?_ ?_ _ [] S ⟨0, Nat.zero_le _, rfl, h⟩
  · intro acc S hI_
    refine hide fun G_ hG_ => ?_
    obtain ⟨j, hj, e, hI⟩ := hI_
    refine hG_ ?_
    clear hG_ G_
    have : b = j := by
      have := congrArg List.length e
      unfold upInts at this; simp at this; lia
    subst this; exact h0 acc S hI
  · intro x xs acc S hI_
    refine hide fun G_ hG_ => ?_
    obtain ⟨j, hj, e, hI⟩ := hI_
    refine hG_ ?_
    clear hG_ G_
    unfold upInts at e
    have : ((b : Int) - (j : Int)).toNat = b - j := by lia
    rw [this] at e
    obtain ⟨y, hy⟩ : ∃ y, b - j = y + 1 := by
      cases hkj : b - j with
      | zero => rw [hkj] at e; cases e
      | succ y => exact ⟨y, rfl⟩
    rw [hy, List.range_succ_eq_map, List.map_cons, List.map_cons, List.map_map] at e
    obtain ⟨rfl, rfl⟩ := List.cons.inj e
    have h2 := h1 j acc S (by lia) hI
    have hLB : LB = 4096 := rfl
    refine ⟨h2.1, by have := hlen j acc S hI; lia, fun Q' q => ?_⟩
    have e3 : ((j : Int) + (0 : Nat)) = (j : Int) := by lia
    rw [e3]
    refine h2.2 Q' (fun v S' h' => q v S' ⟨j + 1, by lia, ?_, h'⟩)
    unfold upInts
    have : ((b : Int) - ((j + 1 : Nat) : Int)).toNat = y := by lia
    rw [this, List.map_map, List.map_map]
    refine List.map_congr_left fun z _ => ?_
    simp only [Function.comp]; congr 1; lia
/-- the comprehension that makes new lines -/
theorem lines_comp {B : Int} {k : Nat} {p : Int} {Q : List V → St → Prop} {turn : V → St → (V → St → Prop) → Prop} (hB : B = k) (hk : k ≤ 10) (hn : n ≤ 10)
    (ht : ∀ v S1 (Q' : V → St → Prop), Kp none_ S S1 → (∀ Q2 : V → St → Prop, (∀ w S', Q' w S' → Q2 w S') → WC (KK P) (d + 5) (.ref 244) [.vI n, penV p] S1 Q2) → turn v S1 Q')
    (h : ∀ S' as dxs lcs, NL S S' n k p as dxs lcs → Q (tab k (fun i => .vR (as i))) S') :
    compW (fun _ => True) turn ((upInts 0 B).map V.vI) [] S Q := by
  have hn2 : (n : Int) ≤ 1000 := by lia
  have hk2 : k ≤ 1000 := by lia
  refine comp_up (fun i acc S' => ∃ as dxs lcs, acc = tab i (fun j => .vR (as j)) ∧ NL S S' n i p as dxs lcs) hB hk2 (fun i acc S ⟨_, _, _, e, _⟩ => by rw [e, tab_len]; exact Nat.le_refl _) ?_ ?_ S ⟨fun _ => 0, fun _ => 0, fun _ => 0, rfl, NL.zero⟩
  · intro i acc S1 hi x00
    refine hide fun G0 g0 => ?_
    obtain ⟨as, dxs, lcs, rfl, x⟩ := x00
    refine g0 ?_
    clear g0 G0
    refine ⟨trivial, fun Q' q => ht _ S1 Q' x.kp fun Q2 hQ2 => ?_⟩
    refine line_new_ok hn2 fun a dx lc S2 k2 a1 a2 a3 b1 b2 b3 => hQ2 _ _ (q _ _ ⟨_, _, _, ?_, x.more k2 a1 a2 a3 b1 b2 (by rw [Int.toNat_natCast, tab_rep] at b3; exact b3)⟩)
    rw [tab_succ, ext_at]
    congr 1
    exact tab_eq fun j hj => by rw [ext_ne (Nat.ne_of_lt hj)]
  · intro acc S1 x00
    refine hide fun G0 g0 => ?_
    obtain ⟨as, dxs, lcs, rfl, x⟩ := x00
    refine g0 ?_
    clear g0 G0
    exact ⟨trivial, h S1 as dxs lcs x⟩
theorem fresh_m {k : Nat} {p : Int} (x : GSd S F g m n G rows) (hk : k ≤ 10) (h : ∀ q S' as dxs lcs, NL S S' n k p as dxs lcs → S q = none → S' q = some (.lst (tab k (fun i => .vR (as i)))) → Q (.vR q) S') : WC (KK P) (d + 6) (.ref 286) [.vR g, .vI k, penV p] S Q := by
  obtain ⟨b1, b2⟩ := big (i := k) rfl (by lia)
  refine RC_go (cf286 P) ?_
  unfold code286
  refine r_comp1 b1 b2 fun Q1 hQ1 => lines_comp (P := P) (d := d) (p := p) rfl hk x.nl (fun v S1 Q' k1 hw => ?_) fun S1 as dxs lcs y r hr hr1 => hQ1 _ _ ?_
  try clear hQ1 Q1
  · skip
    refine fun Q1 hQ1 => (x.keep k1).columns (hQ1 _ ?_)
    try clear hQ1 Q1
    exact hw
  · skip
    exact h r _ as dxs lcs (y.keep (Kp.new hr1)) hr.self put_at
noncomputable def gridA (m n : Nat) : List (Str × V) := [(Str.ofString "rows", .vI m), (Str.ofString "columns", .vI n)]
theorem putF_gA : putF [(Str.ofString "rows", V.vI (m : Int))] (Str.ofString "columns") (.vI n) = gridA m n := by kernel_rfl
theorem putF_gL {L : Addr} : putF (gridA m n) (Str.ofString "lines") (.vR L) = gridD m n L := by kernel_rfl
theorem gA_ne {lc : Addr} {wr : Bool} : AO.attrs (lineD lc wr) ≠ .attrs (gridA m n) := by simp [lineD, gridA, strEq]
theorem grid_new_m (hm : 0 < m) (hn : 0 < n) (hm2 : m ≤ 10) (hn2 : n ≤ 10) (hF : ∀ a, F a → S a ≠ none) (h : ∀ g S' G, Kp none_ S S' → S g = none → GSd S' F g m n G (fun _ _ => blank (-1)) → Q (.vR g) S') : WC (KK P) (d + 7) (.ref 393) [.vI m, .vI n] S Q := by
  obtain ⟨b1, b2⟩ := big (i := m) rfl (by lia)
  have n1 : ¬ (m : Int) < 1 := by lia
  have n2 : ¬ (n : Int) < 1 := by lia
  refine WC_cls (KK P) (f_393 P) (i_393 P) fun dx hdx => ?_
  have ne : dx ≠ dx + 1 := Nat.ne_of_lt (Nat.lt_succ_self _)
  have ne' : dx + 1 ≠ dx := ne.symm
  have hd1 : S (dx + 1) = none := hdx _ (Nat.le_succ _)
  have e1 : put (put S dx (.attrs [])) (dx + 1) (.inst 393 dx) (dx + 1) = some (.inst 393 dx) := put_at
  have e2 : put (put S dx (.attrs [])) (dx + 1) (.inst 393 dx) dx = some (.attrs []) := by rw [put_off ne, put_at]
  have k0 : Kp none_ S (put (put S dx (.attrs [])) (dx + 1) (.inst 393 dx)) := (Kp.new hdx.self).later hd1
  generalize put (put S dx (.attrs [])) (dx + 1) (.inst 393 dx) = S0 at *
  refine RC_go (cf260 P) ?_
  unfold code260
  refine r_f n1 ?_
  refine r_f n2 ?_
  refine r_setat e1 e2 (s_393_rows P) rfl (by decide : 1 ≤ 100) ?_
  refine r_setat (put_rr ne' e1) put_at (s_393_columns P) putF_gA (by decide : 2 ≤ 100) ?_
  rw [put_put]
  have k1 := k0.later (o := .attrs (gridA m n)) hdx.self
  have e1' := put_rr ne' e1 (o := .attrs (gridA m n))
  have e2' : put S0 dx (.attrs (gridA m n)) dx = some (.attrs (gridA m n)) := put_at
  generalize put S0 dx (.attrs (gridA m n)) = S1 at *
  refine r_comp1 b1 b2 fun Q1 hQ1 => lines_comp (P := P) (d := d) (p := -1) rfl hm2 hn2 (fun v S1 Q' k1 hw => by skip; exact hw) fun S2 as dxs lcs y L hL hL2 => hQ1 _ _ ?_
  try clear hQ1 Q1
  have y2 := y.keep (Kp.new (o := .lst (tab m fun i => V.vR (as i))) hL2)
  have f1 := y2.kp.at e1' id
  have f2 := y2.kp.at e2' id
  have f3 : put S2 L (.lst (tab m fun i => V.vR (as i))) L = some (.lst (tab m fun i => V.vR (as i))) := put_at
  have hLS : S L = none := k1.back hL.self
  have k2 := k1.trans y2.kp
  generalize put S2 L (.lst (tab m fun i => V.vR (as i))) = S3 at *
  refine r_setat f1 f2 (s_393_lines P) putF_gL (by decide : 3 ≤ 100) ?_
  refine ⟨rfl, ?_⟩
  have nF : ∀ {a}, S a = none → ¬ F a := fun e z => hF _ z e
  have ndx : ∀ {a o}, S3 a = some o → (o ≠ .attrs (gridA m n)) → a ≠ dx := fun e q => kinds e f2 q
  have k3 := k2.later (o := .attrs (gridD m n L)) hdx.self
  refine h _ _ ⟨dx, L, as, dxs, lcs, fun _ => false⟩ k3 hd1 ⟨put_rr ne' f1, put_at, put_rr (ndx f3 (fun z => nomatch z)) f3, fun i hi => put_rr (ndx (y2.ai i hi) (fun z => nomatch z)) (y2.ai i hi), fun i hi => put_rr (ndx (y2.ad i hi) gA_ne) (y2.ad i hi), fun i hi => put_rr (ndx (y2.al i hi) (fun z => nomatch z)) (y2.al i hi), y2.inj, hm, hn, hm2, hn2,
    nF hd1, nF hdx.self, nF hLS, fun i hi => ⟨nF (k1.back (y2.nw i hi).1), nF (k1.back (y2.nw i hi).2.1), nF (k1.back (y2.nw i hi).2.2)⟩, fun a z => ?_⟩
  have := hF a z
  rw [k3 a this id]; exact this
theorem GSd.inj_dx (x : GSd S F g m n G rows) {i j : Nat} (hi : i < m) (hj : j < m) (e : G.dxs i = G.dxs j) : i = j := by
  have a := x.ad i hi
  rw [e, x.ad j hj] at a
  have := AO.attrs.inj (Option.some.inj a)
  simp only [lineD, List.cons.injEq, Prod.mk.injEq, V.vR.injEq, true_and] at this
  exact x.inj i j hi hj this.1.symm
theorem GSd.inj_as (x : GSd S F g m n G rows) {i j : Nat} (hi : i < m) (hj : j < m) (e : G.as i = G.as j) : i = j := by
  have a := x.ai i hi
  rw [e, x.ai j hj] at a
  exact x.inj_dx hi hj (AO.inst.inj (Option.some.inj a)).2.symm
noncomputable def pick {α : Type} (σ : Nat → Nat ⊕ Nat) (f new : Nat → α) : Nat → α := fun i => match σ i with
  | .inl j => f j
  | .inr j => new j
theorem pick_l {α : Type} {σ : Nat → Nat ⊕ Nat} {f new : Nat → α} {i j : Nat} (h : σ i = .inl j) : pick σ f new i = f j := by unfold pick; rw [h]
theorem pick_r {α : Type} {σ : Nat → Nat ⊕ Nat} {f new : Nat → α} {i j : Nat} (h : σ i = .inr j) : pick σ f new i = new j := by unfold pick; rw [h]
theorem GSd.relines {S0 : St} {F' : Addr → Prop} {K : Nat} {p : Int} {nas ndx nlc : Nat → Addr} {L' : Addr} {σ : Nat → Nat ⊕ Nat} (x0 : GSd S0 F g m n G rows) (x : GSd S F g m n G rows) (y : NL S0 S n K p nas ndx nlc)
    (hL : S L' = some (.lst (tab m (fun i => .vR (pick σ G.as nas i))))) (s1 : ∀ i j, i < m → σ i = .inl j → j < m) (s2 : ∀ i j, i < m → σ i = .inr j → j < K) (s3 : ∀ i i', i < m → i' < m → σ i = σ i' → i = i')
    (f1 : ¬ F' g) (f2 : ¬ F' G.gdx) (f3 : ¬ F' L') (f4 : ∀ i j, i < m → σ i = .inl j → ¬ F' (G.as j) ∧ ¬ F' (G.dxs j) ∧ ¬ F' (G.lcs j)) (f5 : ∀ j, j < K → ¬ F' (nas j) ∧ ¬ F' (ndx j) ∧ ¬ F' (nlc j)) (fa : ∀ a, F' a → S a ≠ none) :
    GSd (put S G.gdx (.attrs (gridD m n L'))) F' g m n ⟨G.gdx, L', pick σ G.as nas, pick σ G.dxs ndx, pick σ G.lcs nlc, pick σ G.wrs (fun _ => false)⟩ (pick σ rows (fun _ _ => blank p)) ∧ KF F' S (put S G.gdx (.attrs (gridD m n L'))) := by
  have np : ∀ {a : Addr} {o : AO}, S a = some o → o ≠ .attrs (gridD m n G.L) → put S G.gdx (.attrs (gridD m n L')) a = some o := fun e q => put_rr (kinds e x.gd q) e
  have nl : ∀ {lc : Addr} {wr : Bool}, AO.attrs (lineD lc wr) ≠ .attrs (gridD m n G.L) := by
    intro lc wr; simp [lineD, gridD, strEq]
  have kf : KF F' S (put S G.gdx (.attrs (gridD m n L'))) := fun a z => put_off (fun q => f2 (q ▸ z))
  have sp : ∀ i, (∃ j, σ i = .inl j) ∨ ∃ j, σ i = .inr j := fun i => by cases σ i with | inl j => exact Or.inl ⟨j, rfl⟩ | inr j => exact Or.inr ⟨j, rfl⟩
  refine ⟨⟨np x.gi (fun z => nomatch z), put_at, np hL (fun z => nomatch z), fun i hi => ?_, fun i hi => ?_, fun i hi => ?_, fun i i' hi hi' e => ?_, x.mp, x.np, x.ml, x.nl, f1, f2, f3, fun i hi => ?_, fun a z => by rw [kf a z]; exact fa a z⟩, kf⟩
  · rcases sp i with ⟨j, e⟩ | ⟨j, e⟩
    · simp only [pick_l e]; exact np (x.ai j (s1 i j hi e)) (fun z => nomatch z)
    · simp only [pick_r e]; exact np (y.ai j (s2 i j hi e)) (fun z => nomatch z)
  · rcases sp i with ⟨j, e⟩ | ⟨j, e⟩
    · simp only [pick_l e]; exact np (x.ad j (s1 i j hi e)) nl
    · simp only [pick_r e]; exact np (y.ad j (s2 i j hi e)) nl
  · rcases sp i with ⟨j, e⟩ | ⟨j, e⟩
    · simp only [pick_l e]; exact np (x.al j (s1 i j hi e)) (fun z => nomatch z)
    · simp only [pick_r e]; exact np (y.al j (s2 i j hi e)) (fun z => nomatch z)
  · rcases sp i with ⟨j, c⟩ | ⟨j, c⟩ <;> rcases sp i' with ⟨j', c'⟩ | ⟨j', c'⟩
    · simp only [pick_l c, pick_l c'] at e
      have := x.inj j j' (s1 i j hi c) (s1 i' j' hi' c') e
      exact s3 i i' hi hi' (by rw [c, c', this])
    · simp only [pick_l c, pick_r c'] at e
      have a := x0.al j (s1 i j hi c)
      rw [e, (y.nw j' (s2 i' j' hi' c')).2.2] at a; cases a
    · simp only [pick_r c, pick_l c'] at e
      have a := x0.al j' (s1 i' j' hi' c')
      rw [← e, (y.nw j (s2 i j hi c)).2.2] at a; cases a
    · simp only [pick_r c, pick_r c'] at e
      have := y.inj j j' (s2 i j hi c) (s2 i' j' hi' c') e
      exact s3 i i' hi hi' (by rw [c, c', this])
  · rcases sp i with ⟨j, e⟩ | ⟨j, e⟩
    · simp only [pick_l e]; exact f4 i j hi e
    · simp only [pick_r e]; exact f5 j (s2 i j hi e)
noncomputable def scU (n t l b r k : Nat) (p : Int) (rows : Nat → Nat → Cell) : Nat → Nat → Cell := fun i => if t ≤ i ∧ i ≤ b then mixF n (rows i) l r (if i + k ≤ b then cut2F n (rows (i + k)) l r else fun _ => blank p) else rows i
noncomputable def scD (n t l b r k : Nat) (p : Int) (rows : Nat → Nat → Cell) : Nat → Nat → Cell := fun i => if t ≤ i ∧ i ≤ b then mixF n (rows i) l r (if t + k ≤ i then cut2F n (rows (i - k)) l r else fun _ => blank p) else rows i
noncomputable def upR (n t l r k : Nat) (rows : Nat → Nat → Cell) (e : Nat) : Nat → Nat → Cell := fun i => if t ≤ i ∧ i < e then mixF n (rows i) l r (cut2F n (rows (i + k)) l r) else rows i
noncomputable def dnR (n b l r k : Nat) (rows : Nat → Nat → Cell) (e : Nat) : Nat → Nat → Cell := fun i => if e ≤ i ∧ i ≤ b then mixF n (rows i) l r (cut2F n (rows (i - k)) l r) else rows i
noncomputable def LinesAt (S : St) (q : Addr) (n k : Nat) (rws : Nat → Nat → Cell) : Prop := ∃ (as dxs lcs : Nat → Addr) (wrs : Nat → Bool), S q = some (.lst (tab k (fun i => .vR (as i)))) ∧ ∀ i, i < k → S (as i) = some (.inst 244 (dxs i)) ∧ S (dxs i) = some (.attrs (lineD (lcs i) (wrs i))) ∧ S (lcs i) = some (.lst (cellsV (tab n (rws i))))
theorem mixF_eq {l r : Nat} {f : Nat → Cell} {g h : Nat → Cell} (e : ∀ j, l ≤ j → j ≤ r → g j = h j) : mixF n f l r g = mixF n f l r h := by
  funext j; unfold mixF
  by_cases c : l ≤ j ∧ j ≤ r
  · rw [if_pos c, if_pos c]; exact e j c.1 c.2
  · rw [if_neg c, if_neg c]
theorem mixF_whole {f g : Nat → Cell} {j : Nat} (hj : j < n) : mixF n f 0 (n - 1) g j = g j := by
  unfold mixF; rw [if_pos (by lia)]
theorem tab_eq' {α : Type} {n n' : Nat} {f g : Nat → α} (e : n = n') (h : ∀ i, i < n → f i = g i) : tab n f = tab n' g := by subst e; exact tab_eq h
theorem putF_lines {L L' : Addr} : putF (gridD m n L) (Str.ofString "lines") (.vR L') = gridD m n L' := by kernel_rfl
theorem GSd.apart (x : GSd S F g m n G rows) {i j : Nat} (hi : i < m) (hj : j < m) (ne : i ≠ j) : (G.as i ≠ G.as j ∧ G.as i ≠ G.dxs j ∧ G.as i ≠ G.lcs j) ∧ (G.dxs i ≠ G.as j ∧ G.dxs i ≠ G.dxs j ∧ G.dxs i ≠ G.lcs j) ∧ (G.lcs i ≠ G.as j ∧ G.lcs i ≠ G.dxs j ∧ G.lcs i ≠ G.lcs j) :=
  ⟨⟨fun e => ne (x.inj_as hi hj e), kinds (x.ai i hi) (x.ad j hj) (fun z => nomatch z), kinds (x.ai i hi) (x.al j hj) (fun z => nomatch z)⟩,
   ⟨kinds (x.ad i hi) (x.ai j hj) (fun z => nomatch z), fun e => ne (x.inj_dx hi hj e), kinds (x.ad i hi) (x.al j hj) (fun z => nomatch z)⟩,
   ⟨kinds (x.al i hi) (x.ai j hj) (fun z => nomatch z), kinds (x.al i hi) (x.ad j hj) (fun z => nomatch z), fun e => ne (x.inj i j hi hj e)⟩⟩
theorem GSd.apartG (x : GSd S F g m n G rows) {j : Nat} (hj : j < m) : (g ≠ G.as j ∧ g ≠ G.dxs j ∧ g ≠ G.lcs j) ∧ (G.gdx ≠ G.as j ∧ G.gdx ≠ G.dxs j ∧ G.gdx ≠ G.lcs j) :=
  ⟨⟨kinds x.gi (x.ai j hj) (by simp), kinds x.gi (x.ad j hj) (fun z => nomatch z), kinds x.gi (x.al j hj) (fun z => nomatch z)⟩,
   ⟨kinds x.gd (x.ai j hj) (fun z => nomatch z), kinds x.gd (x.ad j hj) (by simp [lineD, gridD, strEq]), kinds x.gd (x.al j hj) (fun z => nomatch z)⟩⟩
noncomputable def upS (t b K : Nat) : Nat → Nat ⊕ Nat := fun i => if t ≤ i ∧ i ≤ b then (if i + K ≤ b then .inl (i + K) else .inr (i - (b + 1 - K))) else .inl i
noncomputable def dnS (t b K : Nat) : Nat → Nat ⊕ Nat := fun i => if t ≤ i ∧ i ≤ b then (if t + K ≤ i then .inl (i - K) else .inr (i - t)) else .inl i
/-- where the lines of a scroll come from -/
theorem upS_l {t b K m i j : Nat} (hb : b < m) (hK : K + t ≤ b + 1) (hi : i < m) (e : upS t b K i = .inl j) : j < m ∧ ∀ jj, jj < K → j ≠ t + jj := by
  unfold upS at e
  by_cases c : t ≤ i ∧ i ≤ b
  · rw [if_pos c] at e
    by_cases c2 : i + K ≤ b
    · rw [if_pos c2] at e; cases e; exact ⟨Nat.lt_of_le_of_lt c2 hb, fun jj hjj => by lia⟩
    · rw [if_neg c2] at e; cases e
  · rw [if_neg c] at e; cases e; exact ⟨hi, fun jj hjj => by lia⟩
theorem upS_r {t b K i j : Nat} (e : upS t b K i = .inr j) : j < K := by
  unfold upS at e
  by_cases c : t ≤ i ∧ i ≤ b
  · rw [if_pos c] at e
    by_cases c2 : i + K ≤ b
    · rw [if_pos c2] at e; cases e
    · rw [if_neg c2] at e; cases e; lia
  · rw [if_neg c] at e; cases e
theorem upS_inj {t b K i i' : Nat} (hK : K + t ≤ b + 1) (e : upS t b K i = upS t b K i') : i = i' := by
  unfold upS at e
  by_cases a1 : t ≤ i ∧ i ≤ b <;> by_cases a2 : t ≤ i' ∧ i' ≤ b
  · rw [if_pos a1, if_pos a2] at e
    by_cases a3 : i + K ≤ b <;> by_cases a4 : i' + K ≤ b
    · rw [if_pos a3, if_pos a4] at e; exact Nat.add_right_cancel (Sum.inl.inj e)
    · rw [if_pos a3, if_neg a4] at e; cases e
    · rw [if_neg a3, if_pos a4] at e; cases e
    · rw [if_neg a3, if_neg a4] at e; have := Sum.inr.inj e; lia
  · rw [if_pos a1, if_neg a2] at e
    by_cases a3 : i + K ≤ b
    · rw [if_pos a3] at e; exact absurd (Sum.inl.inj e) (by lia)
    · rw [if_neg a3] at e; cases e
  · rw [if_neg a1, if_pos a2] at e
    by_cases a3 : i' + K ≤ b
    · rw [if_pos a3] at e; exact absurd (Sum.inl.inj e) (by lia)
    · rw [if_neg a3] at e; cases e
  · rw [if_neg a1, if_neg a2] at e; exact Sum.inl.inj e
theorem upS_cont {t b K m : Nat} {as nas : Nat → Addr} (hb : b < m) (hK : K + t ≤ b + 1) :
    (((tab t fun j => V.vR (as j)) ++ tab (b + 1 - (t + K)) fun j => V.vR (as (j + (t + K)))) ++ tab K (fun j => V.vR (nas j))) ++ tab (m - (b + 1)) (fun j => V.vR (as (j + (b + 1)))) = tab m (fun i => V.vR (pick (upS t b K) as nas i)) := by
  obtain ⟨c, hc⟩ : ∃ c, b + 1 = t + K + c := ⟨b + 1 - (t + K), by lia⟩
  obtain ⟨e, rfl⟩ : ∃ e, m = b + 1 + e := ⟨m - (b + 1), by lia⟩
  rw [hc, Nat.add_sub_cancel_left, Nat.add_sub_cancel_left, tab_app, tab_app, tab_app]
  refine tab_eq' (by lia) fun i hi => ?_
  have hcK : t + c + K = t + K + c := Nat.add_right_comm t c K
  rw [hcK]
  by_cases c1 : i < t
  · rw [if_pos (by lia), if_pos (by lia), if_pos c1, pick_l (j := i) (if_neg (by lia))]
  · by_cases c2 : i < t + c
    · rw [if_pos (by lia), if_pos c2, if_neg c1, pick_l (j := i + K) ((if_pos (by lia)).trans (if_pos (by lia))), show i - t + (t + K) = i + K by lia]
    · by_cases c3 : i < t + K + c
      · rw [if_pos c3, if_neg c2, pick_r (j := i - (b + 1 - K)) ((if_pos (by lia)).trans (if_neg (by lia))), show i - (t + c) = i - (b + 1 - K) by lia]
      · rw [if_neg c3, pick_l (j := i) (if_neg (by lia)), Nat.sub_add_cancel (Nat.le_of_not_lt c3)]
theorem dnS_l {t b K m i j : Nat} (hi : i < m) (e : dnS t b K i = .inl j) : j < m := by
  unfold dnS at e
  by_cases c : t ≤ i ∧ i ≤ b
  · rw [if_pos c] at e
    by_cases c2 : t + K ≤ i
    · rw [if_pos c2] at e; cases e; exact Nat.lt_of_le_of_lt (Nat.sub_le _ _) hi
    · rw [if_neg c2] at e; cases e
  · rw [if_neg c] at e; cases e; exact hi
theorem dnS_r {t b K i j : Nat} (e : dnS t b K i = .inr j) : j < K := by
  unfold dnS at e
  by_cases c : t ≤ i ∧ i ≤ b
  · rw [if_pos c] at e
    by_cases c2 : t + K ≤ i
    · rw [if_pos c2] at e; cases e
    · rw [if_neg c2] at e; cases e; lia
  · rw [if_neg c] at e; cases e
theorem dnS_inj {t b K i i' : Nat} (e : dnS t b K i = dnS t b K i') : i = i' := by
  unfold dnS at e
  by_cases a1 : t ≤ i ∧ i ≤ b <;> by_cases a2 : t ≤ i' ∧ i' ≤ b
  · rw [if_pos a1, if_pos a2] at e
    by_cases a3 : t + K ≤ i <;> by_cases a4 : t + K ≤ i'
    · rw [if_pos a3, if_pos a4] at e; have := Sum.inl.inj e; lia
    · rw [if_pos a3, if_neg a4] at e; cases e
    · rw [if_neg a3, if_pos a4] at e; cases e
    · rw [if_neg a3, if_neg a4] at e; have := Sum.inr.inj e; lia
  · rw [if_pos a1, if_neg a2] at e
    by_cases a3 : t + K ≤ i
    · rw [if_pos a3] at e; have := Sum.inl.inj e; lia
    · rw [if_neg a3] at e; cases e
  · rw [if_neg a1, if_pos a2] at e
    by_cases a3 : t + K ≤ i'
    · rw [if_pos a3] at e; have := Sum.inl.inj e; lia
    · rw [if_neg a3] at e; cases e
  · rw [if_neg a1, if_neg a2] at e; exact Sum.inl.inj e
theorem dnS_cont {t b K m : Nat} {as nas : Nat → Addr} (hb : b < m) (hK : K + t ≤ b + 1) :
    (((tab t fun i => V.vR (as i)) ++ tab K fun j => V.vR (nas j)) ++ tab (b + 1 - K - t) fun j => V.vR (as (j + t))) ++ tab (m - (b + 1)) (fun j => V.vR (as (j + (b + 1)))) = tab m (fun i => V.vR (pick (dnS t b K) as nas i)) := by
  obtain ⟨c, hc⟩ : ∃ c, b + 1 = K + t + c := ⟨b + 1 - (K + t), by lia⟩
  obtain ⟨e, rfl⟩ : ∃ e, m = b + 1 + e := ⟨m - (b + 1), by lia⟩
  rw [hc, Nat.sub_sub, Nat.add_sub_cancel_left, Nat.add_sub_cancel_left, tab_app, tab_app, tab_app]
  refine tab_eq' (by lia) fun i hi => ?_
  rw [Nat.add_comm t K]
  by_cases c1 : i < t
  · rw [if_pos (by lia), if_pos (by lia), if_pos c1, pick_l (j := i) (if_neg (by lia))]
  · by_cases c2 : i < K + t
    · rw [if_pos (by lia), if_pos c2, if_neg c1, pick_r (j := i - t) ((if_pos (by lia)).trans (if_neg (by lia)))]
    · by_cases c3 : i < K + t + c
      · rw [if_pos c3, if_neg c2, pick_l (j := i - K) ((if_pos (by lia)).trans (if_pos (by lia))), show i - (K + t) + t = i - K by lia]
      · rw [if_neg c3, pick_l (j := i) (if_neg (by lia)), Nat.sub_add_cancel (Nat.le_of_not_lt c3)]
theorem scU_whole {t b K i j : Nat} {p : Int} (hj : j < n) : pick (upS t b K) rows (fun _ _ => blank p) i j = scU n t 0 b (n - 1) K p rows i j := by
  unfold scU
  by_cases c1 : t ≤ i ∧ i ≤ b
  · by_cases c2 : i + K ≤ b
    · rw [pick_l (j := i + K) ((if_pos c1).trans (if_pos c2)), if_pos c1, if_pos c2, mixF_whole hj, cut2_whole]
    · rw [pick_r (j := i - (b + 1 - K)) ((if_pos c1).trans (if_neg c2)), if_pos c1, if_neg c2, mixF_whole hj]
  · rw [pick_l (j := i) (if_neg c1), if_neg c1]
theorem scD_whole {t b K i j : Nat} {p : Int} (hj : j < n) : pick (dnS t b K) rows (fun _ _ => blank p) i j = scD n t 0 b (n - 1) K p rows i j := by
  unfold scD
  by_cases c1 : t ≤ i ∧ i ≤ b
  · by_cases c2 : t + K ≤ i
    · rw [pick_l (j := i - K) ((if_pos c1).trans (if_pos c2)), if_pos c1, if_pos c2, mixF_whole hj, cut2_whole]
    · rw [pick_r (j := i - t) ((if_pos c1).trans (if_neg c2)), if_pos c1, if_neg c2, mixF_whole hj]
  · rw [pick_l (j := i) (if_neg c1), if_neg c1]
theorem upR_step {t l r K i k j : Nat} (h : t ≤ i) : (if k = i then mixF n (rows i) l r (fun j => cut2F n (rows (i + K)) l r (j - l + l)) else upR n t l r K rows i k) j = upR n t l r K rows (i + 1) k j := by
  unfold upR
  by_cases c : k = i
  · subst c
    rw [if_pos rfl, if_pos ⟨h, Nat.lt_succ_self k⟩]
    exact congrFun (mixF_eq fun j h1 h2 => by rw [Nat.sub_add_cancel h1]) j
  · rw [if_neg c]
    by_cases c2 : t ≤ k ∧ k < i
    · rw [if_pos c2, if_pos ⟨c2.1, Nat.lt_succ_of_lt c2.2⟩]
    · rw [if_neg c2, if_neg fun z => c2 ⟨z.1, Nat.lt_of_le_of_ne (Nat.le_of_lt_succ z.2) c⟩]
theorem scroll_up_m {t l b r k : Nat} {p : Int} (x : GSd S F g m n G rows) (hW : ∀ i, i < m → WF n (rows i)) (htb : t ≤ b) (hb : b < m) (hl : l ≤ r) (hr : r < n) (hk : 1 ≤ k)
    (h : ∀ q S' G', GSd S' F g m n G' (scU n t l b r (min k (b + 1 - t)) p rows) → KF F S S' → LinesAt S' q n (if l = 0 ∧ r + 1 = n then min k (b + 1 - t) else 0) (fun i => rows (t + i)) → Q (.vR q) S') : WC (KK P) (d + 7) (.ref 300) [.vR g, .vT [.vI t, .vI l, .vI b, .vI r], .vI k, penV p] S Q := by
  have hml := x.ml
  have hnl := x.nl
  obtain ⟨K, hK⟩ : ∃ K, K = min k (b + 1 - t) := ⟨_, rfl⟩
  rw [← hK] at h
  have eK : max (0 : Int) (min (k : Int) ((b : Int) - (t : Int) + 1)) = (K : Int) := by lia
  have hK1 : 1 ≤ K := by lia
  have hK2 : K + t ≤ b + 1 := by lia
  have hK0 : ¬ (K : Int) = 0 := by lia
  have hK10 : K ≤ 10 := by lia
  clear hK hk
  have eBK : ((b : Int) + 1 - (K : Int)) = ((b + 1 - K : Nat) : Int) := by lia
  have hbK : b + 1 - K < m + 1 := by lia
  refine RC_go (cf300 P) ?_
  unfold code300
  refine fun Q1 hQ1 => clamp_ok (hQ1 _ _ ?_)
  try clear hQ1 Q1
  rw [eK]
  refine r_f hK0 ?_
  refine r_meth x.gi x.gd (m_393_is_wide P) rfl fun Q1 hQ1 => ?_
  refine is_wide_m x (hQ1 _ _ ?_)
  try clear hQ1 Q1
  refine r_ifn (fun hwide => ?_) fun hwide => ?_
  · (try dsimp only [R_noES, R_noE0, R_initS, R_init0, R_setS, R_set0, R_load, R_getS, R_get0, R_const, R_onV, R_add, R_sub, R_tup, R_popNS, R_popN0])
    rw [if_neg (by lia)] at h
    obtain ⟨b1, b2⟩ := big (i := t) rfl (by lia)
    obtain ⟨b3, b4⟩ := big (i := b + 1 - K) rfl (by lia)
    rw [eBK]
    refine r_for2 b1 b2 b3 b4 (rUp (fun i e S' => (∃ w, e = [some (.vR g), some (.vT [.vI t, .vI l, .vI b, .vI r]), some (.vI K), some (penV p), some (.vI t), some (.vI l), some (.vI b), some (.vI r), w, none, none]) ∧ KF F S S' ∧
      ∃ G', GSd S' F g m n G' (upR n t l r K rows i)) rfl rfl (by lia) ?_ ?_ _ _ ⟨⟨_, rfl⟩, KF.refl, _, x.congr fun k j _ _ => (congrFun (if_neg (by lia)) j).symm⟩)
    · intro i _ S1 hi1 hi2 x00
      refine hide fun G0 g0 => ?_
      obtain ⟨⟨w, rfl⟩, kf, G1, x1⟩ := x00
      refine g0 ?_
      clear g0 G0
      refine ⟨trivial, fun Q' qq => ?_⟩
      have r1 : upR n t l r K rows i i = rows i := if_neg (by lia)
      have r2 : upR n t l r K rows i (i + K) = rows (i + K) := if_neg (by lia)
      have him : i < m := by lia
      have hiK : i + K < m := by lia
      refine r_meth x1.gi x1.gd (m_393_put_cells P) rfl fun Q1 hQ1 => ?_
      refine r_meth x1.gi x1.gd (m_393_cells_of P) rfl fun Q2 hQ2 => ?_
      (try dsimp only [R_setS, R_set0, R_load, R_getS, R_get0, R_onV, R_add, R_done, R_argK, R_popNS, R_popN0])
      rw [show ((i : Int) + (K : Int)) = ((i + K : Nat) : Int) from rfl]
      refine cells_of_m x1 hiK hl hr (by rw [r2]; exact hW _ hiK) fun q S2 k2 hq0 hq => hQ2 _ _ ?_
      try clear hQ2 Q2
      rw [r2] at hq
      have x2 := x1.keep k2
      refine put_cells_m x2 him hl hr (by rw [r1]; exact hW _ him) hq (by
        rintro rfl
        rw [x1.al i him] at hq0; cases hq0) fun S3 G3 x3 k3 => hQ1 _ _ ?_
      refine qq _ _ ⟨⟨_, rfl⟩, (kf.trans (x1.kf k2)).trans k3, _, x3.congr fun k' j _ _ => ?_⟩
      rw [r1]; exact upR_step hi1
    · intro _ S1 x00
      refine hide fun G0 g0 => ?_
      obtain ⟨⟨w, rfl⟩, kf, G1, x1⟩ := x00
      refine g0 ?_
      clear g0 G0
      refine ⟨trivial, ?_⟩
      refine r_meth x1.gi x1.gd (m_393_erase_area P) rfl fun Q1 hQ1 => ?_
      (try dsimp only [R_load, R_getS, R_get0, R_const, R_onV, R_add, R_sub, R_tup, R_done, R_argK, R_popNS, R_popN0])
      rw [eBK]
      refine erase_area_m x1 (by lia) hb hl hr fun S2 G2 x2 k2 => hQ1 _ _ ?_
      try clear hQ1 Q1
      refine r_meth x2.gi x2.gd (m_393_unwrap P) rfl fun Q1 hQ1 => ?_
      refine unwrap_m x2 htb hb fun S3 G3 x3 k3 => hQ1 _ _ ?_
      try clear hQ1 Q1
      intro q hq
      refine h q _ G3 ((x3.keep (Kp.new hq.self)).congr fun i j hi hj => ?_) (((kf.trans k2).trans k3).trans (x3.kf (Kp.new hq.self))) ⟨fun _ => 0, fun _ => 0, fun _ => 0, fun _ => false, put_at, fun i hi => absurd hi (Nat.not_lt_zero _)⟩
      unfold scU upR
      by_cases c : t ≤ i ∧ i ≤ b
      · rw [if_pos c]
        by_cases c2 : i + K ≤ b
        · rw [if_neg (by lia), if_pos (by lia), if_pos c2]
        · rw [if_pos (by lia), if_neg (by lia), if_neg c2]
      · rw [if_neg c, if_neg (by lia), if_neg (by lia)]
  · rw [if_pos (by lia)] at h
    refine fun Q1 hQ1 => x.lines (hQ1 _ ?_)
    try clear hQ1 Q1
    refine ⟨_, _, rfl, lst_of x.ln, fun q hq => ?_⟩
    rw [slice_tab (l := t) (k := t + K) rfl (by lia) (by lia) (by lia), Nat.add_sub_cancel_left]
    have x1 := x.keep (Kp.new (o := .lst (tab K fun j => V.vR (G.as (j + t)))) hq.self)
    have kp1 : Kp none_ S (put S q (.lst (tab K fun j => V.vR (G.as (j + t))))) := Kp.new hq.self
    have hq1 : put S q (.lst (tab K fun j => V.vR (G.as (j + t)))) q = some (.lst (tab K fun j => V.vR (G.as (j + t)))) := put_at
    generalize put S q (.lst (tab K fun j => V.vR (G.as (j + t)))) = S1 at *
    have hLB : ∀ {i : Nat}, i ≤ 100 → i ≤ LB := fun h => Nat.le_trans h (by decide)
    refine fun Q1 hQ1 => x1.lines (hQ1 _ ?_)
    try clear hQ1 Q1
    refine ⟨_, _, rfl, lst_of x1.ln, fun q2 hq2 => ?_⟩
    rw [slice_tab (l := t + K) (k := b + 1) (by lia) (by lia) (by lia) (by lia)]
    have x2 := x1.keep (Kp.new (o := .lst (tab (b + 1 - (t + K)) fun j => V.vR (G.as (j + (t + K))))) hq2.self)
    have kp2 := kp1.newL (o := .lst (tab (b + 1 - (t + K)) fun j => V.vR (G.as (j + (t + K))))) hq2
    have hqb := put_fr (o' := .lst (tab (b + 1 - (t + K)) fun j => V.vR (G.as (j + (t + K))))) hq2 hq1
    have c2 : put S1 q2 (.lst (tab (b + 1 - (t + K)) fun j => V.vR (G.as (j + (t + K))))) q2 = _ := put_at
    generalize put S1 q2 (.lst (tab (b + 1 - (t + K)) fun j => V.vR (G.as (j + (t + K))))) = S2 at *
    refine fun Q1 hQ1 => x2.lines (hQ1 _ ?_)
    try clear hQ1 Q1
    refine ⟨_, _, rfl, lst_of x2.ln, fun q3 hq3 => ?_⟩
    rw [slice_tab_lo (k := t) rfl (by lia)]
    refine fun Q1 hQ1 => bin_cat (lst_of put_at) (lst_of (put_fr hq3 c2)) (by simp only [List.length_append, tab_len]; exact hLB (by lia)) fun q4 hq4 => hQ1 _ _ ?_
    try clear hQ1 Q1
    have x4 := (x2.keep (Kp.new (o := .lst (tab t fun j => V.vR (G.as j))) hq3.self)).keep (Kp.new (o := .lst ((tab t fun j => V.vR (G.as j)) ++ tab (b + 1 - (t + K)) fun j => V.vR (G.as (j + (t + K))))) hq4.self)
    have kp4 := (kp2.newL (o := .lst (tab t fun j => V.vR (G.as j))) hq3).newL (o := .lst ((tab t fun j => V.vR (G.as j)) ++ tab (b + 1 - (t + K)) fun j => V.vR (G.as (j + (t + K))))) hq4
    have hq4q := put_fr (o' := .lst ((tab t fun j => V.vR (G.as j)) ++ tab (b + 1 - (t + K)) fun j => V.vR (G.as (j + (t + K))))) hq4 (put_fr (o' := .lst (tab t fun j => V.vR (G.as j))) hq3 hqb)
    have c4 : put (put S2 q3 (.lst (tab t fun j => V.vR (G.as j)))) q4 (.lst ((tab t fun j => V.vR (G.as j)) ++ tab (b + 1 - (t + K)) fun j => V.vR (G.as (j + (t + K))))) q4 = _ := put_at
    generalize put (put S2 q3 (.lst (tab t fun j => V.vR (G.as j)))) q4 (.lst ((tab t fun j => V.vR (G.as j)) ++ tab (b + 1 - (t + K)) fun j => V.vR (G.as (j + (t + K))))) = S4 at *
    refine r_meth x4.gi x4.gd (m_393_fresh P) rfl fun Q1 hQ1 => ?_
    refine fresh_m x4 hK10 fun q5 S5 nas ndx nlc y hq50 hq5 => hQ1 _ _ ?_
    try clear hQ1 Q1
    have c5 := y.kp.at c4 id
    refine fun Q1 hQ1 => bin_cat (lst_of c5) (lst_of hq5) (by simp only [List.length_append, tab_len]; exact hLB (by lia)) fun q6 hq6 => hQ1 _ _ ?_
    try clear hQ1 Q1
    have x5 := x4.keep y.kp
    generalize hL6 : ((tab t fun j => V.vR (G.as j)) ++ tab (b + 1 - (t + K)) fun j => V.vR (G.as (j + (t + K)))) ++ tab K (fun j => V.vR (nas j)) = L6 at *
    have x6 := x5.keep (Kp.new (o := .lst L6) hq6.self)
    have y6 := y.keep (Kp.new (o := .lst L6) hq6.self)
    have c6 : put S5 q6 (.lst L6) q6 = _ := put_at
    generalize put S5 q6 (.lst L6) = S6 at *
    refine fun Q1 hQ1 => x6.lines (hQ1 _ ?_)
    try clear hQ1 Q1
    refine ⟨_, _, rfl, lst_of x6.ln, fun q7 hq7 => ?_⟩
    rw [slice_tab_hi (a := (b : Int) + 1) (l := b + 1) rfl (by lia)]
    refine fun Q1 hQ1 => bin_cat (lst_of (put_fr hq7 c6)) (lst_of put_at) (by rw [← hL6]; simp only [List.length_append, tab_len]; exact hLB (by lia)) fun q8 hq8 => hQ1 _ _ ?_
    try clear hQ1 Q1
    generalize hL8 : L6 ++ tab (m - (b + 1)) (fun j => V.vR (G.as (j + (b + 1)))) = L8 at *
    have k68 : Kp none_ S6 (put (put S6 q7 (.lst (tab (m - (b + 1)) fun j => V.vR (G.as (j + (b + 1)))))) q8 (.lst L8)) := (Kp.new hq7.self).newL hq8
    have c8 : put (put S6 q7 (.lst (tab (m - (b + 1)) fun j => V.vR (G.as (j + (b + 1)))))) q8 (.lst L8) q8 = _ := put_at
    have hq80 : S4 q8 = none := y6.kp.back ((Kp.new (o := .lst (tab (m - (b + 1)) fun j => V.vR (G.as (j + (b + 1))))) hq7.self).back hq8.self)
    have x8 := x6.keep k68
    have y8 := y6.keep k68
    generalize put (put S6 q7 (.lst (tab (m - (b + 1)) fun j => V.vR (G.as (j + (b + 1)))))) q8 (.lst L8) = S8 at *
    refine r_setat x8.gi x8.gd (s_393_lines P) putF_lines (by decide : 3 ≤ 100) ?_
    have hcont : L8 = tab m (fun i => V.vR (pick (upS t b K) G.as nas i)) := by rw [← hL8, ← hL6, upS_cont hb hK2]
    rw [hcont] at c8
    let F' : Addr → Prop := fun a => F a ∨ a = q ∨ ∃ j, j < K ∧ (a = G.as (t + j) ∨ a = G.dxs (t + j) ∨ a = G.lcs (t + j))
    have tj : ∀ j, j < K → t + j < m := fun j hj => by lia
    have fa4 : ∀ a, F' a → S4 a ≠ none := fun a z => by
      rcases z with z | z | ⟨j, hj, z | z | z⟩
      · exact x4.fa a z
      · rw [z, hq4q]; exact fun z => nomatch z
      · rw [z, x4.ai _ (tj j hj)]; exact fun z => nomatch z
      · rw [z, x4.ad _ (tj j hj)]; exact fun z => nomatch z
      · rw [z, x4.al _ (tj j hj)]; exact fun z => nomatch z
    have nq : ∀ {a : Addr} {o : AO}, S a = some o → a ≠ q := fun e z => by rw [z, hq.self] at e; cases e
    have no : ∀ {a : Addr}, ¬ F a → a ≠ q → (∀ j, j < K → a ≠ G.as (t + j) ∧ a ≠ G.dxs (t + j) ∧ a ≠ G.lcs (t + j)) → ¬ F' a := fun z1 z2 z3 z => by
      rcases z with z | z | ⟨j, hj, z | z | z⟩
      · exact z1 z
      · exact z2 z
      · exact (z3 j hj).1 z
      · exact (z3 j hj).2.1 z
      · exact (z3 j hj).2.2 z
    have src : ∀ i j, i < m → upS t b K i = .inl j → j < m ∧ ∀ jj, jj < K → j ≠ t + jj := fun i j hi e => upS_l hb hK2 hi e
    obtain ⟨x9, k9⟩ := GSd.relines (F' := F') (σ := upS t b K) x4 x8 y8 c8 (fun i j hi e => (src i j hi e).1) (fun i j hi e => upS_r e) (fun i i' hi hi' e => upS_inj hK2 e)
      (no x.f1 (nq x.gi) fun j hj => (x.apartG (tj _ hj)).1) (no x.f2 (nq x.gd) fun j hj => (x.apartG (tj _ hj)).2) (fun z => fa4 _ z hq80)
      (fun i j hi e => by
        obtain ⟨b1, b2⟩ := src i j hi e
        exact ⟨no (x.f4 j b1).1 (nq (x.ai j b1)) fun jj hjj => (x.apart b1 (tj _ hjj) (b2 jj hjj)).1, no (x.f4 j b1).2.1 (nq (x.ad j b1)) fun jj hjj => (x.apart b1 (tj _ hjj) (b2 jj hjj)).2.1, no (x.f4 j b1).2.2 (nq (x.al j b1)) fun jj hjj => (x.apart b1 (tj _ hjj) (b2 jj hjj)).2.2⟩)
      (fun j hj => ⟨fun z => fa4 _ z (y8.nw j hj).1, fun z => fa4 _ z (y8.nw j hj).2.1, fun z => fa4 _ z (y8.nw j hj).2.2⟩)
      (fun a z => by rw [y8.kp a (fa4 a z) id]; exact fa4 a z)
    have kp8 := kp4.trans y8.kp
    have hq8q := y8.kp.at hq4q id
    generalize put S8 G.gdx (.attrs (gridD m n q8)) = S9 at *
    refine r_meth x9.gi x9.gd (m_393_part_above P) rfl fun Q1 hQ1 => ?_
    refine part_above_m x9 (by lia) fun S10 G10 x10 k10 => hQ1 _ _ ?_
    try clear hQ1 Q1
    refine r_meth x10.gi x10.gd (m_393_part_above P) rfl fun Q1 hQ1 => ?_
    (try dsimp only [R_noES, R_noE0, R_initS, R_init0, R_setS, R_set0, R_load, R_getS, R_get0, R_const, R_onV, R_add, R_sub, R_done, R_argK, R_popNS, R_popN0])
    rw [eBK]
    refine part_above_m x10 hbK fun S11 G11 x11 k11 => hQ1 _ _ ?_
    try clear hQ1 Q1
    have kF := (k9.trans k10).trans k11
    refine h q S11 G11 ((x11.mono Kp.refl (fun a z => Or.inl (Or.inl z)) (fun a z => x11.fa a (Or.inl z))).congr fun i j hi hj => ?_) (fun a z => ?_) ?_
    · have hl0 : l = 0 := Int.ofNat.inj hwide.1
      have hr0 : r = n - 1 := by clear h; lia
      subst hl0 hr0
      exact scU_whole hj
    · rw [kF a (Or.inl z)]
      exact kp8 a (x.fa a z) id
    · have kq : ∀ {a o}, S8 a = some o → F' a → S11 a = some o := fun e z => (kF _ z).trans e
      refine ⟨fun i => G.as (t + i), fun i => G.dxs (t + i), fun i => G.lcs (t + i), fun i => G.wrs (t + i), ?_, fun i hi => ⟨?_, ?_, ?_⟩⟩
      · rw [kq hq8q (Or.inr (Or.inl rfl))]
        congr 2
        exact tab_eq fun j _ => by rw [Nat.add_comm]
      · exact kq (x8.ai _ (tj i hi)) (Or.inr (Or.inr ⟨i, hi, Or.inl rfl⟩))
      · exact kq (x8.ad _ (tj i hi)) (Or.inr (Or.inr ⟨i, hi, Or.inr (Or.inl rfl)⟩))
      · exact kq (x8.al _ (tj i hi)) (Or.inr (Or.inr ⟨i, hi, Or.inr (Or.inr rfl)⟩))
theorem scroll_down_m {t l b r k : Nat} {p : Int} (x : GSd S F g m n G rows) (hW : ∀ i, i < m → WF n (rows i)) (htb : t ≤ b) (hb : b < m) (hl : l ≤ r) (hr : r < n) (hk : 1 ≤ k)
    (h : ∀ S' G', GSd S' F g m n G' (scD n t l b r (min k (b + 1 - t)) p rows) → KF F S S' → Q .vN S') : WC (KK P) (d + 7) (.ref 307) [.vR g, .vT [.vI t, .vI l, .vI b, .vI r], .vI k, penV p] S Q := by
  have hml := x.ml
  have hnl := x.nl
  obtain ⟨K, hK⟩ : ∃ K, K = min k (b + 1 - t) := ⟨_, rfl⟩
  rw [← hK] at h
  have eK : max (0 : Int) (min (k : Int) ((b : Int) - (t : Int) + 1)) = (K : Int) := by lia
  have hK1 : 1 ≤ K := by lia
  have hK2 : K + t ≤ b + 1 := by lia
  have hK0 : (0 : Int) < (K : Int) := by lia
  have hK10 : K ≤ 10 := by lia
  clear hK hk
  have eBK : ((b : Int) + 1 - (K : Int)) = ((b + 1 - K : Nat) : Int) := by lia
  have hbK : b + 1 - K < m + 1 := by lia
  refine RC_go (cf307 P) ?_
  unfold code307
  refine fun Q1 hQ1 => clamp_ok (hQ1 _ _ ?_)
  try clear hQ1 Q1
  rw [eK]
  refine r_t hK0 ?_
  refine r_meth x.gi x.gd (m_393_is_wide P) rfl fun Q1 hQ1 => ?_
  refine is_wide_m x (hQ1 _ _ ?_)
  try clear hQ1 Q1
  refine r_if (fun hwide => ?_) fun hwide => ?_
  · have hLB : ∀ {i : Nat}, i ≤ 100 → i ≤ LB := fun h => Nat.le_trans h (by decide)
    refine fun Q1 hQ1 => x.lines (hQ1 _ ?_)
    try clear hQ1 Q1
    refine ⟨_, _, rfl, lst_of x.ln, fun q2 hq2 => ?_⟩
    rw [eBK, slice_tab (l := t) (k := b + 1 - K) rfl rfl (by lia) (by lia)]
    generalize hL2 : (tab (b + 1 - K - t) fun j => V.vR (G.as (j + t))) = L2 at *
    have x2 := x.keep (Kp.new (o := .lst L2) hq2.self)
    have kp2 : Kp none_ S (put S q2 (.lst L2)) := Kp.new hq2.self
    have c2 : put S q2 (.lst L2) q2 = _ := put_at
    generalize put S q2 (.lst L2) = S2 at *
    refine fun Q1 hQ1 => x2.lines (hQ1 _ ?_)
    try clear hQ1 Q1
    refine ⟨_, _, rfl, lst_of x2.ln, fun q3 hq3 => ?_⟩
    rw [slice_tab_lo (k := t) rfl (by lia)]
    generalize hL3 : (tab t fun i => V.vR (G.as i)) = L3 at *
    have x4 := x2.keep (Kp.new (o := .lst L3) hq3.self)
    have kp4 := kp2.newL (o := .lst L3) hq3
    have c24 := put_fr (o' := .lst L3) hq3 c2
    have c4 : put S2 q3 (.lst L3) q3 = _ := put_at
    generalize put S2 q3 (.lst L3) = S4 at *
    refine r_meth x4.gi x4.gd (m_393_fresh P) rfl fun Q1 hQ1 => ?_
    refine fresh_m x4 hK10 fun q5 S5 nas ndx nlc y hq50 hq5 => hQ1 _ _ ?_
    try clear hQ1 Q1
    have c5 := y.kp.at c4 id
    refine fun Q1 hQ1 => bin_cat (lst_of c5) (lst_of hq5) (by rw [← hL3]; simp only [List.length_append, tab_len]; exact hLB (by lia)) fun q6 hq6 => hQ1 _ _ ?_
    try clear hQ1 Q1
    have x5 := x4.keep y.kp
    have c25 := y.kp.at c24 id
    generalize hL6 : L3 ++ tab K (fun j => V.vR (nas j)) = L6 at *
    have c6 : put S5 q6 (.lst L6) q6 = _ := put_at
    have c26 := put_fr (o' := .lst L6) hq6 c25
    refine fun Q1 hQ1 => bin_cat (lst_of c6) (lst_of c26) (by rw [← hL6, ← hL3, ← hL2]; simp only [List.length_append, tab_len]; exact hLB (by lia)) fun q9 hq9 => hQ1 _ _ ?_
    try clear hQ1 Q1
    generalize hL9 : L6 ++ L2 = L9 at *
    have k56 : Kp none_ S5 (put (put S5 q6 (.lst L6)) q9 (.lst L9)) := (Kp.new hq6.self).newL hq9
    have x6 := x5.keep k56
    have y6 := y.keep k56
    have c9 : put (put S5 q6 (.lst L6)) q9 (.lst L9) q9 = _ := put_at
    generalize put (put S5 q6 (.lst L6)) q9 (.lst L9) = S6 at *
    refine fun Q1 hQ1 => x6.lines (hQ1 _ ?_)
    try clear hQ1 Q1
    refine ⟨_, _, rfl, lst_of x6.ln, fun q7 hq7 => ?_⟩
    rw [slice_tab_hi (a := (b : Int) + 1) (l := b + 1) rfl (by lia)]
    refine fun Q1 hQ1 => bin_cat (lst_of (put_fr hq7 c9)) (lst_of put_at) (by rw [← hL9, ← hL6, ← hL3, ← hL2]; simp only [List.length_append, tab_len]; exact hLB (by lia)) fun q8 hq8 => hQ1 _ _ ?_
    try clear hQ1 Q1
    generalize hL8 : L9 ++ tab (m - (b + 1)) (fun j => V.vR (G.as (j + (b + 1)))) = L8 at *
    have k68 : Kp none_ S6 (put (put S6 q7 (.lst (tab (m - (b + 1)) fun j => V.vR (G.as (j + (b + 1)))))) q8 (.lst L8)) := (Kp.new hq7.self).newL hq8
    have c8 : put (put S6 q7 (.lst (tab (m - (b + 1)) fun j => V.vR (G.as (j + (b + 1)))))) q8 (.lst L8) q8 = _ := put_at
    have hq80 : S4 q8 = none := y6.kp.back ((Kp.new (o := .lst (tab (m - (b + 1)) fun j => V.vR (G.as (j + (b + 1))))) hq7.self).back hq8.self)
    have x8 := x6.keep k68
    have y8 := y6.keep k68
    generalize put (put S6 q7 (.lst (tab (m - (b + 1)) fun j => V.vR (G.as (j + (b + 1)))))) q8 (.lst L8) = S8 at *
    refine r_setat x8.gi x8.gd (s_393_lines P) putF_lines (by decide : 3 ≤ 100) ?_
    have hcont : L8 = tab m (fun i => V.vR (pick (dnS t b K) G.as nas i)) := by rw [← hL8, ← hL9, ← hL6, ← hL3, ← hL2, dnS_cont hb hK2]
    rw [hcont] at c8
    have fa4 : ∀ a, F a → S4 a ≠ none := x4.fa
    have src : ∀ i j, i < m → dnS t b K i = .inl j → j < m := fun i j hi e => dnS_l hi e
    obtain ⟨x9, k9⟩ := GSd.relines (F' := F) (σ := dnS t b K) x4 x8 y8 c8 src (fun i j hi e => dnS_r e) (fun i i' hi hi' e => dnS_inj e)
      x.f1 x.f2 (fun z => fa4 _ z hq80) (fun i j hi e => x.f4 j (src i j hi e))
      (fun j hj => ⟨fun z => fa4 _ z (y8.nw j hj).1, fun z => fa4 _ z (y8.nw j hj).2.1, fun z => fa4 _ z (y8.nw j hj).2.2⟩) x8.fa
    have kp8 := kp4.trans y8.kp
    generalize put S8 G.gdx (.attrs (gridD m n q8)) = S9 at *
    refine r_meth x9.gi x9.gd (m_393_part_above P) rfl fun Q1 hQ1 => ?_
    refine part_above_m x9 (by lia) fun S10 G10 x10 k10 => hQ1 _ _ ?_
    try clear hQ1 Q1
    refine r_meth x10.gi x10.gd (m_393_part_above P) rfl fun Q1 hQ1 => ?_
    (try dsimp only [R_noES, R_noE0, R_initS, R_init0, R_setS, R_set0, R_load, R_getS, R_get0, R_const, R_onV, R_add, R_done, R_argK, R_popNS, R_popN0])
    rw [show ((b : Int) + 1) = ((b + 1 : Nat) : Int) from rfl]
    refine part_above_m x10 (by lia) fun S11 G11 x11 k11 => hQ1 _ _ ?_
    try clear hQ1 Q1
    have kF := (k9.trans k10).trans k11
    refine h S11 G11 (x11.congr fun i j hi hj => ?_) (fun a z => ?_)
    · have hl0 : l = 0 := Int.ofNat.inj hwide.1
      have hr0 : r = n - 1 := by clear h; lia
      subst hl0 hr0
      exact scD_whole hj
    · rw [kF a z]
      exact kp8 a (x.fa a z) id
  · skip
    refine r_t hK0 ?_
    have eB : ((t : Int) + (K : Int) - 1) = ((t + K : Nat) : Int) - 1 := by lia
    obtain ⟨b1, b2⟩ := big (i := b) rfl (by lia)
    obtain ⟨b3, b4⟩ := big (i := t + K - 1) (j := (t : Int) + K - 1) (by lia) (by lia)
    refine r_for3 b1 b2 b3 b4 (rDown (c := t + K) (fun i e S' => (∃ w, e = [some (.vR g), some (.vT [.vI t, .vI l, .vI b, .vI r]), some (.vI K), some (penV p), some (.vI t), some (.vI l), some (.vI b), some (.vI r), none, w]) ∧ KF F S S' ∧
      ∃ G', GSd S' F g m n G' (dnR n b l r K rows i)) rfl eB (by lia) ?_ ?_ _ _ ⟨⟨_, rfl⟩, KF.refl, _, x.congr fun k j _ _ => (congrFun (if_neg (by lia)) j).symm⟩)
    · intro i _ S1 hi1 hi2 x00
      refine hide fun G0 g0 => ?_
      obtain ⟨⟨w, rfl⟩, kf, G1, x1⟩ := x00
      refine g0 ?_
      clear g0 G0
      refine ⟨trivial, fun Q' qq => ?_⟩
      have r1 : dnR n b l r K rows (i + 1) i = rows i := if_neg (by lia)
      have r2 : dnR n b l r K rows (i + 1) (i - K) = rows (i - K) := if_neg (by lia)
      have him : i < m := by lia
      have hiK : i - K < m := by lia
      have ek : ((i : Int) - (K : Int)) = ((i - K : Nat) : Int) := by lia
      refine r_meth x1.gi x1.gd (m_393_put_cells P) rfl fun Q1 hQ1 => ?_
      refine r_meth x1.gi x1.gd (m_393_cells_of P) rfl fun Q2 hQ2 => ?_
      (try dsimp only [R_setS, R_set0, R_load, R_getS, R_get0, R_onV, R_sub, R_done, R_argK, R_popNS, R_popN0])
      rw [ek]
      refine cells_of_m x1 hiK hl hr (by rw [r2]; exact hW _ hiK) fun q S2 k2 hq0 hq => hQ2 _ _ ?_
      try clear hQ2 Q2
      rw [r2] at hq
      have x2 := x1.keep k2
      refine put_cells_m x2 him hl hr (by rw [r1]; exact hW _ him) hq (by
        rintro rfl
        rw [x1.al i him] at hq0; cases hq0) fun S3 G3 x3 k3 => hQ1 _ _ ?_
      refine qq _ _ ⟨⟨_, rfl⟩, (kf.trans (x1.kf k2)).trans k3, _, x3.congr fun k' j _ _ => ?_⟩
      by_cases c : k' = i
      · subst c
        rw [if_pos rfl, r1]
        unfold dnR; rw [if_pos (by lia)]
        exact congrFun (mixF_eq fun j h1 h2 => by rw [Nat.sub_add_cancel h1]) j
      · rw [if_neg c]
        unfold dnR
        by_cases c2 : i ≤ k' ∧ k' ≤ b
        · rw [if_pos (by lia), if_pos c2]
        · rw [if_neg (by lia), if_neg c2]
    · intro _ S1 x00
      refine hide fun G0 g0 => ?_
      obtain ⟨⟨w, rfl⟩, kf, G1, x1⟩ := x00
      refine g0 ?_
      clear g0 G0
      refine ⟨trivial, ?_⟩
      have eT : ((t : Int) + (K : Int) - 1) = ((t + K - 1 : Nat) : Int) := by lia
      refine r_meth x1.gi x1.gd (m_393_erase_area P) rfl fun Q1 hQ1 => ?_
      (try dsimp only [R_load, R_getS, R_get0, R_onV, R_add, R_const, R_sub, R_tup, R_done, R_argK, R_popNS, R_popN0])
      rw [eT]
      refine erase_area_m x1 (by lia) (by lia) hl hr fun S2 G2 x2 k2 => hQ1 _ _ ?_
      try clear hQ1 Q1
      refine r_meth x2.gi x2.gd (m_393_unwrap P) rfl fun Q1 hQ1 => ?_
      refine unwrap_m x2 htb hb fun S3 G3 x3 k3 => hQ1 _ _ ?_
      try clear hQ1 Q1
      refine h _ G3 (x3.congr fun i j hi hj => ?_) ((kf.trans k2).trans k3)
      unfold scD dnR
      by_cases c : t ≤ i ∧ i ≤ b
      · rw [if_pos c]
        by_cases c2 : t + K ≤ i
        · rw [if_neg (by lia), if_pos (by lia), if_pos c2]
        · rw [if_pos (by lia), if_neg (by lia), if_neg c2]
      · rw [if_neg c, if_neg (by lia), if_neg (by lia)]
end Mine
end
section
open PySem PySem.W PyProof.Rows
set_option maxRecDepth 100000
set_option linter.unusedVariables false
set_option linter.unusedSimpArgs false
set_option maxHeartbeats 4000000
namespace Mine
variable {P : Params} {S S' : St} {Q : V → St → Prop} {d : Nat}

noncomputable def marD (m n t b l r : Int) : List (Str × V) := [(Str.ofString "rows", .vI m), (Str.ofString "columns", .vI n), (Str.ofString "top", .vI t), (Str.ofString "bottom", .vI b), (Str.ofString "left", .vI l), (Str.ofString "right", .vI r)]
structure MgS (S : St) (mg dx : Addr) (m n t b l r : Int) : Prop where
  gi : S mg = some (.inst 589 dx)
  gd : S dx = some (.attrs (marD m n t b l r))
theorem put_rr' {S : St} {a b : Addr} {o o' : AO} (n : b ≠ a) (h : S b = some o') : put S a o b = some o' := by rw [put_off n]; exact h
theorem put_comm {S : St} {a b : Addr} {o o' : AO} (n : a ≠ b) : put (put S a o) b o' = put (put S b o') a o := by
  funext x; unfold put
  by_cases h : x = a
  · subst h; rw [if_neg n]; simp
  · simp [h]
theorem margins_new {m n : Int} (h : ∀ mg dx S', Kp none_ S S' → S mg = none → S dx = none → MgS S' mg dx m n 0 (m - 1) 0 (n - 1) → Q (.vR mg) S') : WC (KK P) (d + 2) (.ref 589) [.vI m, .vI n] S Q := by
  refine WC_cls (KK P) (f_589 P) (i_589 P) fun dx hdx => ?_
  have ne : dx ≠ dx + 1 := Nat.ne_of_lt (Nat.lt_succ_self _)
  have hd1 : S (dx + 1) = none := hdx _ (Nat.le_succ _)
  rw [put_comm ne]
  have e1 : put S (dx + 1) (.inst 589 dx) (dx + 1) = some (.inst 589 dx) := put_at
  have k0 : Kp none_ S (put S (dx + 1) (.inst 589 dx)) := Kp.new hd1
  generalize put S (dx + 1) (.inst 589 dx) = S0 at *
  refine RC_go (cf474 P) ?_
  unfold code474
  (try dsimp only [R_noE0, R_initS, R_init0, R_load, R_getS, R_get0, R_onV])
  refine r_setin e1 ne.symm (s_589_rows P) (by kernel_rfl : _ = [(Str.ofString "rows", .vI m)]) (by decide : 1 ≤ 100) ?_
  (try dsimp only [R_load, R_getS, R_get0, R_onV])
  refine r_setin e1 ne.symm (s_589_columns P) (by kernel_rfl : _ = [(Str.ofString "rows", .vI m), (Str.ofString "columns", .vI n)]) (by decide : 2 ≤ 100) ?_
  (try dsimp only [R_const, R_load, R_get0, R_onV])
  refine r_setin e1 ne.symm (s_589_top P) (by kernel_rfl : _ = [(Str.ofString "rows", .vI m), (Str.ofString "columns", .vI n), (Str.ofString "top", .vI 0)]) (by decide : 3 ≤ 100) ?_
  (try dsimp only [R_load, R_getS, R_get0, R_const, R_onV, R_sub])
  refine r_setin e1 ne.symm (s_589_bottom P) (by kernel_rfl : _ = [(Str.ofString "rows", .vI m), (Str.ofString "columns", .vI n), (Str.ofString "top", .vI 0), (Str.ofString "bottom", .vI (m - 1))]) (by decide : 4 ≤ 100) ?_
  (try dsimp only [R_const, R_load, R_get0, R_onV])
  refine r_setin e1 ne.symm (s_589_left P) (by kernel_rfl : _ = [(Str.ofString "rows", .vI m), (Str.ofString "columns", .vI n), (Str.ofString "top", .vI 0), (Str.ofString "bottom", .vI (m - 1)), (Str.ofString "left", .vI 0)]) (by decide : 5 ≤ 100) ?_
  (try dsimp only [R_load, R_getS, R_get0, R_const, R_onV, R_sub])
  refine r_setin e1 ne.symm (s_589_right P) (by kernel_rfl : _ = marD m n 0 (m - 1) 0 (n - 1)) (by decide : 6 ≤ 100) ?_
  (try dsimp only [R_const, R_ret])
  exact ⟨rfl, h _ dx _ (k0.later hdx.self) hd1 hdx.self ⟨put_rr' ne.symm e1, put_at⟩⟩
section
variable {mg dx : Addr} {m n t b l r : Int}
theorem MgS.ne (x : MgS S mg dx m n t b l r) : mg ≠ dx := by
  intro e; have := x.gi; rw [e, x.gd] at this; cases this
theorem MgS.set (x : MgS S mg dx m n t b l r) {m' n' t' b' l' r' : Int} : MgS (put S dx (.attrs (marD m' n' t' b' l' r'))) mg dx m' n' t' b' l' r' := ⟨put_rr' x.ne x.gi, put_at⟩
theorem set_rows_m {lo hi : Int} (x : MgS S mg dx m n t b l r) (h0 : 0 ≤ lo) (h1 : hi < m) (h : ∀ S', Kp (fun a => a = dx) S S' → MgS S' mg dx m n (if lo < hi ∨ (lo = 0 ∧ hi = m - 1) then lo else t) (if lo < hi ∨ (lo = 0 ∧ hi = m - 1) then hi else b) l r → Q (.vB (decide (lo < hi ∨ (lo = 0 ∧ hi = m - 1)))) S') : WC (KK P) (d + 2) (.ref 481) [.vR mg, .vI lo, .vI hi] S Q := by
  refine RC_go (cf481 P) ?_
  unfold code481
  (try dsimp only [R_noES, R_noE0, R_initS, R_init0, R_const, R_load, R_getS, R_get0, R_onV, R_kle])
  refine r_join (fun s e S' => s = [.vB (decide (lo < hi))] ∧ e = [some (.vR mg), some (.vI lo), some (.vI hi), none] ∧ S' = S) (fun N' hN => r_t h0 ?_) ?_
  · (try dsimp only [R_load, R_getS, R_get0, R_onV, R_klt])
    refine r_if (fun c1 => ?_) fun c1 => ?_
    · (try dsimp only [R_load, R_get0, R_onV])
      refine r_attr x.gi x.gd (d_589_rows P) rfl rfl ?_
      (try dsimp only [R_lt, R_done, R_thenK])
      exact hN _ _ _ ⟨vB_eq ⟨fun _ => c1, fun _ => h1⟩, rfl, rfl⟩
    · (try dsimp only [R_pop, R_const, R_done, R_thenK])
      exact hN _ _ _ ⟨vB_F c1, rfl, rfl⟩
  rintro _ _ S ⟨rfl, rfl, rfl⟩
  (try dsimp only [R_dup, R_tst])
  refine r_join (fun s e S' => s = [.vB (decide (lo < hi ∨ (lo = 0 ∧ hi = m - 1)))] ∧ e = [some (.vR mg), some (.vI lo), some (.vI hi), none] ∧ S' = S) (fun N' hN => r_if (fun c1 => ?_) fun c1 => ?_) ?_
  · (try dsimp only [R_done, R_thenK])
    exact hN _ _ _ ⟨vB_eq ⟨Or.inl, fun _ => c1⟩, rfl, rfl⟩
  · (try dsimp only [R_pop, R_load, R_getS, R_get0, R_const, R_onV, R_eq, R_dup, R_tst])
    refine r_if (fun c2 => ?_) fun c2 => ?_
    · (try dsimp only [R_pop, R_load, R_getS, R_get0, R_onV])
      refine r_attr x.gi x.gd (d_589_rows P) rfl rfl ?_
      (try dsimp only [R_const, R_sub, R_eq, R_done, R_thenK])
      exact hN _ _ _ ⟨vB_eq ⟨fun z => Or.inr ⟨c2, z⟩, fun z => z.elim (fun q => absurd q c1) fun q => q.2⟩, rfl, rfl⟩
    · (try dsimp only [R_done, R_thenK])
      exact hN _ _ _ ⟨vB_eq ⟨fun z => absurd z c2, fun z => z.elim (fun q => absurd q c1) fun q => absurd q.1 c2⟩, rfl, rfl⟩
  rintro _ _ S ⟨rfl, rfl, rfl⟩
  (try dsimp only [R_store, R_setS, R_set0, R_load, R_getS, R_get0, R_onV, R_tst])
  refine r_if (fun c => ?_) fun c => ?_
  · (try dsimp only [R_load, R_getS, R_get0, R_onV])
    refine r_setat x.gi x.gd (s_589_top P) (by kernel_rfl : _ = marD m n lo b l r) (by decide : 6 ≤ 100) ?_
    (try dsimp only [R_load, R_getS, R_get0, R_onV])
    have x1 := x.set (m' := m) (n' := n) (t' := lo) (b' := b) (l' := l) (r' := r)
    refine r_setat x1.gi x1.gd (s_589_bottom P) (by kernel_rfl : _ = marD m n lo hi l r) (by decide : 6 ≤ 100) ?_
    (try dsimp only [R_done, R_thenK, R_load, R_getS, R_get0, R_ret, R_onV])
    rw [put_put]
    have x2 := x.set (m' := m) (n' := n) (t' := lo) (b' := hi) (l' := l) (r' := r)
    exact h _ (Kp.upd rfl) (by rw [if_pos c, if_pos c]; exact x2)
  · (try dsimp only [R_done, R_thenK, R_load, R_getS, R_get0, R_ret, R_onV])
    exact h S Kp.refl (by rw [if_neg c, if_neg c]; exact x)
theorem set_columns_m {lo hi : Int} (x : MgS S mg dx m n t b l r) (h0 : 0 ≤ lo) (h1 : hi < n) (h : ∀ S', Kp (fun a => a = dx) S S' → MgS S' mg dx m n t b (if lo < hi ∨ (lo = 0 ∧ hi = n - 1) then lo else l) (if lo < hi ∨ (lo = 0 ∧ hi = n - 1) then hi else r) → Q (.vB (decide (lo < hi ∨ (lo = 0 ∧ hi = n - 1)))) S') : WC (KK P) (d + 2) (.ref 488) [.vR mg, .vI lo, .vI hi] S Q := by
  refine RC_go (cf488 P) ?_
  unfold code488
  (try dsimp only [R_noES, R_noE0, R_initS, R_init0, R_const, R_load, R_getS, R_get0, R_onV, R_kle])
  refine r_join (fun s e S' => s = [.vB (decide (lo < hi))] ∧ e = [some (.vR mg), some (.vI lo), some (.vI hi), none] ∧ S' = S) (fun N' hN => r_t h0 ?_) ?_
  · (try dsimp only [R_load, R_getS, R_get0, R_onV, R_klt])
    refine r_if (fun c1 => ?_) fun c1 => ?_
    · (try dsimp only [R_load, R_get0, R_onV])
      refine r_attr x.gi x.gd (d_589_columns P) rfl rfl ?_
      (try dsimp only [R_lt, R_done, R_thenK])
      exact hN _ _ _ ⟨vB_eq ⟨fun _ => c1, fun _ => h1⟩, rfl, rfl⟩
    · (try dsimp only [R_pop, R_const, R_done, R_thenK])
      exact hN _ _ _ ⟨vB_F c1, rfl, rfl⟩
  rintro _ _ S ⟨rfl, rfl, rfl⟩
  (try dsimp only [R_dup, R_tst])
  refine r_join (fun s e S' => s = [.vB (decide (lo < hi ∨ (lo = 0 ∧ hi = n - 1)))] ∧ e = [some (.vR mg), some (.vI lo), some (.vI hi), none] ∧ S' = S) (fun N' hN => r_if (fun c1 => ?_) fun c1 => ?_) ?_
  · (try dsimp only [R_done, R_thenK])
    exact hN _ _ _ ⟨vB_eq ⟨Or.inl, fun _ => c1⟩, rfl, rfl⟩
  · (try dsimp only [R_pop, R_load, R_getS, R_get0, R_const, R_onV, R_eq, R_dup, R_tst])
    refine r_if (fun c2 => ?_) fun c2 => ?_
    · (try dsimp only [R_pop, R_load, R_getS, R_get0, R_onV])
      refine r_attr x.gi x.gd (d_589_columns P) rfl rfl ?_
      (try dsimp only [R_const, R_sub, R_eq, R_done, R_thenK])
      exact hN _ _ _ ⟨vB_eq ⟨fun z => Or.inr ⟨c2, z⟩, fun z => z.elim (fun q => absurd q c1) fun q => q.2⟩, rfl, rfl⟩
    · (try dsimp only [R_done, R_thenK])
      exact hN _ _ _ ⟨vB_eq ⟨fun z => absurd z c2, fun z => z.elim (fun q => absurd q c1) fun q => absurd q.1 c2⟩, rfl, rfl⟩
  rintro _ _ S ⟨rfl, rfl, rfl⟩
  (try dsimp only [R_store, R_setS, R_set0, R_load, R_getS, R_get0, R_onV, R_tst])
  refine r_if (fun c => ?_) fun c => ?_
  · (try dsimp only [R_load, R_getS, R_get0, R_onV])
    refine r_setat x.gi x.gd (s_589_left P) (by kernel_rfl : _ = marD m n t b lo r) (by decide : 6 ≤ 100) ?_
    (try dsimp only [R_load, R_getS, R_get0, R_onV])
    have x1 := x.set (m' := m) (n' := n) (t' := t) (b' := b) (l' := lo) (r' := r)
    refine r_setat x1.gi x1.gd (s_589_right P) (by kernel_rfl : _ = marD m n t b lo hi) (by decide : 6 ≤ 100) ?_
    (try dsimp only [R_done, R_thenK, R_load, R_getS, R_get0, R_ret, R_onV])
    rw [put_put]
    have x2 := x.set (m' := m) (n' := n) (t' := t) (b' := b) (l' := lo) (r' := hi)
    exact h _ (Kp.upd rfl) (by rw [if_pos c, if_pos c]; exact x2)
  · (try dsimp only [R_done, R_thenK, R_load, R_getS, R_get0, R_ret, R_onV])
    exact h S Kp.refl (by rw [if_neg c, if_neg c]; exact x)
theorem area_m (x : MgS S mg dx m n t b l r) (h : Q (.vT [.vI t, .vI l, .vI b, .vI r]) S) : WC (KK P) (d + 1) (.ref 516) [.vR mg] S Q := by
  refine RC_go (cf516 P) ?_
  unfold code516
  (try dsimp only [R_noE0, R_initS, R_init0, R_load, R_get0, R_onV])
  refine r_attr x.gi x.gd (d_589_top P) rfl rfl ?_
  (try dsimp only [R_load, R_get0, R_onV])
  refine r_attr x.gi x.gd (d_589_left P) rfl rfl ?_
  (try dsimp only [R_load, R_get0, R_onV])
  refine r_attr x.gi x.gd (d_589_bottom P) rfl rfl ?_
  (try dsimp only [R_load, R_get0, R_onV])
  refine r_attr x.gi x.gd (d_589_right P) rfl rfl ?_
  (try dsimp only [R_tup, R_ret, R_popNS, R_popN0])
  exact h
theorem holds_row_m {i : Int} (x : MgS S mg dx m n t b l r) (h : Q (.vB (decide (t ≤ i ∧ i ≤ b))) S) : WC (KK P) (d + 1) (.ref 530) [.vR mg, .vI i] S Q := by
  refine RC_go (cf530 P) ?_
  unfold code530
  (try dsimp only [R_noE0, R_initS, R_init0, R_load, R_get0, R_onV])
  refine r_attr x.gi x.gd (d_589_top P) rfl rfl ?_
  (try dsimp only [R_load, R_getS, R_get0, R_onV, R_kle])
  refine r_if (fun c => ?_) fun c => ?_
  · (try dsimp only [R_load, R_get0, R_onV])
    refine r_attr x.gi x.gd (d_589_bottom P) rfl rfl ?_
    (try dsimp only [R_le, R_done, R_thenK, R_ret])
    rw [decide_eq_decide.mpr (⟨fun z => ⟨c, z⟩, fun z => z.2⟩ : i ≤ b ↔ t ≤ i ∧ i ≤ b)]
    exact h
  · (try dsimp only [R_pop, R_const, R_done, R_thenK, R_ret])
    rw [decide_eq_false fun z => c z.1] at h
    exact h
theorem holds_column_m {i : Int} (x : MgS S mg dx m n t b l r) (h : Q (.vB (decide (l ≤ i ∧ i ≤ r))) S) : WC (KK P) (d + 1) (.ref 537) [.vR mg, .vI i] S Q := by
  refine RC_go (cf537 P) ?_
  unfold code537
  (try dsimp only [R_noE0, R_initS, R_init0, R_load, R_get0, R_onV])
  refine r_attr x.gi x.gd (d_589_left P) rfl rfl ?_
  (try dsimp only [R_load, R_getS, R_get0, R_onV, R_kle])
  refine r_if (fun c => ?_) fun c => ?_
  · (try dsimp only [R_load, R_get0, R_onV])
    refine r_attr x.gi x.gd (d_589_right P) rfl rfl ?_
    (try dsimp only [R_le, R_done, R_thenK, R_ret])
    rw [decide_eq_decide.mpr (⟨fun z => ⟨c, z⟩, fun z => z.2⟩ : i ≤ r ↔ l ≤ i ∧ i ≤ r)]
    exact h
  · (try dsimp only [R_pop, R_const, R_done, R_thenK, R_ret])
    rw [decide_eq_false fun z => c z.1] at h
    exact h
theorem holds_m {i j : Int} (x : MgS S mg dx m n t b l r) (h : Q (.vB (decide (t ≤ i ∧ i ≤ b) && decide (l ≤ j ∧ j ≤ r))) S) : WC (KK P) (d + 2) (.ref 523) [.vR mg, .vI i, .vI j] S Q := by
  refine RC_go (cf523 P) ?_
  unfold code523
  (try dsimp only [R_noE0, R_initS, R_init0, R_load, R_get0, R_onV])
  refine r_meth x.gi x.gd (m_589_holds_row P) rfl fun Q1 hQ1 => ?_
  (try dsimp only [R_load, R_getS, R_get0, R_done, R_argK, R_popNS, R_popN0, R_onV])
  refine holds_row_m x (hQ1 _ _ ?_)
  try clear hQ1 Q1
  (try dsimp only [R_dup, R_tst])
  refine r_if (fun c => ?_) fun c => ?_
  · (try dsimp only [R_pop, R_load, R_get0, R_onV])
    refine r_meth x.gi x.gd (m_589_holds_column P) rfl fun Q1 hQ1 => ?_
    (try dsimp only [R_load, R_getS, R_get0, R_done, R_argK, R_popNS, R_popN0, R_onV])
    refine holds_column_m x (hQ1 _ _ ?_)
    try clear hQ1 Q1
    (try dsimp only [R_done, R_thenK, R_ret])
    rw [decide_eq_true c, Bool.true_and] at h
    exact h
  · (try dsimp only [R_done, R_thenK, R_ret])
    rw [decide_eq_false c, Bool.false_and] at h
    rw [decide_eq_false c]
    exact h
theorem first_row_m {i : Int} (x : MgS S mg dx m n t b l r) (h : Q (.vI (if t ≤ i then t else 0)) S) : WC (KK P) (d + 1) (.ref 558) [.vR mg, .vI i] S Q := by
  refine RC_go (cf558 P) ?_
  unfold code558
  (try dsimp only [R_noE0, R_initS, R_init0, R_load, R_getS, R_get0, R_onV])
  refine r_attr x.gi x.gd (d_589_top P) rfl rfl ?_
  (try dsimp only [R_ge])
  refine r_if (fun c => ?_) fun c => ?_
  · (try dsimp only [R_load, R_get0, R_onV])
    refine r_attr x.gi x.gd (d_589_top P) rfl rfl ?_
    (try dsimp only [R_done, R_thenK, R_ret])
    rw [if_pos c] at h; exact h
  · (try dsimp only [R_const, R_done, R_thenK, R_ret])
    rw [if_neg c] at h; exact h
theorem first_column_m {i : Int} (x : MgS S mg dx m n t b l r) (h : Q (.vI (if l ≤ i then l else 0)) S) : WC (KK P) (d + 1) (.ref 572) [.vR mg, .vI i] S Q := by
  refine RC_go (cf572 P) ?_
  unfold code572
  (try dsimp only [R_noE0, R_initS, R_init0, R_load, R_getS, R_get0, R_onV])
  refine r_attr x.gi x.gd (d_589_left P) rfl rfl ?_
  (try dsimp only [R_ge])
  refine r_if (fun c => ?_) fun c => ?_
  · (try dsimp only [R_load, R_get0, R_onV])
    refine r_attr x.gi x.gd (d_589_left P) rfl rfl ?_
    (try dsimp only [R_done, R_thenK, R_ret])
    rw [if_pos c] at h; exact h
  · (try dsimp only [R_const, R_done, R_thenK, R_ret])
    rw [if_neg c] at h; exact h
theorem last_row_m {i : Int} (x : MgS S mg dx m n t b l r) (h : Q (.vI (if i ≤ b then b else m - 1)) S) : WC (KK P) (d + 1) (.ref 565) [.vR mg, .vI i] S Q := by
  refine RC_go (cf565 P) ?_
  unfold code565
  (try dsimp only [R_noE0, R_initS, R_init0, R_load, R_getS, R_get0, R_onV])
  refine r_attr x.gi x.gd (d_589_bottom P) rfl rfl ?_
  (try dsimp only [R_le])
  refine r_if (fun c => ?_) fun c => ?_
  · (try dsimp only [R_load, R_get0, R_onV])
    refine r_attr x.gi x.gd (d_589_bottom P) rfl rfl ?_
    (try dsimp only [R_done, R_thenK, R_ret])
    rw [if_pos c] at h; exact h
  · (try dsimp only [R_load, R_get0, R_onV])
    refine r_attr x.gi x.gd (d_589_rows P) rfl rfl ?_
    (try dsimp only [R_const, R_sub, R_done, R_thenK, R_ret])
    rw [if_neg c] at h; exact h
theorem last_column_m {i : Int} (x : MgS S mg dx m n t b l r) (h : Q (.vI (if i ≤ r then r else n - 1)) S) : WC (KK P) (d + 1) (.ref 579) [.vR mg, .vI i] S Q := by
  refine RC_go (cf579 P) ?_
  unfold code579
  (try dsimp only [R_noE0, R_initS, R_init0, R_load, R_getS, R_get0, R_onV])
  refine r_attr x.gi x.gd (d_589_right P) rfl rfl ?_
  (try dsimp only [R_le])
  refine r_if (fun c => ?_) fun c => ?_
  · (try dsimp only [R_load, R_get0, R_onV])
    refine r_attr x.gi x.gd (d_589_right P) rfl rfl ?_
    (try dsimp only [R_done, R_thenK, R_ret])
    rw [if_pos c] at h; exact h
  · (try dsimp only [R_load, R_get0, R_onV])
    refine r_attr x.gi x.gd (d_589_columns P) rfl rfl ?_
    (try dsimp only [R_const, R_sub, R_done, R_thenK, R_ret])
    rw [if_neg c] at h; exact h
end
theorem Kp.newL' {fp : Addr → Prop} {S S1 : St} {r : Addr} {o : AO} (k : Kp fp S S1) (h : S1 r = none) : Kp fp S (Mine.put S1 r o) := k.trans (Kp.new h)
noncomputable def curD (i j : Int) : List (Str × V) := [(Str.ofString "row", .vI i), (Str.ofString "column", .vI j), (Str.ofString "is_waiting", .vB false), (Str.ofString "pen", penV (-1)), (Str.ofString "is_origin", .vB false), (Str.ofString "is_guarding", .vB false)]
structure CuS (S : St) (cu dx : Addr) (i j : Int) : Prop where
  gi : S cu = some (.inst 456 dx)
  gd : S dx = some (.attrs (curD i j))
theorem CuS.ne {cu dx : Addr} {i j : Int} (x : CuS S cu dx i j) : cu ≠ dx := by
  intro e; have := x.gi; rw [e, x.gd] at this; cases this
theorem CuS.set {cu dx : Addr} {i j i' j' : Int} (x : CuS S cu dx i j) : CuS (put S dx (.attrs (curD i' j'))) cu dx i' j' := ⟨put_rr' x.ne x.gi, put_at⟩
theorem cursor_new (h : ∀ cu dx S', Kp none_ S S' → S cu = none → S dx = none → CuS S' cu dx 0 0 → Q (.vR cu) S') : WC (KK P) (d + 2) (.ref 456) [] S Q := by
  refine WC_cls (KK P) (f_456 P) (i_456 P) fun dx hdx => ?_
  have ne : dx ≠ dx + 1 := Nat.ne_of_lt (Nat.lt_succ_self _)
  have hd1 : S (dx + 1) = none := hdx _ (Nat.le_succ _)
  rw [put_comm ne]
  have e1 : put S (dx + 1) (.inst 456 dx) (dx + 1) = some (.inst 456 dx) := put_at
  have k0 : Kp none_ S (put S (dx + 1) (.inst 456 dx)) := Kp.new hd1
  generalize put S (dx + 1) (.inst 456 dx) = S0 at *
  refine RC_go (cf425 P) ?_
  unfold code425
  (try dsimp only [R_noE0, R_initS, R_init0, R_const, R_load, R_get0, R_onV])
  refine r_setin e1 ne.symm (s_456_row P) (by kernel_rfl : _ = (curD 0 0).take 1) (by decide : 1 ≤ 100) ?_
  (try dsimp only [R_const, R_load, R_get0, R_onV])
  refine r_setin e1 ne.symm (s_456_column P) (by kernel_rfl : _ = (curD 0 0).take 2) (by decide : 2 ≤ 100) ?_
  (try dsimp only [R_const, R_load, R_get0, R_onV])
  refine r_setin e1 ne.symm (s_456_is_waiting P) (by kernel_rfl : _ = (curD 0 0).take 3) (by decide : 3 ≤ 100) ?_
  (try dsimp only [R_const, R_load, R_get0, R_onV])
  refine r_setin e1 ne.symm (s_456_pen P) (by kernel_rfl : _ = (curD 0 0).take 4) (by decide : 4 ≤ 100) ?_
  (try dsimp only [R_const, R_load, R_get0, R_onV])
  refine r_setin e1 ne.symm (s_456_is_origin P) (by kernel_rfl : _ = (curD 0 0).take 5) (by decide : 5 ≤ 100) ?_
  (try dsimp only [R_const, R_load, R_get0, R_onV])
  refine r_setin e1 ne.symm (s_456_is_guarding P) (by kernel_rfl : _ = curD 0 0) (by decide : 6 ≤ 100) ?_
  (try dsimp only [R_const, R_ret])
  exact ⟨rfl, h _ dx _ (k0.later hdx.self) hd1 hdx.self ⟨put_rr' ne.symm e1, put_at⟩⟩
theorem go_m {cu dx : Addr} {i j i' j' : Int} (x : CuS S cu dx i j) (h : Q .vN (put S dx (.attrs (curD i' j')))) : WC (KK P) (d + 1) (.ref 439) [.vR cu, .vI i', .vI j'] S Q := by
  refine RC_go (cf439 P) ?_
  unfold code439
  (try dsimp only [R_noE0, R_initS, R_init0, R_load, R_getS, R_get0, R_onV])
  refine r_setat x.gi x.gd (s_456_row P) (by kernel_rfl : _ = curD i' j) (by decide : 6 ≤ 100) ?_
  (try dsimp only [R_load, R_getS, R_get0, R_onV])
  refine r_setin x.gi x.ne (s_456_column P) (by kernel_rfl : _ = curD i' j') (by decide : 6 ≤ 100) ?_
  (try dsimp only [R_const, R_load, R_get0, R_onV])
  refine r_setin x.gi x.ne (s_456_is_waiting P) (by kernel_rfl : _ = curD i' j') (by decide : 6 ≤ 100) ?_
  (try dsimp only [R_const, R_ret])
  exact h
theorem place_m {cu dx : Addr} {i j : Int} (x : CuS S cu dx i j) (h : Q (.vT [.vI i, .vI j]) S) : WC (KK P) (d + 1) (.ref 446) [.vR cu] S Q := by
  refine RC_go (cf446 P) ?_
  unfold code446
  (try dsimp only [R_noE0, R_initS, R_init0, R_load, R_get0, R_onV])
  refine r_attr x.gi x.gd (d_456_row P) rfl rfl ?_
  (try dsimp only [R_load, R_get0, R_onV])
  refine r_attr x.gi x.gd (d_456_column P) rfl rfl ?_
  (try dsimp only [R_tup, R_ret, R_popNS, R_popN0])
  exact h
noncomputable def mvI (i di lo hi : Int) : Int := max lo (min (i + di) hi)
theorem moved_m {cu dx mg mdx : Addr} {i j di dj m n t b l r : Int} (y : CuS S cu dx i j) (x : MgS S mg mdx m n t b l r)
    (h : Q .vN (put S dx (.attrs (curD (mvI i di (if t ≤ i then t else 0) (if i ≤ b then b else m - 1)) (mvI j dj (if l ≤ j then l else 0) (if j ≤ r then r else n - 1)))))) : WC (KK P) (d + 2) (.ref 600) [.vR cu, .vR mg, .vI di, .vI dj] S Q := by
  refine RC_go (cf600 P) ?_
  unfold code600
  (try dsimp only [R_noES, R_noE0, R_initS, R_init0, R_load, R_get0, R_onV])
  refine r_attr y.gi y.gd (d_456_row P) rfl rfl ?_
  (try dsimp only [R_load, R_getS, R_get0, R_onV, R_add])
  refine r_meth x.gi x.gd (m_589_first_row P) rfl fun Q1 hQ1 => ?_
  (try dsimp only [R_load, R_get0, R_onV])
  refine r_attr y.gi y.gd (d_456_row P) rfl rfl ?_
  (try dsimp only [R_done, R_argK, R_popNS, R_popN0])
  refine first_row_m x (hQ1 _ _ ?_)
  try clear hQ1 Q1
  (try dsimp only [R_load, R_getS, R_get0, R_onV])
  refine r_meth x.gi x.gd (m_589_last_row P) rfl fun Q1 hQ1 => ?_
  (try dsimp only [R_load, R_get0, R_onV])
  refine r_attr y.gi y.gd (d_456_row P) rfl rfl ?_
  (try dsimp only [R_done, R_argK, R_popNS, R_popN0])
  refine last_row_m x (hQ1 _ _ ?_)
  try clear hQ1 Q1
  refine fun Q1 hQ1 => clamp_ok (hQ1 _ _ ?_)
  try clear hQ1 Q1
  dsimp only [R_store, R_set0, R_setS]
  (try dsimp only [R_load, R_get0, R_onV])
  refine r_attr y.gi y.gd (d_456_column P) rfl rfl ?_
  (try dsimp only [R_load, R_getS, R_get0, R_onV, R_add])
  refine r_meth x.gi x.gd (m_589_first_column P) rfl fun Q1 hQ1 => ?_
  (try dsimp only [R_load, R_get0, R_onV])
  refine r_attr y.gi y.gd (d_456_column P) rfl rfl ?_
  (try dsimp only [R_done, R_argK, R_popNS, R_popN0])
  refine first_column_m x (hQ1 _ _ ?_)
  try clear hQ1 Q1
  (try dsimp only [R_load, R_getS, R_get0, R_onV])
  refine r_meth x.gi x.gd (m_589_last_column P) rfl fun Q1 hQ1 => ?_
  (try dsimp only [R_load, R_get0, R_onV])
  refine r_attr y.gi y.gd (d_456_column P) rfl rfl ?_
  (try dsimp only [R_done, R_argK, R_popNS, R_popN0])
  refine last_column_m x (hQ1 _ _ ?_)
  try clear hQ1 Q1
  refine fun Q1 hQ1 => clamp_ok (hQ1 _ _ ?_)
  try clear hQ1 Q1
  dsimp only [R_store, R_set0, R_setS]
  (try dsimp only [R_load, R_get0, R_onV])
  refine r_meth y.gi y.gd (m_456_go P) rfl fun Q1 hQ1 => ?_
  (try dsimp only [R_load, R_getS, R_get0, R_done, R_argK, R_popNS, R_popN0, R_onV])
  refine go_m y (hQ1 _ _ ?_)
  try clear hQ1 Q1
  (try dsimp only [R_drop, R_const, R_ret])
  unfold mvI at h
  exact h
noncomputable def DeckOk (S : St) (dk dl : Addr) (B : Int) : Prop := ∃ (mx t : Int) (is : List Int), S dk = some (.dict [(Str.ofString "cells", .vR dl), (Str.ofString "mixed", .vI mx), (Str.ofString "turn", .vI t)]) ∧ S dl = some (.lst (is.map .vI)) ∧ is.length ≤ 20 ∧ 0 ≤ t ∧ t + B ≤ 1000000
noncomputable def dkF (dk dl : Addr) : Addr → Prop := fun a => a = dk ∨ a = dl
theorem DeckOk.keep {dk dl : Addr} {B : Int} {F : Addr → Prop} (x : DeckOk S dk dl B) (k : Kp F S S') (h1 : ¬ F dk) (h2 : ¬ F dl) : DeckOk S' dk dl B := by
  refine hide fun G0 g0 => ?_
  obtain ⟨mx, t, is, e1, e2, e3, e4, e5⟩ := x
  refine g0 ?_
  clear g0 G0
  exact ⟨mx, t, is, k.at e1 h1, k.at e2 h2, e3, e4, e5⟩
theorem DeckOk.weak {dk dl : Addr} {B B' : Int} (x : DeckOk S dk dl B) (h : B' ≤ B) : DeckOk S dk dl B' := by
  refine hide fun G0 g0 => ?_
  obtain ⟨mx, t, is, e1, e2, e3, e4, e5⟩ := x
  refine g0 ?_
  clear g0 G0
  exact ⟨mx, t, is, e1, e2, e3, e4, by lia⟩
theorem PD_ints : ∀ (is : List Int), PD S (.vT (is.map .vI)) (.tuple (is.map .int))
  | [] => .tupN
  | c :: cs => .tupC (.int c) (PD_ints cs)
theorem lay_ints : ∀ (cs : List Int), PyData.canLayAll0 (cs.map .int) = true ∧ PyData.depthAll (cs.map .int) ≤ 2
  | [] => ⟨rfl, by decide⟩
  | c :: cs => by
    obtain ⟨x, y⟩ := lay_ints cs
    rw [List.map_cons]
    exact ⟨by simp [PyData.canLayAll0, PyData.canLay0, x], by simp only [PyData.depthAll, PyData.depth]; lia⟩
theorem shaped_ints (cs : List Int) : SeqAt.shaped (.list (cs.map .int)) = true := by
  obtain ⟨x, y⟩ := lay_ints cs
  refine Bool.and_eq_true_iff.mpr ⟨by simpa [PyData.canLay0] using x, decide_eq_true ?_⟩
  simp only [PyData.depth]; lia
theorem ne_nil_ints {a r : Addr} {cs : List Int} {k : Bool → Prop} (h : lstOf S a = some (cs.map .vI)) (h2 : lstOf S r = some []) (hk : k (!decide (cs = []))) : wCmp .NotEq (.vR a) (.vR r) S k := by
  refine ⟨.list (cs.map .int), .list [], .lst h (PD_ints cs), .lst h2 .tupN, shaped_ints cs, by decide, ?_⟩
  have : PyData.eqv (.list (cs.map .int)) (.list []) = decide (cs = []) := by
    cases cs <;> simp [PyData.eqv, PyData.eqvAll]
  rw [this]; exact hk
theorem fm_ge {a b : Int} (h : 0 < b) : 0 ≤ a.fmod b := Int.fmod_nonneg_of_pos a h
theorem fm_lt {a b : Int} (h : 0 < b) : a.fmod b < b := Int.fmod_lt_of_pos a h
theorem draw_ok {dk dl : Addr} {B k : Int} (x : DeckOk S dk dl B) (hB : 1 ≤ B) (hk : 1 ≤ k) (hk2 : k ≤ 1000) (h : ∀ v S', Kp (dkF dk dl) S S' → DeckOk S' dk dl (B - 1) → 0 ≤ v → v < k → Q (.vI v) S') : WC (KK P) (d + 1) (.ref 612) [.vR dk, .vI k] S Q := by
  refine hide fun G0 g0 => ?_
  obtain ⟨mx, t, is, e1, e2, e3, e4, e5⟩ := x
  refine g0 ?_
  clear g0 G0
  have ne : dl ≠ dk := by rintro rfl; rw [e1] at e2; cases e2
  have i1 : IntMulOk 61613 (t + 1) := IntMulOk.of_left (intBits_le_64 (by lia) (by lia))
  have i2 : IntMulOk (61613 * (t + 1)) (t + 1) := IntMulOk.of_right (intBits_le_64 (by lia) (by lia))
  have i3 : t + 1 + (B - 1) ≤ 1000000 := by lia
  have i4 : 0 ≤ t + 1 := by lia
  have i5 : k ≠ 0 := by lia
  have i6 : 0 < k := by lia
  refine RC_go (cf612 P) ?_
  unfold code612
  (try dsimp only [R_noES, R_noE0, R_initS, R_init0, R_load, R_get0, R_const, R_onV])
  refine r_dget e1 rfl ?_
  (try dsimp only [R_const, R_add, R_load, R_get0, R_onV])
  refine r_dset e1 rfl (by kernel_rfl : _ = [(Str.ofString "cells", V.vR dl), (Str.ofString "mixed", V.vI mx), (Str.ofString "turn", V.vI (t + 1))]) ?_
  (try dsimp only [R_load, R_get0, R_const, R_onV])
  have a1 : put S dk (.dict [(Str.ofString "cells", V.vR dl), (Str.ofString "mixed", V.vI mx), (Str.ofString "turn", V.vI (t + 1))]) dk = some _ := put_at
  have a2 := put_rr' (o := .dict [(Str.ofString "cells", V.vR dl), (Str.ofString "mixed", V.vI mx), (Str.ofString "turn", V.vI (t + 1))]) ne e2
  have ka : Kp (dkF dk dl) S (put S dk (.dict [(Str.ofString "cells", V.vR dl), (Str.ofString "mixed", V.vI mx), (Str.ofString "turn", V.vI (t + 1))])) := Kp.upd (Or.inl rfl)
  generalize put S dk (.dict [(Str.ofString "cells", V.vR dl), (Str.ofString "mixed", V.vI mx), (Str.ofString "turn", V.vI (t + 1))]) = S1 at *
  refine r_dget a1 rfl ?_
  (try dsimp only [R_const, R_load, R_get0, R_onV])
  refine r_dget a1 rfl ?_
  refine r_mul i1 ?_
  (try dsimp only [R_load, R_get0, R_const, R_onV])
  refine r_dget a1 rfl ?_
  refine r_mul i2 ?_
  (try dsimp only [R_add, R_store, R_setS, R_set0, R_load, R_get0, R_const, R_onV])
  generalize mx + 61613 * (t + 1) * (t + 1) = fg
  refine r_dget a1 rfl ?_
  refine fun r1 hr1 => ?_
  have a1' := put_fr (o' := .lst []) hr1 a1
  have a2' := put_fr (o' := .lst []) hr1 a2
  have ka' := ka.newL (o := .lst []) hr1
  have ar : lstOf (put S1 r1 (.lst [])) r1 = some [] := lst_of put_at
  generalize put S1 r1 (.lst []) = S2 at *
  clear a1 a2 ka e1 e2 i1 i2 e4 e5 hk hB
  refine fun Q1 hQ1 => ne_nil_ints (lst_of a2') ar (hQ1 _ ?_)
  try clear hQ1 Q1
  refine r_join (fun s e S' => s = [] ∧ (∃ fg w, e = [some (.vR dk), some (.vI k), some (.vI fg), w]) ∧ Kp (dkF dk dl) S S' ∧ DeckOk S' dk dl (B - 1)) (fun N' hN => r_ifn (fun c => ?_) fun c => ?_) ?_
  · obtain ⟨js, y, rfl⟩ : ∃ js y, is = js ++ [y] := ⟨is.dropLast, is.getLast c, (List.dropLast_concat_getLast c).symm⟩
    rw [List.map_append] at a2'
    rw [List.length_append] at e3
    have e3 : js.length + 1 ≤ 20 := e3
    (try dsimp only [R_load, R_get0, R_const, R_onV])
    refine r_dget a1' rfl ?_
    refine r_mpop a2' ?_
    (try dsimp only [R_store, R_setS, R_set0, R_load, R_getS, R_get0, R_const, R_onV, R_ge])
    have b1 : put S2 dl (.lst (js.map .vI)) dk = some _ := put_rr' ne.symm a1'
    have b2 : put S2 dl (.lst (js.map .vI)) dl = some (.lst (js.map .vI)) := put_at
    have kb := ka'.trans (Kp.upd (fp := dkF dk dl) (S := S2) (a := dl) (o := .lst (js.map .vI)) (Or.inr rfl))
    generalize put S2 dl (.lst (js.map .vI)) = S3 at *
    refine r_if (fun c2 => ?_) fun c2 => ?_
    · (try dsimp only [R_load, R_get0, R_const, R_onV])
      refine r_dget b1 rfl ?_
      refine r_append b2 fun Q1 hQ1 => ?_
      (try dsimp only [R_load, R_getS, R_get0, R_onV])
      refine r_fdiv i5 (PyProof.noPylong_small (by lia)) ?_
      (try dsimp only [R_done])
      refine r_app b2 (by rw [List.length_map]; exact Nat.le_trans e3 (by decide)) (hQ1 _ _ ?_)
      try clear hQ1 Q1
      (try dsimp only [R_drop, R_load, R_getS, R_get0, R_onV])
      refine r_mod i5 ?_
      (try dsimp only [R_ret])
      exact h _ _ (kb.trans (Kp.upd (Or.inr rfl))) ⟨mx, t + 1, js ++ [y.fdiv k], put_rr' ne.symm b1, by rw [put_at, List.map_append]; rfl, by rw [List.length_append]; exact e3, i4, i3⟩ (fm_ge i6) (fm_lt i6)
    · (try dsimp only [R_done, R_thenK, R_load, R_getS, R_get0, R_const, R_onV])
      refine r_mod (by decide) ?_
      (try dsimp only [R_add, R_store, R_setS, R_set0, R_done, R_thenK])
      exact hN _ _ _ ⟨rfl, ⟨_, _, rfl⟩, kb, mx, t + 1, js, b1, b2, Nat.le_of_succ_le e3, i4, i3⟩
  · (try dsimp only [R_done, R_thenK])
    exact hN _ _ _ ⟨rfl, ⟨_, _, rfl⟩, ka', mx, t + 1, is, a1', a2', e3, i4, i3⟩
  clear a1' a2' ka' ar e3 i3 i4 ne
  intro _ _ S2 x00
  refine hide fun G0 g0 => ?_
  obtain ⟨rfl, ⟨fg, w, rfl⟩, k1, x1⟩ := x00
  refine g0 ?_
  clear g0 G0
  (try dsimp only [R_load, R_getS, R_get0, R_const, R_onV])
  refine r_mod (by decide) ?_
  (try dsimp only [R_const])
  refine r_mul (IntMulOk.of_right (intBits_le_64 (by decide) (by decide))) ?_
  (try dsimp only [R_const])
  refine r_mod (by decide) ?_
  have g1 := fm_ge (a := fg.fmod 2147483629 * 40692) (b := 2147483647) (by decide)
  have g2 := fm_lt (a := fg.fmod 2147483629 * 40692) (b := 2147483647) (by decide)
  generalize (fg.fmod 2147483629 * 40692).fmod 2147483647 = w at *
  (try dsimp only [R_store, R_setS, R_set0, R_load, R_getS, R_get0, R_onV])
  refine r_mul (IntMulOk.of_left (intBits_le_64 (by lia) (by lia))) ?_
  clear g1 g2
  (try dsimp only [R_const, R_add])
  refine r_mod (by decide) ?_
  (try dsimp only [R_store, R_setS, R_set0, R_load, R_getS, R_get0, R_const, R_onV])
  refine r_mul (IntMulOk.of_right (intBits_le_64 (by decide) (by decide))) ?_
  (try dsimp only [R_const])
  refine r_mod (by decide) ?_
  (try dsimp only [R_const])
  refine r_fdiv (by decide) (PyProof.noPylong_small (by decide)) ?_
  (try dsimp only [R_load, R_getS, R_get0, R_onV])
  refine r_mod i5 ?_
  (try dsimp only [R_ret])
  exact h _ _ k1 x1 (fm_ge i6) (fm_lt i6)
theorem pen_ok {dk dl : Addr} {B : Int} (x : DeckOk S dk dl B) (hB : 1 ≤ B) (h : ∀ b S', Kp (dkF dk dl) S S' → DeckOk S' dk dl (B - 1) → Q (penV b) S') : WC (KK P) (d + 3) (.ref 626) [.vR dk] S Q := by
  refine RC_go (cf626 P) ?_
  unfold code626
  (try dsimp only [R_noE0, R_initS, R_init0, R_const, R_neg, R_load, R_get0, R_onV])
  intro r hr
  have x1 : DeckOk (put S r (.lst [.vI (-1), .vI 1, .vI 4])) dk dl B := x.keep (Kp.new (fp := none_) hr.self) id id
  have e1 : put S r (.lst [.vI (-1), .vI 1, .vI 4]) r = some _ := put_at
  have k1 : Kp (dkF dk dl) S (put S r (.lst [.vI (-1), .vI 1, .vI 4])) := Kp.new hr.self
  have hne : ¬ dkF dk dl r := fun z => by
    obtain ⟨mx, t, is, q1, q2, _⟩ := x
    rcases z with rfl | rfl
    · rw [hr.self] at q1; cases q1
    · rw [hr.self] at q2; cases q2
  generalize put S r (.lst [.vI (-1), .vI 1, .vI 4]) = S1 at *
  refine fun Q1 hQ1 => ?_
  refine RC_go (cf619 P) ?_
  unfold code619
  (try dsimp only [R_noE0, R_initS, R_init0, R_load, R_getS, R_get0, R_onV])
  refine r_len (lst_of e1) ?_
  refine fun Q2 hQ2 => draw_ok x1 hB (by decide : (1 : Int) ≤ 3) (by decide : (3 : Int) ≤ 1000) fun v S2 k2 x2 h0 h3 => hQ2 _ _ ?_
  try clear hQ2 Q2
  have h3 : v < 3 := h3
  have e2 := k2.at e1 hne
  have hv : v = 0 ∨ v = 1 ∨ v = 2 := by clear hB; lia
  rcases hv with rfl | rfl | rfl
  · exact fun Q3 hQ3 => ⟨_, .vI (-1), lst_of e2, rfl, hQ3 _ (hQ1 _ _ (h _ _ (k1.trans k2) x2))⟩
  · exact fun Q3 hQ3 => ⟨_, .vI 1, lst_of e2, rfl, hQ3 _ (hQ1 _ _ (h _ _ (k1.trans k2) x2))⟩
  · exact fun Q3 hQ3 => ⟨_, .vI 4, lst_of e2, rfl, hQ3 _ (hQ1 _ _ (h _ _ (k1.trans k2) x2))⟩
end Mine
end
section
open PySem PySem.W PyProof.Rows
set_option maxRecDepth 100000
set_option linter.unusedVariables false
set_option linter.unusedSimpArgs false
set_option maxHeartbeats 4000000
namespace Mine
variable {P : Params} {S S' : St} {Q : V → St → Prop} {d : Nat} {F : Addr → Prop} {g : Addr} {m n : Nat} {G : GI} {rows : Nat → Nat → Cell}
theorem comp_list {chk : St → Prop} {turn : V → St → (V → St → Prop) → Prop} {Q : List V → St → Prop} {xs : List V} (I : Nat → List V → St → Prop) (hb : xs.length ≤ 1000) (hlen : ∀ i acc S, I i acc S → acc.length ≤ i)
    (h1 : ∀ i v acc S, xs[i]? = some v → I i acc S → chk S ∧ ∀ Q' : V → St → Prop, (∀ w S', I (i + 1) (acc ++ [w]) S' → Q' w S') → turn v S Q')
    (h0 : ∀ acc S, I xs.length acc S → chk S ∧ Q acc S) (S : St) (h : I 0 [] S) : compW chk turn xs [] S Q := by
  have key : ∀ (l p acc : List V), p ++ l = xs → ∀ S, I p.length acc S → compW chk turn l acc S Q := fun l => by
    induction l with
    | nil => exact fun p acc e S h => h0 acc S (by rw [List.append_nil] at e; rw [← e]; exact h)
    | cons v l ih =>
      intro p acc e S h
      have h2 := h1 p.length v acc S (by rw [← e, List.getElem?_append_right (Nat.le_refl _), Nat.sub_self]; rfl) h
      have h3 : acc.length + 1 ≤ LB := by
        have := hlen _ _ _ h
        have e2 := congrArg List.length e
        rw [List.length_append] at e2
        show acc.length + 1 ≤ 4096
        lia
      exact ⟨h2.1, h2.2 _ fun w S' h' => ⟨h3, ih (p ++ [v]) (acc ++ [w]) (by rw [List.append_assoc]; exact e) S' (by rw [List.length_append]; exact h')⟩⟩
  exact key xs [] [] rfl S h
theorem put_fn {r a : Addr} {o o' : AO} (h : S r = none) (e : S a = some o) : put S r o' a = some o := by
  rw [put_off (by rintro rfl; rw [h] at e; cases e)]; exact e
structure LL (S : St) (q : Addr) (rl : Nat → Addr) (m n : Nat) (rows : Nat → Nat → Cell) : Prop where
  hq : S q = some (.lst (tab m (fun i => .vR (rl i))))
  hr : ∀ i, i < m → S (rl i) = some (.lst (cellsV (tab n (rows i))))
theorem copies {L : Addr} {k : Nat} {rws : Nat → Nat → Cell} {Q : List V → St → Prop} {as : Nat → Addr} {turn : V → St → (V → St → Prop) → Prop} (hL : S L = some (.lst (tab k (fun i => .vR (as i)))))
    (ht : ∀ i S1 (Q' : V → St → Prop), i < k → Kp none_ S S1 → (∀ r, Fresh S1 r → Q' (.vR r) (put S1 r (.lst (cellsV (tab n (rws i)))))) → turn (.vR (as i)) S1 Q') (hk : k ≤ 10)
    (h : ∀ (rl : Nat → Addr) S', Kp none_ S S' → (∀ i, i < k → S (rl i) = none) → (∀ i, i < k → S' (rl i) = some (.lst (cellsV (tab n (rws i))))) → Q (tab k (fun i => .vR (rl i))) S') :
    compW (fun S => lstOf S L = some (tab k (fun i => .vR (as i)))) turn (tab k (fun i => .vR (as i))) [] S Q := by
  refine comp_list (fun i acc S' => ∃ rl : Nat → Addr, acc = tab i (fun j => .vR (rl j)) ∧ Kp none_ S S' ∧ (∀ j, j < i → S (rl j) = none) ∧ (∀ j, j < i → S' (rl j) = some (.lst (cellsV (tab n (rws j)))))) (by rw [tab_len]; exact Nat.le_trans hk (by decide)) (fun i acc S ⟨_, e, _⟩ => by rw [e, tab_len]; exact Nat.le_refl _) ?_ ?_ S ⟨fun _ => 0, rfl, Kp.refl, fun _ h => absurd h (Nat.not_lt_zero _), fun _ h => absurd h (Nat.not_lt_zero _)⟩
  · intro i v u2_ S1 hv hI_
    refine hide fun G_ hG_ => ?_
    obtain ⟨rl, he0_, k1, h1, h2⟩ := hI_
    subst he0_
    refine hG_ ?_
    clear hG_ G_
    rw [tab_get] at hv
    by_cases hi : i < k
    · rw [if_pos hi] at hv
      cases hv
      refine ⟨lst_of (k1.at hL id), fun Q' q => ht i S1 Q' hi k1 fun r hr => q _ _ ⟨ext rl i r, ?_, k1.newL hr, fun j hj => ?_, fun j hj => ?_⟩⟩
      · rw [tab_succ, ext_at]
        congr 1
        exact tab_eq fun j hj => by rw [ext_ne (Nat.ne_of_lt hj)]
      · by_cases c : j = i
        · subst c; rw [ext_at]; exact k1.back hr.self
        · rw [ext_ne c]; exact h1 j (Nat.lt_of_le_of_ne (Nat.le_of_lt_succ hj) c)
      · by_cases c : j = i
        · subst c; rw [ext_at]; exact put_at
        · rw [ext_ne c]; exact put_fr hr (h2 j (Nat.lt_of_le_of_ne (Nat.le_of_lt_succ hj) c))
    · rw [if_neg hi] at hv; cases hv
  · intro u0_ S1 hI_
    refine hide fun G_ hG_ => ?_
    obtain ⟨rl, he0_, k1, h1, h2⟩ := hI_
    subst he0_
    refine hG_ ?_
    clear hG_ G_
    rw [tab_len] at h1 h2 ⊢
    exact ⟨lst_of (k1.at hL id), h rl S1 k1 h1 h2⟩
theorem told_ok (x : GSd S F g m n G rows) (h : ∀ q rl S', Kp none_ S S' → S q = none → (∀ i, i < m → S (rl i) = none) → LL S' q rl m n rows → Q (.vR q) S') : WC (KK P) (d + 2) (.ref 650) [.vR g] S Q := by
  refine RC_go (cf650 P) ?_
  unfold code650
  refine fun Q1 hQ1 => x.lines (hQ1 _ ?_)
  try clear hQ1 Q1
  refine r_compL (lst_of x.ln) fun Q1 hQ1 => copies (n := n) (rws := rows) x.ln (fun i S1 Q' hi k1 q => ?_) x.ml fun rl S1 k1 h1 h2 r hr hr1 => hQ1 _ _ ?_
  try clear hQ1 Q1
  · skip
    refine r_attr (k1.at (x.ai i hi) id) (k1.at (x.ad i hi) id) (d_244_cells P) rfl rfl ?_
    refine r_list (lst_of (k1.at (x.al i hi) id)) fun r hr => ?_
    exact q r hr
  · skip
    exact h r rl _ (k1.newL' hr1) hr.self h1 ⟨put_at, fun i hi => put_fn hr1 (h2 i hi)⟩
/-! == of the lists of lists -/
theorem PD_list : ∀ (k : Nat) (rl : Nat → Addr) (ds : Nat → PyData), (∀ i, i < k → PD S (.vR (rl i)) (ds i)) → PD S (.vT (tab k (fun i => .vR (rl i)))) (.tuple (tab k ds))
  | 0, _, _, _ => .tupN
  | k + 1, rl, ds, h => by
    have e : ∀ {α : Type} (f : Nat → α), tab (k + 1) f = f 0 :: tab k (fun i => f (i + 1)) := fun f => by
      unfold tab; rw [List.range_succ_eq_map, List.map_cons, List.map_map]; rfl
    rw [e, e]
    exact .tupC (h 0 (Nat.succ_pos _)) (PD_list k (fun i => rl (i + 1)) (fun i => ds (i + 1)) fun i hi => h (i + 1) (by lia))
noncomputable def rowsD (m n : Nat) (rows : Nat → Nat → Cell) : PyData := .list (tab m (fun i => .list ((tab n (rows i)).map cellD)))
theorem lay_tab : ∀ (k : Nat) (ds : Nat → PyData), (∀ i, i < k → (ds i).canLay0 = true ∧ (ds i).depth ≤ 5) → PyData.canLayAll0 (tab k ds) = true ∧ PyData.depthAll (tab k ds) ≤ 5
  | 0, _, _ => ⟨rfl, Nat.zero_le _⟩
  | k + 1, ds, h => by
    have e : tab (k + 1) ds = ds 0 :: tab k (fun i => ds (i + 1)) := by
      unfold tab; rw [List.range_succ_eq_map, List.map_cons, List.map_map]; rfl
    obtain ⟨a, b⟩ := h 0 (Nat.succ_pos _)
    obtain ⟨x, y⟩ := lay_tab k (fun i => ds (i + 1)) fun i hi => h (i + 1) (by lia)
    rw [e]
    exact ⟨by simp [PyData.canLayAll0, a, x], by simp only [PyData.depthAll]; lia⟩
theorem shaped_rows : SeqAt.shaped (rowsD m n rows) = true := by
  obtain ⟨x, y⟩ := lay_tab m (fun i => .list ((tab n (rows i)).map cellD)) fun i _ => by
    obtain ⟨x, y⟩ := lay_cells (tab n (rows i))
    exact ⟨by simpa [PyData.canLay0] using x, by simp only [PyData.depth]; lia⟩
  refine Bool.and_eq_true_iff.mpr ⟨by simpa [PyData.canLay0, rowsD] using x, decide_eq_true ?_⟩
  unfold rowsD
  simp only [PyData.depth]; lia
theorem LL.pd {q : Addr} {rl : Nat → Addr} (x : LL S q rl m n rows) : PD S (.vR q) (rowsD m n rows) :=
  .lst (lst_of x.hq) (PD_list m rl _ fun i hi => .lst (lst_of (x.hr i hi)) (PD_cells _))
theorem LL.same {q q' : Addr} {rl rl' : Nat → Addr} {k : Bool → Prop} (x : LL S q rl m n rows) (x' : LL S q' rl' m n rows) (h : k false) : wCmp .NotEq (.vR q) (.vR q') S k := by
  refine ⟨_, _, x.pd, x'.pd, shaped_rows, shaped_rows, ?_⟩
  rw [SeqAt.eqv_refl _ (SeqAt.canLay_of_shaped shaped_rows)]; exact h
theorem LL.congr {q : Addr} {rl : Nat → Addr} {rows' : Nat → Nat → Cell} (x : LL S q rl m n rows) (h : ∀ i j, i < m → j < n → rows i j = rows' i j) : LL S q rl m n rows' :=
  ⟨x.hq, fun i hi => by rw [← tab_eq (fun j hj => h i j hi hj)]; exact x.hr i hi⟩
theorem LL.keep {q : Addr} {rl : Nat → Addr} {fp : Addr → Prop} (x : LL S q rl m n rows) (k : Kp fp S S') (h1 : ¬ fp q) (h2 : ∀ i, i < m → ¬ fp (rl i)) : LL S' q rl m n rows :=
  ⟨k.at x.hq h1, fun i hi => k.at (x.hr i hi) (h2 i hi)⟩
theorem cut_no {i : Nat} {f : Nat → Cell} (c : ¬ (i < n ∧ (f i).w = 0)) : tab n f = tab n (partF n f i) := tab_eq fun j _ => (if_neg fun z => c ⟨z.2.1, z.2.2.1⟩).symm
theorem cut_yes {i : Nat} {f : Nat → Cell} (hw : WF n f) (c1 : i < n) (c2 : (f i).w = 0) : ((tab (i - 1) fun j => cellV (f j)) ++ [cellV (blank (f i).b), cellV (blank (f i).b)]) ++ (tab (n - (i + 1)) fun j => cellV (f (j + (i + 1)))) = cellsV (tab n (partF n f i)) := by
  obtain ⟨w1, w2, w3⟩ := hw.zero i c1 c2
  rw [cellsV_tab, show [cellV (blank (f i).b), cellV (blank (f i).b)] = tab 2 (fun _ => cellV (blank (f i).b)) from rfl, tab_app, tab_app]
  refine tab_eq' (by lia) fun j hj => ?_
  unfold partF
  by_cases q1 : j < i - 1
  · rw [if_pos (by lia), if_pos q1, if_neg (by lia)]
  · by_cases q2 : j < i + 1
    · rw [if_pos (by lia), if_neg q1, if_pos ⟨w1, c1, c2, by lia⟩]
      have : j = i ∨ j = i - 1 := by lia
      rcases this with rfl | rfl
      · rfl
      · rw [w3]
    · rw [if_neg (by lia), if_neg (by lia)]
      congr 2; lia
theorem cut_ok {lc : Addr} {i : Nat} {f : Nat → Cell} (hS : S lc = some (.lst (cellsV (tab n f)))) (hn : n ≤ 10) (hw : WF n f) (h : ∀ q S', Kp none_ S S' → (q = lc ∨ S q = none) → S' q = some (.lst (cellsV (tab n (partF n f i)))) → Q (.vR q) S') : WC (KK P) (d + 3) (.ref 640) [.vR lc, .vI i] S Q := by
  have hLB : ∀ {i : Nat}, i ≤ 100 → i ≤ LB := fun h => Nat.le_trans h (by decide)
  have no : ¬ (i < n ∧ (f i).w = 0) → Q (.vR lc) S := fun c => h lc S Kp.refl (Or.inl rfl) (by rw [hS, cut_no c])
  refine RC_go (cf640 P) ?_
  unfold code640
  refine r_lenC hS ?_
  rw [tab_len]
  refine r_if (fun c1 => ?_) fun c1 => ?_
  · have c1 : i < n := Int.ofNat_lt.mp c1
    refine fun Q1 hQ1 => item_cell hS nat0 (nat_lt c1) (hQ1 _ ?_)
    try clear hQ1 Q1
    rw [at0_tab c1]
    refine r_cell_w ?_
    refine r_if (fun c2 => ?_) fun c2 => ?_
    · have w1 := (hw.zero i c1 c2).1
      refine fun Q1 hQ1 => item_cell hS nat0 (nat_lt c1) (hQ1 _ ?_)
      try clear hQ1 Q1
      rw [at0_tab c1]
      refine r_cell_pen ?_
      refine fun Q1 hQ1 => blank_cell_ok (hQ1 _ _ ?_)
      try clear hQ1 Q1
      (try dsimp only [R_noES, R_noE0, R_initS, R_init0, R_store, R_setS, R_set0, R_load, R_get0, R_const, R_getS, R_onV, R_sub, R_chk])
      have hend := cut_yes hw c1 c2
      rw [cellsV_tab] at hS
      rw [int_pred w1]
      refine ⟨_, _, rfl, lst_of hS, fun r1 hr1 => ?_⟩
      rw [slice_tab_lo (k := i - 1) rfl (by lia)]
      refine fun r2 hr2 => ?_
      have b1 := put_fr (o' := .lst [cellV (blank (f i).b), cellV (blank (f i).b)]) hr2 (put_at (S := S) (a := r1) (o := .lst (tab (i - 1) fun j => cellV (f j))))
      have b2 : put (put S r1 (.lst (tab (i - 1) fun j => cellV (f j)))) r2 (.lst [cellV (blank (f i).b), cellV (blank (f i).b)]) r2 = _ := put_at
      have bS := put_fr (o' := .lst [cellV (blank (f i).b), cellV (blank (f i).b)]) hr2 (put_fr (o' := .lst (tab (i - 1) fun j => cellV (f j))) hr1 hS)
      have kS : Kp none_ S (put (put S r1 (.lst (tab (i - 1) fun j => cellV (f j)))) r2 (.lst [cellV (blank (f i).b), cellV (blank (f i).b)])) := (Kp.new hr1.self).newL hr2
      generalize put (put S r1 (.lst (tab (i - 1) fun j => cellV (f j)))) r2 (.lst [cellV (blank (f i).b), cellV (blank (f i).b)]) = S2 at *
      have l3 : ((tab (i - 1) fun j => cellV (f j)) ++ [cellV (blank (f i).b), cellV (blank (f i).b)]).length ≤ 50 := by
        rw [List.length_append, tab_len]
        show i - 1 + 2 ≤ 50
        lia
      refine fun Q1 hQ1 => bin_cat (lst_of b1) (lst_of b2) (hLB (Nat.le_trans l3 (by decide))) fun r3 hr3 => hQ1 _ _ ?_
      try clear hQ1 Q1
      generalize (tab (i - 1) fun j => cellV (f j)) ++ [cellV (blank (f i).b), cellV (blank (f i).b)] = L3 at *
      refine ⟨_, _, rfl, lst_of (put_fr hr3 bS), fun r4 hr4 => ?_⟩
      rw [slice_tab_hi (a := (i : Int) + 1) (l := i + 1) rfl c1]
      have l5 : (L3 ++ tab (n - (i + 1)) fun j => cellV (f (j + (i + 1)))).length ≤ 100 := by
        rw [List.length_append, tab_len]
        lia
      refine fun Q1 hQ1 => bin_cat (lst_of (put_fr hr4 put_at)) (lst_of put_at) (hLB l5) fun r5 hr5 => hQ1 _ _ ?_
      try clear hQ1 Q1
      have k5 := ((kS.newL (o := .lst L3) hr3).newL (o := .lst (tab (n - (i + 1)) fun j => cellV (f (j + (i + 1))))) hr4)
      refine h r5 _ (k5.newL hr5) (Or.inr (k5.back hr5.self)) ?_
      rw [put_at, hend]
    · skip
      exact no fun z => c2 z.2
  · skip
    exact no fun z => c1 (Int.ofNat_lt.mpr z.1)
theorem slice_ints {ns : List Int} : ∃ ms : List Int, sliceL (ns.map .vI) none (some 20) = ms.map .vI ∧ ms.length ≤ 20 := by
  refine ⟨(ns.drop 0).take (clip (ns.map V.vI).length 20 - 0), ?_, ?_⟩
  · unfold sliceL
    simp only [Option.elim, List.map_take, List.map_drop]
  · have : clip (ns.map V.vI).length 20 ≤ 20 := by unfold clip; rw [if_neg (by lia)]; lia
    rw [List.length_take]; lia
theorem deck_ok {l : Addr} {ns : List Int} (hS : S l = some (.ro (ns.map .vI))) (h : ∀ dk dl S', Kp none_ S S' → S dk = none → S dl = none → DeckOk S' dk dl 1000000 → Q (.vR dk) S') : WC (KK P) (d + 1) (.ref 605) [.vR l] S Q := by
  have hl : lstOf S l = some (ns.map .vI) := by unfold lstOf; rw [hS]
  refine RC_go (cf605 P) ?_
  unfold code605
  refine ⟨_, _, rfl, hl, fun r hr => ?_⟩
  obtain ⟨ms, e, hms⟩ := slice_ints (ns := ns)
  rw [e]
  have b1 : put S r (.lst (ms.map .vI)) r = some (.lst (ms.map .vI)) := put_at
  have k1 : Kp none_ S (put S r (.lst (ms.map .vI))) := Kp.new hr.self
  generalize put S r (.lst (ms.map .vI)) = S1 at *
  refine r_compL (lst_of b1) fun Q1 hQ1 => comp_list (fun i acc S' => Kp none_ S1 S' ∧ acc = (ms.map V.vI).take i) (by rw [List.length_map]; exact Nat.le_trans hms (by decide)) (fun i acc S ⟨_, e⟩ => by rw [e, List.length_take]; exact Nat.min_le_left _ _) ?_ ?_ S1 ⟨Kp.refl, rfl⟩
  · rintro i v _ S2 hv ⟨k2, rfl⟩
    refine ⟨lst_of (k2.at b1 id), fun Q' q => ?_⟩
    rw [List.getElem?_map] at hv
    cases hm : ms[i]? with
    | none => rw [hm] at hv; cases hv
    | some y =>
      rw [hm] at hv; cases hv
      refine r_int ?_
      exact q _ _ ⟨k2, by rw [List.take_add_one, List.getElem?_map, hm]; rfl⟩
  · rintro _ S2 ⟨k2, rfl⟩
    rw [List.take_length]
    refine ⟨lst_of (k2.at b1 id), fun r2 hr2 hr22 => hQ1 _ _ ?_⟩
    try clear hQ1 Q1
    have c2 : put S2 r2 (.lst (ms.map .vI)) r2 = some (.lst (ms.map .vI)) := put_at
    have k3 := (k1.trans k2).newL' (o := .lst (ms.map .vI)) hr22
    generalize put S2 r2 (.lst (ms.map .vI)) = S3 at *
    refine r_forL (lst_of c2) (rList (fun i e S' => (∃ w mx, e = [some (.vR l), w, some (.vR r2), some (.vI mx)]) ∧ S' = S3) ?_ ?_ _ _ ⟨⟨_, _, rfl⟩, rfl⟩)
    · intro i v _ S3 hv x00
      refine hide fun G0 g0 => ?_
      obtain ⟨⟨w, mx, rfl⟩, rfl⟩ := x00
      refine g0 ?_
      clear g0 G0
      refine ⟨lst_of c2, fun Q' q => ?_⟩
      rw [List.getElem?_map] at hv
      cases hm : ms[i]? with
      | none => rw [hm] at hv; cases hv
      | some y =>
        rw [hm] at hv; cases hv
        refine r_mul (IntMulOk.of_right (intBits_le_64 (by decide) (by decide))) ?_
        refine r_mod (by decide) ?_
        refine r_mod (by decide) ?_
        exact q _ _ ⟨⟨_, _, rfl⟩, rfl⟩
    · intro _ S3 x00
      refine hide fun G0 g0 => ?_
      obtain ⟨⟨w, mx, rfl⟩, rfl⟩ := x00
      refine g0 ?_
      clear g0 G0
      refine ⟨lst_of c2, ?_⟩
      refine ⟨rfl, _, _, rfl, lst_of c2, fun r5 hr5 => ?_⟩
      refine fun r6 hr66 => ?_
      have k5 := k3.newL (o := .lst (ms.map V.vI).reverse) hr5
      refine h r6 r5 _ (k5.newL' hr66) (k5.back hr66) (k3.back hr5.self) ⟨mx, 0, ms.reverse, put_at, ?_, by rw [List.length_reverse]; exact hms, by decide, by decide⟩
      have ne : r5 ≠ r6 := by rintro rfl; rw [put_at] at hr66; cases hr66
      rw [put_off ne, put_at, List.map_reverse]
theorem eq_two {a b c e : Int} {k : Bool → Prop} (h : k (decide (a = c ∧ b = e))) : wCmp .Eq (.vT [.vI a, .vI b]) (.vT [.vI c, .vI e]) S k := by
  refine ⟨.tuple [.int a, .int b], .tuple [.int c, .int e], .tupC (.int _) (.tupC (.int _) .tupN), .tupC (.int _) (.tupC (.int _) .tupN), rfl, rfl, ?_⟩
  have : PyData.eqv (.tuple [.int a, .int b]) (.tuple [.int c, .int e]) = decide (a = c ∧ b = e) := by
    simp only [PyData.eqv, PyData.eqvAll, Bool.and_true]
    by_cases h1 : a = c <;> by_cases h2 : b = e <;> simp [h1, h2]
  rw [this]; exact h
theorem ne_four {a b c e : Int} {k : Bool → Prop} (h : k false) : wCmp .NotEq (.vT [.vI a, .vI b, .vI c, .vI e]) (.vT [.vI a, .vI b, .vI c, .vI e]) S k := by
  refine ⟨.tuple [.int a, .int b, .int c, .int e], .tuple [.int a, .int b, .int c, .int e], .tupC (.int _) (.tupC (.int _) (.tupC (.int _) (.tupC (.int _) .tupN))), .tupC (.int _) (.tupC (.int _) (.tupC (.int _) (.tupC (.int _) .tupN))), rfl, rfl, ?_⟩
  rw [SeqAt.eqv_refl _ rfl]; exact h
theorem MgS.keep {mg mdx : Addr} {m n t b l r : Int} {fp : Addr → Prop} (x : MgS S mg mdx m n t b l r) (k : Kp fp S S') (h1 : ¬ fp mg) (h2 : ¬ fp mdx) : MgS S' mg mdx m n t b l r := ⟨k.at x.gi h1, k.at x.gd h2⟩
theorem deck_mg {dk dl mg mdx : Addr} {B m n t b l r : Int} (x : MgS S mg mdx m n t b l r) (y : DeckOk S dk dl B) : ¬ dkF dk dl mg ∧ ¬ dkF dk dl mdx := by
  refine hide fun G0 g0 => ?_
  obtain ⟨mx, t, is, e1, e2, _⟩ := y
  refine g0 ?_
  clear g0 G0
  refine ⟨fun z => ?_, fun z => ?_⟩
  · rcases z with rfl | rfl
    · rw [x.gi] at e1; cases e1
    · rw [x.gi] at e2; cases e2
  · rcases z with rfl | rfl
    · rw [x.gd] at e1; cases e1
    · rw [x.gd] at e2; cases e2
noncomputable def dmF (dk dl mdx : Addr) : Addr → Prop := fun a => a = dk ∨ a = dl ∨ a = mdx
theorem dk_dm {dk dl mdx : Addr} (a : Addr) (h : dkF dk dl a) : dmF dk dl mdx a := h.elim Or.inl fun z => Or.inr (Or.inl z)
theorem set_ok {dk dl mg mdx : Addr} {B t l b r : Int} (x : MgS S mg mdx m n t b l r) (y : DeckOk S dk dl B) (hB : 3 ≤ B) (hm : 1 ≤ m) (hm2 : m ≤ 10) (hn : 1 ≤ n) (hn2 : n ≤ 10) (ht : 0 ≤ t) (htb : t ≤ b) (hb : b < m) (hl : 0 ≤ l) (hlr : l ≤ r) (hr : r < n)
    (h : ∀ (t' l' b' r' : Int) S', Kp (dmF dk dl mdx) S S' → MgS S' mg mdx m n t' b' l' r' → DeckOk S' dk dl (B - 3) → 0 ≤ t' → t' ≤ b' → b' < m → 0 ≤ l' → l' ≤ r' → r' < n → Q (.vT [.vI t', .vI l', .vI b', .vI r']) S') : WC (KK P) (d + 3) (.ref 657) [.vR dk, .vR mg, .vI m, .vI n, .vT [.vI t, .vI l, .vI b, .vI r]] S Q := by
  have hB1 : 1 ≤ B := by lia
  have hB2 : 1 ≤ B - 1 := by lia
  have hB3 : 1 ≤ B - 1 - 1 := by lia
  have hm2' : (m : Int) ≤ 1000 := by lia
  have hn2' : (n : Int) ≤ 1000 := by lia
  refine RC_go (cf657 P) ?_
  unfold code657
  refine fun Q1 hQ1 => draw_ok y hB1 (by decide) (by decide) fun v S1 k1 y1 h1 h2 => hQ1 _ _ ?_
  try clear hQ1 Q1
  obtain ⟨f1, f2⟩ := deck_mg x y
  have x1 := x.keep k1 f1 f2
  (try dsimp only [R_noES, R_noE0, R_initS, R_init0, R_setS, R_set0, R_const, R_eq, R_store, R_load, R_getS, R_get0, R_onV, R_tst])
  by_cases c0 : v = 0
  · rw [decide_eq_true c0]
    refine fun Q1 hQ1 => draw_ok y1 hB2 (Int.ofNat_le.mpr hm) hm2' fun lo S2 k2 y2 h3 h4 => hQ1 _ _ ?_
    try clear hQ1 Q1
    refine fun Q1 hQ1 => draw_ok y2 hB3 (Int.ofNat_le.mpr hm) hm2' fun hi S3 k3 y3 h5 h6 => hQ1 _ _ ?_
    try clear hQ1 Q1
    have x3 := (x1.keep k2 f1 f2).keep k3 f1 f2
    have kk : Kp (dmF dk dl mdx) S S3 := ((k1.trans k2).trans k3).weak dk_dm
    obtain ⟨g1, g2⟩ := deck_mg x3 y3
    have ndm : ∀ a, dkF dk dl a → ¬ (a = mdx) := fun a z e => g2 (e ▸ z)
    have e3 : B - 3 ≤ B - 1 - 1 - 1 := by lia
    clear hB2 hB3 hB k1 k2 k3 y1 y2 x x1 y
    refine r_join (fun s e S' => s = [.vB (decide (lo < hi ∨ (lo = 0 ∧ hi = m - 1)))] ∧ e = [some (.vR dk), some (.vR mg), some (.vI m), some (.vI n), some (.vT [.vI t, .vI l, .vI b, .vI r]), some (.vI t), some (.vI l), some (.vI b), some (.vI r), some (.vB true), some (.vI m), some (.vI lo), some (.vI hi), none, none] ∧ S' = S3) (fun N' hN => r_if (fun c1 => ?_) fun c1 => ?_) ?_
    · skip
      exact hN _ _ _ ⟨vB_eq ⟨Or.inl, fun _ => c1⟩, rfl, rfl⟩
    · skip
      refine fun Q1 hQ1 => eq_two (hQ1 _ ?_)
      try clear hQ1 Q1
      exact hN _ _ _ ⟨vB_eq ⟨Or.inr, fun z => z.elim (fun q => absurd q c1) id⟩, rfl, rfl⟩
    rintro _ _ S3 ⟨rfl, rfl, rfl⟩
    refine r_meth x3.gi x3.gd (m_589_set_rows P) rfl fun Q1 hQ1 => ?_
    refine set_rows_m x3 h3 h6 fun S4 k4 x4 => hQ1 _ _ ?_
    try clear hQ1 Q1
    have y4 : DeckOk S4 dk dl (B - 3) := (y3.keep k4 (ndm _ (Or.inl rfl)) (ndm _ (Or.inr rfl))).weak e3
    have k5 := kk.trans (k4.weak fun a z => Or.inr (Or.inr z))
    refine r_isn_same ?_
    refine r_ifn (fun c => ?_) fun c => ?_
    · skip
      rw [if_neg c, if_neg c] at x4
      exact h _ _ _ _ _ k5 x4 y4 ht htb hb hl hlr hr
    · skip
      rw [if_pos c, if_pos c] at x4
      exact h _ _ _ _ _ k5 x4 y4 h3 (c.elim Int.le_of_lt fun z => z.1 ▸ h5) h6 hl hlr hr
  · rw [decide_eq_false c0]
    refine fun Q1 hQ1 => draw_ok y1 hB2 (Int.ofNat_le.mpr hn) hn2' fun lo S2 k2 y2 h3 h4 => hQ1 _ _ ?_
    try clear hQ1 Q1
    refine fun Q1 hQ1 => draw_ok y2 hB3 (Int.ofNat_le.mpr hn) hn2' fun hi S3 k3 y3 h5 h6 => hQ1 _ _ ?_
    try clear hQ1 Q1
    have x3 := (x1.keep k2 f1 f2).keep k3 f1 f2
    have kk : Kp (dmF dk dl mdx) S S3 := ((k1.trans k2).trans k3).weak dk_dm
    obtain ⟨g1, g2⟩ := deck_mg x3 y3
    have ndm : ∀ a, dkF dk dl a → ¬ (a = mdx) := fun a z e => g2 (e ▸ z)
    have e3 : B - 3 ≤ B - 1 - 1 - 1 := by lia
    clear hB2 hB3 hB k1 k2 k3 y1 y2 x x1 y
    refine r_join (fun s e S' => s = [.vB (decide (lo < hi ∨ (lo = 0 ∧ hi = n - 1)))] ∧ e = [some (.vR dk), some (.vR mg), some (.vI m), some (.vI n), some (.vT [.vI t, .vI l, .vI b, .vI r]), some (.vI t), some (.vI l), some (.vI b), some (.vI r), some (.vB false), some (.vI n), some (.vI lo), some (.vI hi), none, none] ∧ S' = S3) (fun N' hN => r_if (fun c1 => ?_) fun c1 => ?_) ?_
    · skip
      exact hN _ _ _ ⟨vB_eq ⟨Or.inl, fun _ => c1⟩, rfl, rfl⟩
    · skip
      refine fun Q1 hQ1 => eq_two (hQ1 _ ?_)
      try clear hQ1 Q1
      exact hN _ _ _ ⟨vB_eq ⟨Or.inr, fun z => z.elim (fun q => absurd q c1) id⟩, rfl, rfl⟩
    rintro _ _ S3 ⟨rfl, rfl, rfl⟩
    refine r_meth x3.gi x3.gd (m_589_set_columns P) rfl fun Q1 hQ1 => ?_
    refine set_columns_m x3 h3 h6 fun S4 k4 x4 => hQ1 _ _ ?_
    try clear hQ1 Q1
    have y4 : DeckOk S4 dk dl (B - 3) := (y3.keep k4 (ndm _ (Or.inl rfl)) (ndm _ (Or.inr rfl))).weak e3
    have k5 := kk.trans (k4.weak fun a z => Or.inr (Or.inr z))
    refine r_isn_same ?_
    refine r_ifn (fun c => ?_) fun c => ?_
    · skip
      rw [if_neg c, if_neg c] at x4
      exact h _ _ _ _ _ k5 x4 y4 ht htb hb hl hlr hr
    · skip
      rw [if_pos c, if_pos c] at x4
      exact h _ _ _ _ _ k5 x4 y4 ht htb hb h3 (c.elim Int.le_of_lt fun z => z.1 ▸ h5) h6
end Mine
end
section
open PySem PySem.W PyProof.Rows
set_option maxRecDepth 100000
set_option linter.unusedVariables false
set_option linter.unusedSimpArgs false
set_option maxHeartbeats 4000000
namespace Mine
variable {P : Params} {S S' : St} {Q : V → St → Prop} {d : Nat} {F : Addr → Prop} {g : Addr} {m n : Nat} {G : GI} {rows : Nat → Nat → Cell}
theorem deck_al {dk dl : Addr} {B : Int} (y : DeckOk S dk dl B) (a : Addr) (h : dkF dk dl a) : S a ≠ none := by
  obtain ⟨mx, t, is, e1, e2, _⟩ := y
  rcases h with rfl | rfl
  · rw [e1]; exact fun z => nomatch z
  · rw [e2]; exact fun z => nomatch z
theorem steps_max {i di lo hi I : Int} (hI : max lo (min (i + di) hi) = I) (h2 : i ≤ hi) (c : di < 0) : max lo (i + di) = I := by
  rw [← hI, Int.min_eq_left (by lia)]
theorem steps_min {i di lo hi I : Int} (hI : max lo (min (i + di) hi) = I) (h1 : lo ≤ i) (h2 : i ≤ hi) (c : ¬ di < 0) : min hi (i + di) = I := by
  rw [← hI, Int.min_comm hi, Int.max_eq_right (Int.le_min.mpr ⟨by lia, Int.le_trans h1 h2⟩)]
theorem le_lo {t i : Int} (h : 0 ≤ i) : (if t ≤ i then t else 0) ≤ i := by
  split
  · assumption
  · exact h
theorem le_hi {b i m : Int} (h : i < m) : i ≤ (if i ≤ b then b else m - 1) := by
  split
  · assumption
  · exact Int.le_sub_one_of_lt h
theorem steps_ok {dk dl mg mdx : Addr} {B t l b r : Int} (x : MgS S mg mdx m n t b l r) (y : DeckOk S dk dl B) (hB : 4 ≤ B) (hm : 1 ≤ m) (hm2 : m ≤ 10) (hn : 1 ≤ n) (hn2 : n ≤ 10) (ht : 0 ≤ t) (htb : t ≤ b) (hb : b < m) (hl : 0 ≤ l) (hlr : l ≤ r) (hr : r < n)
    (h : ∀ S', Kp (dkF dk dl) S S' → DeckOk S' dk dl (B - 4) → Q (.vB true) S') : WC (KK P) (d + 3) (.ref 664) [.vR dk, .vR mg, .vT [.vI t, .vI l, .vI b, .vI r], .vI m, .vI n] S Q := by
  have hB1 : 1 ≤ B := by lia
  have hB2 : 1 ≤ B - 1 := by lia
  have hB3 : 1 ≤ B - 1 - 1 := by lia
  have hB4 : 1 ≤ B - 1 - 1 - 1 := by lia
  have e4 : B - 4 ≤ B - 1 - 1 - 1 - 1 := by lia
  have hm' : (1 : Int) ≤ m := Int.ofNat_le.mpr hm
  have hn' : (1 : Int) ≤ n := Int.ofNat_le.mpr hn
  have hm2' : (m : Int) ≤ 1000 := by lia
  have hn2' : (n : Int) ≤ 1000 := by lia
  clear hB ht htb hb hl hlr hr hm hm2 hn hn2
  obtain ⟨f1, f2⟩ := deck_mg x y
  refine RC_go (cf664 P) ?_
  unfold code664
  (try dsimp only [R_noES, R_noE0, R_initS, R_init0, R_load, R_getS, R_get0, R_onV, R_unpack, R_setsS, R_setS, R_set0, R_sets0])
  refine fun Q1 hQ1 => draw_ok y hB1 hm' hm2' fun i S1 k1 y1 hi0 hi1 => hQ1 _ _ ?_
  try clear hQ1 Q1
  (try dsimp only [R_load, R_get0, R_getS, R_onV])
  refine fun Q1 hQ1 => draw_ok y1 hB2 hn' hn2' fun j S2 k2 y2 hj0 hj1 => hQ1 _ _ ?_
  try clear hQ1 Q1
  (try dsimp only [R_load, R_get0, R_const, R_onV])
  refine fun Q1 hQ1 => draw_ok y2 hB3 (by decide) (by decide) fun a S3 k3 y3 ha0 ha1 => hQ1 _ _ ?_
  try clear hQ1 Q1
  (try dsimp only [R_const, R_sub, R_load, R_get0, R_onV])
  refine fun Q1 hQ1 => draw_ok y3 hB4 (by decide) (by decide) fun a2 S4 k4 y4 ha20 ha21 => hQ1 _ _ ?_
  try clear hQ1 Q1
  have x4 := (((x.keep k1 f1 f2).keep k2 f1 f2).keep k3 f1 f2).keep k4 f1 f2
  have kk := ((k1.trans k2).trans k3).trans k4
  clear x k1 k2 k3 k4 y y1 y2 y3 hB1 hB2 hB3 hB4
  (try dsimp only [R_const, R_sub, R_tup, R_unpack, R_popNS, R_popN0, R_setsS, R_setS, R_set0, R_sets0])
  generalize a - 4 = di at *
  generalize a2 - 4 = dj at *
  refine fun Q1 hQ1 => cursor_new fun cu cdx S5 k5 n1 n2 c5 => hQ1 _ _ ?_
  try clear hQ1 Q1
  have y5 := y4.keep k5 id id
  have x5 := x4.keep k5 id id
  have nm1 : mg ≠ cdx := by rintro rfl; rw [x4.gi] at n2; cases n2
  have nm2 : mdx ≠ cdx := by rintro rfl; rw [x4.gd] at n2; cases n2
  have nd : ∀ a, dkF dk dl a → ¬ a = cdx := fun a z e => deck_al y4 a z (e ▸ n2)
  dsimp only [R_store, R_set0, R_setS]
  (try dsimp only [R_load, R_getS, R_get0, R_onV])
  refine r_meth c5.gi c5.gd (m_456_go P) rfl fun Q1 hQ1 => ?_
  (try dsimp only [R_load, R_getS, R_get0, R_done, R_argK, R_popNS, R_popN0, R_onV])
  refine go_m c5 (hQ1 _ _ ?_)
  try clear hQ1 Q1
  (try dsimp only [R_drop, R_load, R_getS, R_get0, R_onV])
  have x6 : MgS (put S5 cdx (.attrs (curD i j))) mg mdx m n t b l r := ⟨put_rr nm1 x5.gi, put_rr nm2 x5.gd⟩
  refine fun Q1 hQ1 => moved_m (c5.set (i' := i) (j' := j)) x6 (hQ1 _ _ ?_)
  try clear hQ1 Q1
  rw [put_put]
  generalize hI : mvI i di (if t ≤ i then t else 0) (if i ≤ b then b else (m : Int) - 1) = I
  generalize hJ : mvI j dj (if l ≤ j then l else 0) (if j ≤ r then r else (n : Int) - 1) = J
  have c7 := c5.set (i' := I) (j' := J)
  have x7 : MgS (put S5 cdx (.attrs (curD I J))) mg mdx m n t b l r := ⟨put_rr nm1 x5.gi, put_rr nm2 x5.gd⟩
  have y7 : DeckOk (put S5 cdx (.attrs (curD I J))) dk dl (B - 4) := (y5.keep (Kp.upd (fp := fun a => a = cdx) rfl) (nd _ (Or.inl rfl)) (nd _ (Or.inr rfl))).weak e4
  have k7 : Kp (dkF dk dl) S (put S5 cdx (.attrs (curD I J))) := (kk.trans (k5.weak fun _ z => z.elim)).later (by
    have z0 : ¬ dkF dk dl cdx := fun z => nd _ z rfl
    exact Classical.byContradiction fun z => z (by rw [← n2]; exact (kk cdx z z0).symm))
  generalize put S5 cdx (.attrs (curD I J)) = S7 at *
  clear x4 x5 x6 y4 y5 kk k5 c5 n1 n2 nm1 nm2 nd f1 f2 e4 hm' hn' hm2' hn2'
  unfold mvI at hI hJ
  have q1 := le_lo (t := t) hi0
  have q2 := le_hi (b := b) hi1
  have q3 := le_lo (t := l) hj0
  have q4 := le_hi (b := r) hj1
  (try dsimp only [R_drop, R_load, R_getS, R_get0, R_onV, R_ge])
  generalize hlo1 : (if t ≤ i then t else 0) = lo1 at *
  generalize hlo2 : (if l ≤ j then l else 0) = lo2 at *
  generalize hhi1 : (if i ≤ b then b else (m : Int) - 1) = hi1 at *
  generalize hhi2 : (if j ≤ r then r else (n : Int) - 1) = hi2 at *
  refine r_join (fun s e S' => s = [.vI lo1] ∧ e = [some (.vR dk), some (.vR mg), some (.vT [.vI t, .vI l, .vI b, .vI r]), some (.vI m), some (.vI n), some (.vI t), some (.vI l), some (.vI b), some (.vI r), some (.vI i), some (.vI j), some (.vI di), some (.vI dj), some (.vR cu), none, none, none, none] ∧ S7 = S') (fun N' hN => r_if (fun c => ?_) fun c => ?_) ?_
  · (try dsimp only [R_load, R_getS, R_get0, R_done, R_thenK, R_onV])
    exact hN _ _ _ ⟨by rw [← hlo1, if_pos c], rfl, rfl⟩
  · (try dsimp only [R_const, R_done, R_thenK])
    exact hN _ _ _ ⟨by rw [← hlo1, if_neg c], rfl, rfl⟩
  rintro _ _ _ ⟨rfl, rfl, rfl⟩
  (try dsimp only [R_load, R_getS, R_get0, R_onV, R_ge])
  refine r_join (fun s e S' => s = [.vI lo2, .vI lo1] ∧ e = [some (.vR dk), some (.vR mg), some (.vT [.vI t, .vI l, .vI b, .vI r]), some (.vI m), some (.vI n), some (.vI t), some (.vI l), some (.vI b), some (.vI r), some (.vI i), some (.vI j), some (.vI di), some (.vI dj), some (.vR cu), none, none, none, none] ∧ S7 = S') (fun N' hN => r_if (fun c => ?_) fun c => ?_) ?_
  · (try dsimp only [R_load, R_getS, R_get0, R_done, R_thenK, R_onV])
    exact hN _ _ _ ⟨by rw [← hlo2, if_pos c], rfl, rfl⟩
  · (try dsimp only [R_const, R_done, R_thenK])
    exact hN _ _ _ ⟨by rw [← hlo2, if_neg c], rfl, rfl⟩
  rintro _ _ _ ⟨rfl, rfl, rfl⟩
  (try dsimp only [R_tup, R_load, R_getS, R_get0, R_const, R_onV, R_sub, R_unpack, R_popNS, R_popN0, R_setsS, R_setS, R_set0, R_sets0, R_le])
  refine r_join (fun s e S' => s = [.vI hi1] ∧ e = [some (.vR dk), some (.vR mg), some (.vT [.vI t, .vI l, .vI b, .vI r]), some (.vI m), some (.vI n), some (.vI t), some (.vI l), some (.vI b), some (.vI r), some (.vI i), some (.vI j), some (.vI di), some (.vI dj), some (.vR cu), some (.vT [.vI lo1, .vI lo2]), some (.vT [.vI ((m : Int) - 1), .vI ((n : Int) - 1)]), none, none] ∧ S7 = S') (fun N' hN => r_if (fun c => ?_) fun c => ?_) ?_
  · (try dsimp only [R_load, R_getS, R_get0, R_done, R_thenK, R_onV])
    exact hN _ _ _ ⟨by rw [← hhi1, if_pos c], rfl, rfl⟩
  · (try dsimp only [R_load, R_getS, R_get0, R_const, R_onV])
    refine r_t0 rfl ?_
    (try dsimp only [R_done, R_thenK])
    exact hN _ _ _ ⟨by rw [← hhi1, if_neg c], rfl, rfl⟩
  rintro _ _ _ ⟨rfl, rfl, rfl⟩
  (try dsimp only [R_load, R_getS, R_get0, R_onV, R_le])
  refine r_join (fun s e S' => s = [.vI hi2, .vI hi1] ∧ e = [some (.vR dk), some (.vR mg), some (.vT [.vI t, .vI l, .vI b, .vI r]), some (.vI m), some (.vI n), some (.vI t), some (.vI l), some (.vI b), some (.vI r), some (.vI i), some (.vI j), some (.vI di), some (.vI dj), some (.vR cu), some (.vT [.vI lo1, .vI lo2]), some (.vT [.vI ((m : Int) - 1), .vI ((n : Int) - 1)]), none, none] ∧ S7 = S') (fun N' hN => r_if (fun c => ?_) fun c => ?_) ?_
  · (try dsimp only [R_load, R_getS, R_get0, R_done, R_thenK, R_onV])
    exact hN _ _ _ ⟨by rw [← hhi2, if_pos c], rfl, rfl⟩
  · (try dsimp only [R_load, R_getS, R_get0, R_const, R_onV])
    refine r_t1 rfl ?_
    (try dsimp only [R_done, R_thenK])
    exact hN _ _ _ ⟨by rw [← hhi2, if_neg c], rfl, rfl⟩
  rintro _ _ _ ⟨rfl, rfl, rfl⟩
  (try dsimp only [R_tup, R_store, R_setS, R_set0, R_load, R_getS, R_get0, R_const, R_onV, R_lt, R_popNS, R_popN0])
  refine r_join (fun s e S' => s = [.vI I] ∧ e = [some (.vR dk), some (.vR mg), some (.vT [.vI t, .vI l, .vI b, .vI r]), some (.vI m), some (.vI n), some (.vI t), some (.vI l), some (.vI b), some (.vI r), some (.vI i), some (.vI j), some (.vI di), some (.vI dj), some (.vR cu), some (.vT [.vI lo1, .vI lo2]), some (.vT [.vI hi1, .vI hi2]), none, none] ∧ S7 = S') (fun N' hN => r_if (fun c => ?_) fun c => ?_) ?_
  · (try dsimp only [R_load, R_getS, R_get0, R_const, R_onV])
    refine r_t0 rfl ?_
    (try dsimp only [R_load, R_getS, R_get0, R_onV, R_add])
    refine r_max ?_
    (try dsimp only [R_done, R_thenK])
    exact hN _ _ _ ⟨by rw [steps_max hI q2 c], rfl, rfl⟩
  · (try dsimp only [R_load, R_getS, R_get0, R_const, R_onV])
    refine r_t0 rfl ?_
    (try dsimp only [R_load, R_getS, R_get0, R_onV, R_add])
    refine r_min ?_
    (try dsimp only [R_done, R_thenK])
    exact hN _ _ _ ⟨by rw [steps_min hI q1 q2 c], rfl, rfl⟩
  rintro _ _ _ ⟨rfl, rfl, rfl⟩
  (try dsimp only [R_load, R_getS, R_get0, R_const, R_onV, R_lt])
  refine r_join (fun s e S' => s = [.vI J, .vI I] ∧ e = [some (.vR dk), some (.vR mg), some (.vT [.vI t, .vI l, .vI b, .vI r]), some (.vI m), some (.vI n), some (.vI t), some (.vI l), some (.vI b), some (.vI r), some (.vI i), some (.vI j), some (.vI di), some (.vI dj), some (.vR cu), some (.vT [.vI lo1, .vI lo2]), some (.vT [.vI hi1, .vI hi2]), none, none] ∧ S7 = S') (fun N' hN => r_if (fun c => ?_) fun c => ?_) ?_
  · (try dsimp only [R_load, R_getS, R_get0, R_const, R_onV])
    refine r_t1 rfl ?_
    (try dsimp only [R_load, R_getS, R_get0, R_onV, R_add])
    refine r_max ?_
    (try dsimp only [R_done, R_thenK])
    exact hN _ _ _ ⟨by rw [steps_max hJ q4 c], rfl, rfl⟩
  · (try dsimp only [R_load, R_getS, R_get0, R_const, R_onV])
    refine r_t1 rfl ?_
    (try dsimp only [R_load, R_getS, R_get0, R_onV, R_add])
    refine r_min ?_
    (try dsimp only [R_done, R_thenK])
    exact hN _ _ _ ⟨by rw [steps_min hJ q3 q4 c], rfl, rfl⟩
  rintro _ _ _ ⟨rfl, rfl, rfl⟩
  (try dsimp only [R_tup, R_store, R_setS, R_set0, R_load, R_getS, R_get0, R_onV, R_kle, R_popNS, R_popN0])
  refine r_join (fun s e S' => s = [.vB (decide (t ≤ i ∧ i ≤ b))] ∧ e = [some (.vR dk), some (.vR mg), some (.vT [.vI t, .vI l, .vI b, .vI r]), some (.vI m), some (.vI n), some (.vI t), some (.vI l), some (.vI b), some (.vI r), some (.vI i), some (.vI j), some (.vI di), some (.vI dj), some (.vR cu), some (.vT [.vI lo1, .vI lo2]), some (.vT [.vI hi1, .vI hi2]), some (.vT [.vI I, .vI J]), none] ∧ S7 = S') (fun N' hN => r_if (fun c => ?_) fun c => ?_) ?_
  · (try dsimp only [R_load, R_getS, R_get0, R_onV, R_le, R_done, R_thenK])
    exact hN _ _ _ ⟨vB_eq ⟨fun z => ⟨c, z⟩, fun z => z.2⟩, rfl, rfl⟩
  · (try dsimp only [R_pop, R_const, R_done, R_thenK])
    exact hN _ _ _ ⟨vB_F fun z => c z.1, rfl, rfl⟩
  rintro _ _ _ ⟨rfl, rfl, rfl⟩
  (try dsimp only [R_dup, R_tst])
  refine r_join (fun s e S' => s = [.vB (decide (t ≤ i ∧ i ≤ b) && decide (l ≤ j ∧ j ≤ r))] ∧ e = [some (.vR dk), some (.vR mg), some (.vT [.vI t, .vI l, .vI b, .vI r]), some (.vI m), some (.vI n), some (.vI t), some (.vI l), some (.vI b), some (.vI r), some (.vI i), some (.vI j), some (.vI di), some (.vI dj), some (.vR cu), some (.vT [.vI lo1, .vI lo2]), some (.vT [.vI hi1, .vI hi2]), some (.vT [.vI I, .vI J]), none] ∧ S7 = S') (fun N' hN => r_if (fun c1 => ?_) fun c1 => ?_) ?_
  · (try dsimp only [R_pop, R_load, R_getS, R_get0, R_onV, R_kle])
    rw [decide_eq_true c1, Bool.true_and] at hN
    refine r_if (fun c => ?_) fun c => ?_
    · (try dsimp only [R_load, R_getS, R_get0, R_onV, R_le, R_done, R_thenK])
      exact hN _ _ _ ⟨vB_eq ⟨fun z => ⟨c, z⟩, fun z => z.2⟩, rfl, rfl⟩
    · (try dsimp only [R_pop, R_const, R_done, R_thenK])
      exact hN _ _ _ ⟨vB_F fun z => c z.1, rfl, rfl⟩
  · (try dsimp only [R_done, R_thenK])
    rw [decide_eq_false c1, Bool.false_and] at hN
    exact hN _ _ _ ⟨by rw [decide_eq_false c1], rfl, rfl⟩
  rintro _ _ _ ⟨rfl, rfl, rfl⟩
  dsimp only [R_store, R_set0, R_setS]
  (try dsimp only [R_load, R_getS, R_get0, R_onV])
  refine r_meth c7.gi c7.gd (m_456_place P) rfl fun Q1 hQ1 => ?_
  (try dsimp only [R_done, R_argK, R_popN0])
  refine place_m c7 (hQ1 _ _ ?_)
  try clear hQ1 Q1
  refine r_tuple ?_
  (try dsimp only [R_load, R_getS, R_get0, R_onV])
  refine fun Q1 hQ1 => eq_two (hQ1 _ ?_)
  try clear hQ1 Q1
  rw [decide_eq_true (⟨rfl, rfl⟩ : I = I ∧ J = J)]
  (try dsimp only [R_dup, R_tst, R_iteT, R_pop, R_load, R_getS, R_get0, R_onV])
  refine r_meth x7.gi x7.gd (m_589_holds P) rfl fun Q1 hQ1 => ?_
  (try dsimp only [R_load, R_getS, R_get0, R_done, R_argK, R_popNS, R_popN0, R_onV])
  refine holds_m x7 (hQ1 _ _ ?_)
  try clear hQ1 Q1
  (try dsimp only [R_load, R_getS, R_get0, R_onV])
  refine r_is_same ?_
  (try dsimp only [R_done, R_thenK, R_ret])
  exact h _ k7 y7
end Mine
end
section
open PySem PySem.W PyProof.Rows
set_option maxRecDepth 100000
set_option linter.unusedVariables false
set_option linter.unusedSimpArgs false
set_option maxHeartbeats 4000000
namespace Mine
variable {P : Params} {S S' : St} {Q : V → St → Prop} {d : Nat} {F : Addr → Prop} {g : Addr} {m n : Nat} {G : GI} {rows : Nat → Nat → Cell}
noncomputable def rowOf (n : Nat) (cs : List Cell) : Nat → Cell := fun j => (cs ++ List.replicate (n - cs.length) (blank (-1))).getD j (blank 0)
theorem tab_rowOf {cs : List Cell} (h : cs.length ≤ n) : tab n (rowOf n cs) = cs ++ List.replicate (n - cs.length) (blank (-1)) := by
  have e := tab_of (cs ++ List.replicate (n - cs.length) (blank (-1))) (blank 0)
  have el : (cs ++ List.replicate (n - cs.length) (blank (-1))).length = n := by simp; lia
  rw [el] at e
  exact e.symm
theorem getD_app {cs ds : List Cell} {j : Nat} {x : Cell} : (cs ++ ds).getD j x = if j < cs.length then cs.getD j x else ds.getD (j - cs.length) x := by
  simp only [List.getD_eq_getElem?_getD]
  by_cases h : j < cs.length
  · rw [if_pos h, List.getElem?_append_left h]
  · rw [if_neg h, List.getElem?_append_right (by lia)]
theorem rowOf_nil {j : Nat} (h : j < n) : rowOf n [] j = blank (-1) := by
  unfold rowOf
  rw [List.nil_append, List.getD_eq_getElem?_getD, List.getElem?_replicate, if_pos (by simpa using h)]; rfl
noncomputable def WFc (cs : List Cell) : Prop := WF cs.length (fun j => cs.getD j (blank 0))
theorem WFc.nil : WFc [] := ⟨fun j h => absurd h (Nat.not_lt_zero _), fun j h => absurd h (Nat.not_lt_zero _)⟩
theorem WFc.one {cs : List Cell} {c : Cell} (x : WFc cs) (h : c.w = 1) : WFc (cs ++ [c]) := by
  have hl : (cs ++ [c]).length = cs.length + 1 := by simp
  have old : ∀ j, j < cs.length → (cs ++ [c]).getD j (blank 0) = cs.getD j (blank 0) := fun j hj => by rw [getD_app, if_pos hj]
  have new : (cs ++ [c]).getD cs.length (blank 0) = c := by rw [getD_app, if_neg (Nat.lt_irrefl _), Nat.sub_self]; rfl
  unfold WFc
  rw [hl]
  refine ⟨fun j hj z => ?_, fun j hj z => ?_⟩
  · by_cases c1 : j < cs.length
    · simp only [old j c1] at z ⊢
      obtain ⟨a, b, e⟩ := x.zero j c1 z
      rw [old (j - 1) (by lia)]; exact ⟨a, b, e⟩
    · have : j = cs.length := by lia
      subst this
      simp only [new] at z; rw [h] at z; cases z
  · by_cases c1 : j < cs.length
    · simp only [old j c1] at z
      obtain ⟨a, b⟩ := x.two j c1 z
      simp only [old (j + 1) a]; exact ⟨by lia, b⟩
    · have : j = cs.length := by lia
      subst this
      simp only [new] at z; rw [h] at z; cases z
theorem WFc.two {cs : List Cell} {c : Cell} (x : WFc cs) (h : c.w = 2) : WFc (cs ++ [c, ⟨none, 0, c.b⟩]) := by
  have hl : (cs ++ [c, ⟨none, 0, c.b⟩]).length = cs.length + 2 := by simp
  have old : ∀ j, j < cs.length → (cs ++ [c, ⟨none, 0, c.b⟩]).getD j (blank 0) = cs.getD j (blank 0) := fun j hj => by rw [getD_app, if_pos hj]
  have n0 : (cs ++ [c, ⟨none, 0, c.b⟩]).getD cs.length (blank 0) = c := by rw [getD_app, if_neg (Nat.lt_irrefl _), Nat.sub_self]; rfl
  have n1 : (cs ++ [c, ⟨none, 0, c.b⟩]).getD (cs.length + 1) (blank 0) = ⟨none, 0, c.b⟩ := by rw [getD_app, if_neg (by lia), Nat.add_sub_cancel_left]; rfl
  unfold WFc
  rw [hl]
  refine ⟨fun j hj z => ?_, fun j hj z => ?_⟩
  · by_cases c1 : j < cs.length
    · simp only [old j c1] at z ⊢
      obtain ⟨a, b, e⟩ := WF.zero x j c1 z
      rw [old (j - 1) (by lia)]; exact ⟨a, b, e⟩
    · by_cases c2 : j = cs.length
      · subst c2
        simp only [n0] at z; rw [h] at z; cases z
      · have : j = cs.length + 1 := by lia
        subst this
        simp only [n1, Nat.add_sub_cancel, n0]; exact ⟨by lia, h, trivial⟩
  · by_cases c1 : j < cs.length
    · simp only [old j c1] at z
      obtain ⟨a, b⟩ := WF.two x j c1 z
      simp only [old (j + 1) a]; exact ⟨by lia, b⟩
    · by_cases c2 : j = cs.length
      · subst c2
        simp only [n1]; exact ⟨by lia, trivial⟩
      · have : j = cs.length + 1 := by lia
        subst this
        simp only [n1] at z; cases z
theorem WFc.done {cs : List Cell} (x : WFc cs) (h : cs.length = n) : WF n (rowOf n cs) := by
  subst h
  refine WF.congr x fun j hj => ?_
  unfold rowOf
  rw [getD_app, if_pos hj]
theorem alloc_put {b : Addr} {o : AO} (h : ∀ a, F a → S a ≠ none) : ∀ a, F a → put S b o a ≠ none := fun a z => by
  by_cases c : a = b
  · subst c; rw [put_at]; exact fun z => nomatch z
  · rw [put_off c]; exact h a z
theorem GSd.deck {dk dl : Addr} {B : Int} (x : GSd S F g m n G rows) (k : Kp (dkF dk dl) S S') (y : DeckOk S' dk dl B) (hF : ∀ a, dkF dk dl a → F a) : GSd S' F g m n G rows := by
  refine x.mono (k.weak hF) (fun a z => Or.inl z) fun a z => ?_
  by_cases c : dkF dk dl a
  · refine hide fun G0 g0 => ?_
    obtain ⟨mx, t, is, e1, e2, _⟩ := y
    refine g0 ?_
    clear g0 G0
    rcases c with rfl | rfl
    · rw [e1]; exact fun z => nomatch z
    · rw [e2]; exact fun z => nomatch z
  · rw [k a (x.fa a z) c]; exact x.fa a z
theorem GSd.own {a : Addr} {o : AO} (x : GSd S F g m n G rows) (ha : F a) : GSd (put S a o) F g m n G rows :=
  x.mono (Kp.upd ha) (fun _ z => Or.inl z) (alloc_put x.fa)
noncomputable def wF (dk dl q : Addr) (rl : Nat → Addr) (i : Nat) : Addr → Prop := fun a => a = dk ∨ a = dl ∨ a = q ∨ ∃ k, k < i ∧ a = rl k
theorem wF_dk {dk dl q : Addr} {rl : Nat → Addr} {i : Nat} (a : Addr) (h : dkF dk dl a) : wF dk dl q rl i a := h.elim Or.inl fun z => Or.inr (Or.inl z)
theorem DeckOk.al {dk dl : Addr} {B : Int} (y : DeckOk S dk dl B) (a : Addr) (h : dkF dk dl a) : S a ≠ none := by
  refine hide fun G0 g0 => ?_
  obtain ⟨mx, t, is, e1, e2, _⟩ := y
  refine g0 ?_
  clear g0 G0
  rcases h with rfl | rfl
  · rw [e1]; exact fun z => nomatch z
  · rw [e2]; exact fun z => nomatch z
theorem DeckOk.kf {dk dl : Addr} {B : Int} (y : DeckOk S dk dl B) (k : KF F S S') (h : ∀ a, dkF dk dl a → F a) : DeckOk S' dk dl B := by
  refine hide fun G0 g0 => ?_
  obtain ⟨mx, t, is, e1, e2, e3⟩ := y
  refine g0 ?_
  clear g0 G0
  exact ⟨mx, t, is, (k _ (h _ (Or.inl rfl))).trans e1, (k _ (h _ (Or.inr rfl))).trans e2, e3⟩
theorem cellsV_snoc {cs : List Cell} {c : Cell} {v : V} (h : v = cellV c) : cellsV cs ++ [v] = cellsV (cs ++ [c]) := by
  subst h; unfold cellsV; rw [List.map_append]; rfl
theorem row_one {cs : List Cell} {c : Cell} (h : cs.length < n) : cs ++ ([c] ++ List.replicate (n - cs.length - 1) (blank (-1))) = tab n (rowOf n (cs ++ [c])) := by
  rw [tab_rowOf (by rw [List.length_append]; exact h), List.append_assoc, List.length_append, Nat.sub_sub]
  rfl
theorem row_two {cs : List Cell} {c c2 : Cell} (h : cs.length + 2 ≤ n) : cs ++ ([c, c2] ++ List.replicate (n - cs.length - 2) (blank (-1))) = tab n (rowOf n (cs ++ [c, c2])) := by
  rw [tab_rowOf (by rw [List.length_append]; exact h), List.append_assoc, List.length_append, Nat.sub_sub]
  rfl
theorem len_snoc {cs : List Cell} {c : Cell} : ((cs ++ [c]).length : Int) = (cs.length : Int) + 1 := by rw [List.length_append]; rfl
theorem len_snoc2 {cs : List Cell} {c c2 : Cell} : ((cs ++ [c, c2]).length : Int) = (cs.length : Int) + 2 := by rw [List.length_append]; rfl
theorem wF_more {dk dl q ln : Addr} {rl : Nat → Addr} {i : Nat} {a : Addr} (z : wF dk dl q (ext rl i ln) (i + 1) a) : wF dk dl q rl i a ∨ a = ln := by
  rcases z with z | z | z | ⟨k, hk, z⟩
  · exact Or.inl (Or.inl z)
  · exact Or.inl (Or.inr (Or.inl z))
  · exact Or.inl (Or.inr (Or.inr (Or.inl z)))
  · by_cases c : k = i
    · subst c; rw [ext_at] at z; exact Or.inr z
    · rw [ext_ne c] at z; exact Or.inl (Or.inr (Or.inr (Or.inr ⟨k, Nat.lt_of_le_of_ne (Nat.le_of_lt_succ hk) c, z⟩)))
theorem wF_zero {dk dl q : Addr} {rl : Nat → Addr} {a : Addr} (z : wF dk dl q rl 0 a) : dkF dk dl a ∨ a = q := by
  rcases z with z | z | z | ⟨k, hk, z⟩
  · exact Or.inl (Or.inl z)
  · exact Or.inl (Or.inr z)
  · exact Or.inr z
  · exact absurd hk (Nat.not_lt_zero _)
theorem GSd.add {F' : Addr → Prop} {ln : Addr} {o : AO} (x : GSd S F g m n G rows) (hln : S ln = none) (h : ∀ a, F' a → F a ∨ a = ln) : GSd (put S ln o) F' g m n G rows :=
  x.mono (Kp.new hln) (fun a z => (h a z).elim Or.inl fun e => Or.inr (e ▸ hln)) fun a z => (h a z).elim (alloc_put x.fa a) fun e => by rw [e, put_at]; exact fun z => nomatch z
theorem written_ok {dk dl : Addr} {B : Int} (y : DeckOk S dk dl B) (hB : 2000 ≤ B) (hm : 1 ≤ m) (hm2 : m ≤ 10) (hn : 1 ≤ n) (hn2 : n ≤ 10)
    (h : ∀ g q rl S' G rws, GSd S' (wF dk dl q rl m) g m n G rws → LL S' q rl m n rws → (∀ i, i < m → WF n (rws i)) → DeckOk S' dk dl (B - 100 * m) → ¬ dkF dk dl q → (∀ i, i < m → ¬ dkF dk dl (rl i)) → Q (.vT [.vR g, .vR q]) S') : WC (KK P) (d + 8) (.ref 633) [.vR dk, .vI m, .vI n] S Q := by
  have hB' : B - 100 * ((0 : Nat) : Int) ≤ B := by lia
  obtain ⟨b1, b2⟩ := big (i := m) rfl (Nat.le_trans hm2 (by decide))
  have LBle : ∀ {k : Nat}, k ≤ 10 → k + 1 ≤ LB := fun h => Nat.le_trans (Nat.succ_le_succ h) (by decide)
  refine RC_go (cf633 P) ?_
  unfold code633
  (try dsimp only [R_noES, R_noE0, R_initS, R_init0, R_load, R_getS, R_get0, R_onV])
  refine fun Q1 hQ1 => grid_new_m (F := dkF dk dl) hm hn hm2 hn2 y.al fun g S1 G k1 hg0 x1 => hQ1 _ _ ?_
  try clear hQ1 Q1
  have y1 := y.keep k1 id id
  clear k1 hg0 y
  (try dsimp only)
  refine fun q hq => ?_
  have nq : ¬ dkF dk dl q := fun z => y1.al q z hq.self
  (try dsimp only [R_tup, R_unpack, R_load, R_popNS, R_popN0, R_setsS, R_setS, R_set0, R_sets0, R_getS, R_get0, R_onV])
  refine r_for1 b1 b2 (rUp (a := 0) (b := m) (fun i e S' => (∃ w1 w2 w3 w4 w5 w6, e = [some (.vR dk), some (.vI m), some (.vI n), some (.vR g), some (.vR q), w1, w2, w3, w4, w5, w6]) ∧ DeckOk S' dk dl (B - 100 * (i : Int)) ∧
    ∃ (G : GI) (rl : Nat → Addr) (rws : Nat → Nat → Cell), GSd S' (wF dk dl q rl i) g m n G rws ∧ S' q = some (.lst (tab i (fun j => .vR (rl j)))) ∧ (∀ k, k < i → S' (rl k) = some (.lst (cellsV (tab n (rws k)))) ∧ WF n (rws k) ∧ ¬ dkF dk dl (rl k) ∧ rl k ≠ q) ∧ (∀ k, i ≤ k → k < m → ∀ j, j < n → rws k j = blank (-1))) rfl rfl (Nat.zero_le _) ?_ ?_ _ _
    ⟨⟨_, _, _, _, _, _, rfl⟩, (y1.keep (Kp.new (fp := none_) hq.self) id id).weak hB', G, fun _ => 0, fun _ _ => blank (-1), x1.add hq.self fun a => wF_zero, put_at, fun k hk => absurd hk (Nat.not_lt_zero _), fun _ _ _ _ _ => rfl⟩)
  · clear y1 x1 hq b1 b2 h
    intro i _ S2 _ hi x00
    refine hide fun G0 g0 => ?_
    obtain ⟨⟨w1, w2, w3, w4, w5, w6, rfl⟩, y2, G2, rl, rws, x2, hq2, hrl, hbl⟩ := x00
    refine g0 ?_
    clear g0 G0
    refine ⟨trivial, fun Q' qq => ?_⟩
    (try dsimp only [R_turn1, R_setS, R_set0])
    refine fun ln hln => ?_
    have nln : ¬ wF dk dl q rl i ln := fun z => x2.fa ln z hln.self
    have nlk : ¬ dkF dk dl ln := fun z => nln (wF_dk _ z)
    have nlq : ln ≠ q := fun z => nln (Or.inr (Or.inr (Or.inl z)))
    have nlr : ∀ k, k < i → rl k ≠ ln := fun k hk z => nln (Or.inr (Or.inr (Or.inr ⟨k, hk, z.symm⟩)))
    have x3 : GSd (put S2 ln (.lst [])) (wF dk dl q (ext rl i ln) (i + 1)) g m n G2 rws := x2.add hln.self fun a => wF_more
    have Fln : wF dk dl q (ext rl i ln) (i + 1) ln := Or.inr (Or.inr (Or.inr ⟨i, Nat.lt_succ_self i, ext_at.symm⟩))
    have Fq : wF dk dl q (ext rl i ln) (i + 1) q := Or.inr (Or.inr (Or.inl rfl))
    have Frl : ∀ k, k < i → wF dk dl q (ext rl i ln) (i + 1) (rl k) := fun k hk => Or.inr (Or.inr (Or.inr ⟨k, Nat.lt_succ_of_lt hk, by rw [ext_ne (Nat.ne_of_lt hk)]⟩))
    have hB0 : B - 100 * (i : Int) - 3 * (([] : List Cell).length : Int) ≤ B - 100 * (i : Int) := Int.sub_le_self _ (by decide)
    (try dsimp only [R_const, R_tup, R_unpack, R_popNS, R_popN0, R_setsS, R_setS, R_set0, R_sets0])
    refine r_loop (n + 1) (while_indR (fun k e S' => ∃ (cs : List Cell) (G : GI) (w1 w2 w3 : Option V), e = [some (.vR dk), some (.vI m), some (.vI n), some (.vR g), some (.vR q), some (.vI i), some (.vR ln), some (.vI (cs.length : Int)), w1, w2, w3] ∧ k + cs.length = n ∧ DeckOk S' dk dl (B - 100 * (i : Int) - 3 * (cs.length : Int)) ∧ GSd S' (wF dk dl q (ext rl i ln) (i + 1)) g m n G (fun k => if k = i then rowOf n cs else rws k) ∧ S' ln = some (.lst (cellsV cs)) ∧ WFc cs ∧ S' q = some (.lst (tab i (fun j => .vR (rl j)))) ∧
      (∀ k, k < i → S' (rl k) = some (.lst (cellsV (tab n (rws k)))))) ?_ (n + 1) n _ _ (Nat.lt_succ_self _)
      ⟨[], G2, _, _, _, rfl, rfl, (y2.keep (Kp.new (fp := none_) hln.self) id id).weak hB0, x3.congr fun k j hk hj => ?_, put_at, WFc.nil, put_fr hln hq2, fun k hk => put_fr hln (hrl k hk).1⟩)
    · clear x3 y2 hq2 hln x2 hB0 hB'
      intro k _ S3 x00 Q2 q2
      refine hide fun G0 g0 => ?_
      obtain ⟨cs, G3, w1, w2, w3, rfl, hk, y3, x4, hl3, wf3, hq3, hr3⟩ := x00
      refine g0 ?_
      clear g0 G0
      (try dsimp only [R_bodK, R_load, R_get0, R_onV, R_endK, R_getS, R_tstK, R_lt, R_done, R_boolK])
      by_cases hc : (cs.length : Int) < (n : Int)
      · rw [decide_eq_true hc, if_pos rfl]
        clear qq hbl
        have hcl : cs.length < n := Int.ofNat_lt.mp hc
        have hB1 : 1 ≤ B - 100 * (i : Int) - 3 * (cs.length : Int) := by lia
        have hB2 : 1 ≤ B - 100 * (i : Int) - 3 * (cs.length : Int) - 1 := by lia
        have hB3 : 1 ≤ B - 100 * (i : Int) - 3 * (cs.length : Int) - 1 - 1 := by lia
        have hB4 : B - 100 * (i : Int) - 3 * (cs.length : Int) - 3 ≤ B - 100 * (i : Int) - 3 * (cs.length : Int) - 1 - 1 := by lia
        have hB5 : B - 100 * (i : Int) - 3 * (cs.length : Int) - 3 ≤ B - 100 * (i : Int) - 3 * (cs.length : Int) - 1 - 1 - 1 := by lia
        refine fun Q1 hQ1 => pen_ok y3 hB1 fun b S4 k4 y4 => hQ1 _ _ ?_
        try clear hQ1 Q1
        (try dsimp only [R_const, R_load, R_get0, R_onV])
        refine fun Q1 hQ1 => draw_ok y4 hB2 (by decide) (by decide) fun v S5 k5 y5 _ _ => hQ1 _ _ ?_
        try clear hQ1 Q1
        have k45 := k4.trans k5
        (try dsimp only [R_add, R_tup, R_unpack, R_load, R_const, R_popNS, R_popN0, R_setsS, R_setS, R_set0, R_sets0, R_getS, R_get0, R_onV, R_lt])
        refine r_join (fun s e S' => (∃ q : Bool, s = [.vB q] ∧ (q = true → cs.length + 2 ≤ n)) ∧ e = [some (.vR dk), some (.vI m), some (.vI n), some (.vR g), some (.vR q), some (.vI i), some (.vR ln), some (.vI (cs.length : Int)), some (penV b), some (.vI (97 + v)), w3] ∧ Kp (dkF dk dl) S3 S' ∧ DeckOk S' dk dl (B - 100 * (i : Int) - 3 * (cs.length : Int) - 3)) (fun N' hN => r_if (fun hc2 => ?_) fun hc2 => ?_) ?_
        · have hc3 : cs.length + 2 ≤ n := by lia
          (try dsimp only [R_load, R_get0, R_const, R_onV])
          refine fun Q1 hQ1 => draw_ok y5 hB3 (by decide) (by decide) fun v2 S6 k6 y6 _ _ => hQ1 _ _ ?_
          try clear hQ1 Q1
          (try dsimp only [R_const, R_eq, R_done, R_thenK])
          exact hN _ _ _ ⟨⟨_, rfl, fun _ => hc3⟩, rfl, k45.trans k6, y6.weak hB5⟩
        · (try dsimp only [R_const, R_done, R_thenK])
          exact hN _ _ _ ⟨⟨_, rfl, fun z => nomatch z⟩, rfl, k45, y5.weak hB4⟩
        clear y4 y5 k45 k4 k5 hB1 hB2 hB3 hB4 hB5
        intro _ _ S6 x00
        refine hide fun G0 g0 => ?_
        obtain ⟨⟨qb, rfl, hqb⟩, rfl, k6, y6⟩ := x00
        refine g0 ?_
        clear g0 G0
        refine r_join (fun s e S' => (∃ w : Int, s = [.vI w] ∧ (w = 1 ∨ (w = 2 ∧ cs.length + 2 ≤ n))) ∧ e = [some (.vR dk), some (.vI m), some (.vI n), some (.vR g), some (.vR q), some (.vI i), some (.vR ln), some (.vI (cs.length : Int)), some (penV b), some (.vI (97 + v)), w3] ∧ S' = S6) (fun N' hN => r_b (fun z => ?_) fun z => ?_) ?_
        · (try dsimp only [R_const, R_done, R_thenK])
          exact hN _ _ _ ⟨⟨2, rfl, Or.inr ⟨rfl, hqb z⟩⟩, rfl, rfl⟩
        · (try dsimp only [R_const, R_done, R_thenK])
          exact hN _ _ _ ⟨⟨1, rfl, Or.inl rfl⟩, rfl, rfl⟩
        clear hqb
        intro _ _ S6 x00
        refine hide fun G0 g0 => ?_
        obtain ⟨⟨w, rfl, hw⟩, rfl, rfl⟩ := x00
        refine g0 ?_
        clear g0 G0
        have x6 := x4.deck k6 y6 fun a => wF_dk a
        have hl6 := k6.at hl3 nlk
        have hq6 := k6.at hq3 nq
        have hr6 : ∀ k, k < i → S6 (rl k) = some (.lst (cellsV (tab n (rws k)))) := fun k hk => k6.at (hr3 k hk) (hrl k hk).2.2.1
        have ne : G3.dxs i ≠ G3.lcs i := kinds (x6.ad i hi) (x6.al i hi) (fun z => nomatch z)
        have key : ∀ (cs' : List Cell) (S7 : St), cs'.length ≤ n → S7 = put S6 (G3.lcs i) (.lst (cellsV (tab n (rowOf n cs')))) → (∃ G', GSd S7 (wF dk dl q (ext rl i ln) (i + 1)) g m n G' (fun k => if k = i then rowOf n cs' else rws k)) ∧ DeckOk S7 dk dl (B - 100 * (i : Int) - 3 * (cs.length : Int) - 3) ∧ S7 ln = some (.lst (cellsV cs)) ∧ S7 q = some (.lst (tab i (fun j => .vR (rl j)))) ∧ (∀ k, k < i → S7 (rl k) = some (.lst (cellsV (tab n (rws k))))) := by
          rintro cs' _ hcs' rfl
          obtain ⟨a, kf⟩ := x6.upd (k := i) (wr := G3.wrs i) (f := rowOf n cs') (S' := put S6 (G3.lcs i) (.lst (cellsV (tab n (rowOf n cs'))))) hi (Kp.upd (Or.inl rfl)) put_at (put_rr ne (x6.ad i hi))
          refine ⟨⟨_, a.congr fun k j _ _ => ?_⟩, y6.kf kf fun a => wF_dk a, (kf _ Fln).trans hl6, (kf _ Fq).trans hq6, fun k hk => (kf _ (Frl k hk)).trans (hr6 k hk)⟩
          by_cases c : k = i
          · rw [if_pos c, if_pos c]
          · rw [if_neg c, if_neg c, if_neg c]
        have hal := x6.al i hi
        rw [if_pos rfl, tab_rowOf (Nat.le_of_lt hcl)] at hal
        have hcl2 : cs.length ≤ 10 := by lia
        clear hl3 hq3 hr3 x4 y3 hc
        dsimp only [R_store, R_set0, R_setS]
        (try dsimp only [R_load, R_getS, R_get0, R_onV])
        refine r_meth x6.gi x6.gd (m_393_line P) rfl fun Q1 hQ1 => ?_
        (try dsimp only [R_load, R_getS, R_get0, R_done, R_argK, R_popNS, R_popN0, R_onV])
        refine line_m x6 hi (hQ1 _ _ ?_)
        try clear hQ1 Q1
        refine r_meth (x6.ai i hi) (x6.ad i hi) (m_244_put P) rfl fun Q1 hQ1 => ?_
        (try dsimp only [R_load, R_getS, R_get0, R_tup, R_const, R_done, R_argK, R_popNS, R_popN0, R_onV])
        rcases hw with rfl | ⟨rfl, hcn⟩
        · refine line_put_m (c := ⟨some (97 + v), 1, b⟩) (x6.ai i hi) (x6.ad i hi) hal (Or.inl ⟨rfl, Nat.sub_pos_of_lt hcl⟩) (hQ1 _ _ ?_)
          try clear hQ1 Q1
          rw [if_neg (show ¬ (1 : Int) = 2 by decide), row_one hcl]
          obtain ⟨⟨G7, x7⟩, y7, hl7, hq7, hr7⟩ := key (cs ++ [⟨some (97 + v), 1, b⟩]) _ (by rw [List.length_append]; exact hcl) rfl
          generalize put S6 (G3.lcs i) (.lst (cellsV (tab n (rowOf n (cs ++ [⟨some (97 + v), 1, b⟩]))))) = S7 at *
          clear key x6 y6 hl6 hq6 hr6 k6 ne hal
          (try dsimp only [R_drop, R_load, R_getS, R_get0, R_onV])
          refine r_append hl7 fun Q1 hQ1 => ?_
          (try dsimp only [R_load, R_getS, R_get0, R_tup, R_const, R_done, R_popNS, R_popN0, R_onV])
          refine r_app hl7 (by rw [cellsV_length]; exact LBle hcl2) (hQ1 _ _ ?_)
          try clear hQ1 Q1
          rw [cellsV_snoc (v := .vT [.vT [.vI (97 + v)], .vI 1, penV b, .vB false]) (c := ⟨some (97 + v), 1, b⟩) rfl]
          (try dsimp only [R_drop, R_load, R_getS, R_get0, R_const, R_onV, R_eq])
          refine r_f (by decide) ?_
          (try dsimp only [R_done, R_thenK, R_load, R_getS, R_get0, R_onV, R_add, R_store, R_setS, R_set0, R_nxK])
          refine q2 (k - 1) _ _ (by lia) ⟨cs ++ [⟨some (97 + v), 1, b⟩], G7, _, _, _, by rw [len_snoc], by rw [List.length_append, List.length_singleton]; lia, ?_, x7.own Fln, put_at, wf3.one rfl, put_rr nlq.symm hq7, fun k hk => put_rr (nlr k hk) (hr7 k hk)⟩
          exact (y7.keep (Kp.upd (fp := fun a => a = ln) rfl) (fun z => nlk (Or.inl z.symm)) (fun z => nlk (Or.inr z.symm))).weak (by rw [len_snoc]; lia)
        · refine line_put_m (c := ⟨some (97 + v), 2, b⟩) (x6.ai i hi) (x6.ad i hi) hal (Or.inr ⟨rfl, Nat.le_sub_of_add_le' hcn⟩) (hQ1 _ _ ?_)
          try clear hQ1 Q1
          rw [if_pos rfl]
          have e7 := row_two (c := ⟨some (97 + v), 2, b⟩) (c2 := ⟨none, 0, b⟩) hcn
          dsimp only at e7 ⊢
          rw [e7]
          obtain ⟨⟨G7, x7⟩, y7, hl7, hq7, hr7⟩ := key (cs ++ [⟨some (97 + v), 2, b⟩, ⟨none, 0, b⟩]) _ (by rw [List.length_append]; exact hcn) rfl
          generalize put S6 (G3.lcs i) (.lst (cellsV (tab n (rowOf n (cs ++ [⟨some (97 + v), 2, b⟩, ⟨none, 0, b⟩]))))) = S7 at *
          clear key x6 y6 hl6 hq6 hr6 k6 ne hal e7
          (try dsimp only [R_drop, R_load, R_getS, R_get0, R_onV])
          refine r_append hl7 fun Q1 hQ1 => ?_
          (try dsimp only [R_load, R_getS, R_get0, R_tup, R_const, R_done, R_popNS, R_popN0, R_onV])
          refine r_app hl7 (by rw [cellsV_length]; exact LBle hcl2) (hQ1 _ _ ?_)
          try clear hQ1 Q1
          rw [cellsV_snoc (v := .vT [.vT [.vI (97 + v)], .vI 2, penV b, .vB false]) (c := ⟨some (97 + v), 2, b⟩) rfl]
          (try dsimp only [R_drop, R_load, R_getS, R_get0, R_const, R_onV, R_eq])
          refine r_t (by decide) ?_
          (try dsimp only [R_load, R_getS, R_get0, R_onV])
          refine r_append put_at fun Q1 hQ1 => ?_
          (try dsimp only [R_tup, R_const, R_load, R_getS, R_get0, R_done, R_popNS, R_popN0, R_onV])
          refine r_app put_at (by rw [cellsV_length, List.length_append]; exact LBle (Nat.le_trans (Nat.le_of_lt hcn) (by lia))) (hQ1 _ _ ?_)
          try clear hQ1 Q1
          rw [cellsV_snoc (v := .vT [.vT [], .vI 0, penV b, .vB false]) (c := ⟨none, 0, b⟩) rfl, put_put, List.append_assoc]
          (try dsimp only [R_drop, R_done, R_thenK, R_load, R_getS, R_get0, R_onV, R_add, R_store, R_setS, R_set0, R_nxK])
          refine q2 (k - 2) _ _ (by lia) ⟨cs ++ [⟨some (97 + v), 2, b⟩, ⟨none, 0, b⟩], G7, _, _, _, by rw [len_snoc2], by rw [List.length_append, List.length_cons, List.length_singleton]; lia, ?_, x7.own Fln, put_at, wf3.two rfl, put_rr nlq.symm hq7, fun k hk => put_rr (nlr k hk) (hr7 k hk)⟩
          exact (y7.keep (Kp.upd (fp := fun a => a = ln) rfl) (fun z => nlk (Or.inl z.symm)) (fun z => nlk (Or.inr z.symm))).weak (by rw [len_snoc2]; lia)
      · rw [decide_eq_false hc, if_neg (by decide)]
        have hcn : cs.length = n := by lia
        have hi2 : i ≤ 10 := by lia
        have hB6 : B - 100 * ((i + 1 : Nat) : Int) ≤ B - 100 * (i : Int) - 3 * (cs.length : Int) := by lia
        refine r_append hq3 fun Q1 hQ1 => ?_
        (try dsimp only [R_load, R_getS, R_get0, R_done, R_onV])
        refine r_app hq3 (by rw [tab_len]; exact LBle hi2) (hQ1 _ _ ?_)
        try clear hQ1 Q1
        have e8 : tab i (fun j => V.vR (rl j)) ++ [V.vR ln] = tab (i + 1) (fun j => V.vR (ext rl i ln j)) := by
          rw [tab_succ, ext_at]
          congr 1
          exact tab_eq fun j hj => by rw [ext_ne (Nat.ne_of_lt hj)]
        rw [e8]
        (try dsimp only [R_drop, R_done, R_nxK])
        refine qq _ _ ⟨⟨_, _, _, _, _, _, rfl⟩, ?_, G3, ext rl i ln, _, x4.own Fq, put_at, fun k hk => ?_, fun k hk1 hk2 j hj => ?_⟩
        · exact (y3.keep (Kp.upd (fp := fun a => a = q) rfl) (fun z => nq (Or.inl z.symm)) (fun z => nq (Or.inr z.symm))).weak hB6
        · by_cases c : k = i
          · subst c
            rw [ext_at, if_pos rfl]
            refine ⟨?_, wf3.done hcn, nlk, nlq⟩
            rw [tab_rowOf (Nat.le_of_eq hcn), hcn, Nat.sub_self, List.replicate_zero, List.append_nil]
            exact put_rr nlq hl3
          · have hk' : k < i := Nat.lt_of_le_of_ne (Nat.le_of_lt_succ hk) c
            rw [ext_ne c, if_neg c]
            exact ⟨put_rr (hrl k hk').2.2.2 (hr3 k hk'), (hrl k hk').2⟩
        · rw [if_neg (Nat.ne_of_gt hk1)]; exact hbl k (Nat.le_of_succ_le hk1) hk2 j hj
    · by_cases c : k = i
      · subst c; rw [if_pos rfl, rowOf_nil hj, hbl k (Nat.le_refl _) hk j hj]
      · rw [if_neg c]
  · intro _ S2 x00
    refine hide fun G0 g0 => ?_
    obtain ⟨⟨w1, w2, w3, w4, w5, w6, rfl⟩, y2, G2, rl, rws, x2, hq2, hrl, hbl⟩ := x00
    refine g0 ?_
    clear g0 G0
    refine ⟨trivial, ?_⟩
    (try dsimp only [R_endK, R_load, R_getS, R_get0, R_tup, R_ret, R_popNS, R_popN0, R_onV])
    exact h g q rl S2 G2 rws x2 ⟨hq2, fun i hi => (hrl i hi).1⟩ (fun i hi => (hrl i hi).2.1) y2 nq fun i hi => (hrl i hi).2.2.1
end Mine
end
section
open PySem PySem.W PyProof.Rows
set_option maxRecDepth 100000
set_option linter.unusedVariables false
set_option linter.unusedSimpArgs false
set_option maxHeartbeats 4000000
namespace Mine
variable {P : Params} {S S' : St} {Q : V → St → Prop} {d : Nat} {F : Addr → Prop} {g : Addr} {m n : Nat} {G : GI} {rows : Nat → Nat → Cell}
theorem WF.part {f : Nat → Cell} {l : Nat} (hw : WF n f) (hl : l < n) : WF n (partF n f l) := by
  have := (hw.cut (l := l) (r := n - 1) (by lia) (by lia)).1
  refine this.congr fun j hj => ?_
  unfold cut2F partF
  by_cases c : 0 < l ∧ (f l).w = 0 ∧ (j + 1 = l ∨ j = l)
  · rw [if_pos (Or.inl c), if_pos ⟨c.1, hl, c.2⟩]
  · rw [if_neg (by rintro (z | z); exact c z; lia), if_neg (fun z => c ⟨z.1, z.2.2⟩)]
noncomputable def cutR (n t l b r : Nat) (rows : Nat → Nat → Cell) : Nat → Nat → Cell := fun i => if t ≤ i ∧ i ≤ b then cut2F n (rows i) l r else rows i
noncomputable def srcR (n t l b r K : Nat) (p : Int) (up : Bool) (rows : Nat → Nat → Cell) : Nat → Nat → Cell := fun i j =>
  if up = true then (if i + K < b + 1 - t then cutR n t l b r rows (t + i + K) (j + l) else blank p) else (if i < K then blank p else cutR n t l b r rows (t + (i - K)) (j + l))
noncomputable def finR (n t l b r K : Nat) (p : Int) (up : Bool) (rows : Nat → Nat → Cell) (e : Nat) : Nat → Nat → Cell := fun i j =>
  if t ≤ i ∧ i < t + e then (if j < l then cutR n t l b r rows i j else if j ≤ r then srcR n t l b r K p up rows (i - t) (j - l) else cutR n t l b r rows i j) else cutR n t l b r rows i j
theorem fin_sc {t l b r K : Nat} {p : Int} {up : Bool} (htb : t ≤ b) (hl : l ≤ r) (hK : K ≤ b + 1 - t) : ∀ i j, finR n t l b r K p up rows (b + 1 - t) i j = (if up = true then scU n t l b r K p rows else scD n t l b r K p rows) i j := by
  intro i j
  unfold finR
  induction up using Bool.casesOn with
  | true =>
    simp only [if_true]
    unfold scU mixF
    by_cases c : t ≤ i ∧ i ≤ b
    · rw [if_pos (by lia), if_pos c]
      have ec : cutR n t l b r rows i = cut2F n (rows i) l r := by unfold cutR; rw [if_pos c]
      by_cases c1 : j < l
      · rw [if_pos c1, if_neg (by lia), ec]
      · by_cases c2 : j ≤ r
        · rw [if_neg c1, if_pos c2, if_pos ⟨by lia, c2⟩]
          unfold srcR
          rw [if_pos rfl]
          by_cases c3 : i + K ≤ b
          · rw [if_pos (by lia), if_pos c3]
            unfold cutR
            rw [if_pos (by lia), show t + (i - t) + K = i + K by lia, show j - l + l = j by lia]
          · rw [if_neg (by lia), if_neg c3]
        · rw [if_neg c1, if_neg c2, if_neg (by lia), ec]
    · rw [if_neg (by lia), if_neg c]
      unfold cutR; rw [if_neg c]
  | false =>
    simp only [Bool.false_eq_true, if_false]
    unfold scD mixF
    by_cases c : t ≤ i ∧ i ≤ b
    · rw [if_pos (by lia), if_pos c]
      have ec : cutR n t l b r rows i = cut2F n (rows i) l r := by unfold cutR; rw [if_pos c]
      by_cases c1 : j < l
      · rw [if_pos c1, if_neg (by lia), ec]
      · by_cases c2 : j ≤ r
        · rw [if_neg c1, if_pos c2, if_pos ⟨by lia, c2⟩]
          unfold srcR
          rw [if_neg (by decide)]
          by_cases c3 : t + K ≤ i
          · rw [if_neg (by lia), if_pos c3]
            unfold cutR
            rw [if_pos (by lia), show t + (i - t - K) = i - K by lia, show j - l + l = j by lia]
          · rw [if_pos (by lia), if_neg c3]
        · rw [if_neg c1, if_neg c2, if_neg (by lia), ec]
    · rw [if_neg (by lia), if_neg c]
      unfold cutR; rw [if_neg c]
theorem LL.cat {q q' q'' : Addr} {rl rl' : Nat → Addr} {a c : Nat} {f f' : Nat → Nat → Cell} (x : LL S q rl a n f) (y : LL S q' rl' c n f') (h : S q'' = some (.lst (tab a (fun i => V.vR (rl i)) ++ tab c (fun i => V.vR (rl' i))))) :
    LL S q'' (fun i => if i < a then rl i else rl' (i - a)) (a + c) n (fun i => if i < a then f i else f' (i - a)) := by
  refine ⟨?_, fun i hi => ?_⟩
  · rw [h, tab_app]
    congr 2
    refine tab_eq fun j _ => ?_
    by_cases c : j < a
    · rw [if_pos c, if_pos c]
    · rw [if_neg c, if_neg c]
  · by_cases c : i < a
    · simp only [c, if_true]; exact x.hr i c
    · simp only [c, if_false]; exact y.hr _ (by lia)
theorem LL.item {q : Addr} {rl : Nat → Addr} {k : V → Prop} {i : Nat} (x : LL S q rl m n rows) (hi : i < m) (h : k (.vR (rl i))) : Mine.item S (.vR q) (.vI i) k := by
  refine ⟨_, .vR (rl i), lst_of x.hq, ?_, h⟩
  unfold itemL
  rw [if_pos (by lia), Int.toNat_natCast, tab_get, if_pos hi]
/-- what was fresh at S0 and is there now -/
noncomputable def NewL (S0 : St) (q : Addr) (rl : Nat → Addr) (m : Nat) : Prop := S0 q = none ∧ ∀ i, i < m → S0 (rl i) = none
theorem tab_ext {rl : Nat → Addr} {i : Nat} {a : Addr} : tab i (fun j => V.vR (rl j)) ++ [V.vR a] = tab (i + 1) (fun j => V.vR (ext rl i a j)) := by
  rw [tab_succ, ext_at]
  congr 1
  exact tab_eq fun j hj => by rw [ext_ne (Nat.ne_of_lt hj)]
theorem cutR_part {t l b r i : Nat} (hl : l ≤ r) (hr : l < n) (c : t ≤ i ∧ i ≤ b) : partF n (partF n (rows i) l) (r + 1) = cutR n t l b r rows i := by
  unfold cutR
  rw [part2 hl hr, if_pos c]
theorem cutR_out {t l b r i : Nat} (c : ¬ (t ≤ i ∧ i ≤ b)) : rows i = cutR n t l b r rows i := (if_neg c).symm
theorem srcR_up {t l b r K i j : Nat} {p : Int} : (if i < b + 1 - t - K then (fun i j => cutR n t l b r rows (t + (i + K)) (j + l)) i else (fun _ _ => blank p) (i - (b + 1 - t - K))) j = srcR n t l b r K p true rows i j := by
  unfold srcR
  rw [if_pos rfl]
  by_cases c : i < b + 1 - t - K
  · rw [if_pos c, if_pos (by lia), Nat.add_assoc]
  · rw [if_neg c, if_neg (by lia)]
theorem srcR_dn {t l b r K i j : Nat} {p : Int} : (if i < K then (fun _ _ => blank p) i else (fun i j => cutR n t l b r rows (t + i) (j + l)) (i - K)) j = srcR n t l b r K p false rows i j := by
  unfold srcR
  rw [if_neg (show ¬ (false = true) by decide)]
  by_cases c : i < K
  · rw [if_pos c, if_pos c]
  · rw [if_neg c, if_neg c]
theorem finR_zero {t l b r K : Nat} {p : Int} {up : Bool} {i : Nat} : cutR n t l b r rows i = finR n t l b r K p up rows 0 i := by
  funext j; unfold finR; rw [if_neg (by lia)]
theorem finR_at {t l b r K : Nat} {p : Int} {up : Bool} {i : Nat} : finR n t l b r K p up rows i (t + i) = cutR n t l b r rows (t + i) := by
  funext j; unfold finR; rw [if_neg (by lia)]
theorem finR_ne {t l b r K : Nat} {p : Int} {up : Bool} {i j : Nat} (c : ¬ j = t + i) : finR n t l b r K p up rows (i + 1) j = finR n t l b r K p up rows i j := by
  funext jj; unfold finR
  by_cases c2 : t ≤ j ∧ j < t + i
  · rw [if_pos c2, if_pos (by lia)]
  · rw [if_neg c2, if_neg (by lia)]
theorem finR_row {t l b r K : Nat} {p : Int} {up : Bool} {i : Nat} (hl : l ≤ r) (hr : r < n) :
    (tab l fun j => cellV (cutR n t l b r rows (t + i) j)) ++ (tab (r + 1 - l) fun j => cellV (srcR n t l b r K p up rows i j)) ++ (tab (n - (r + 1)) fun j => cellV (cutR n t l b r rows (t + i) (j + (r + 1)))) = cellsV (tab n (finR n t l b r K p up rows (i + 1) (t + i))) := by
  rw [tab_app, tab_app, cellsV_tab]
  refine tab_eq' (by lia) fun j hj => ?_
  unfold finR
  rw [if_pos (show t ≤ t + i ∧ t + i < t + (i + 1) by lia)]
  by_cases c1 : j < l
  · rw [if_pos (by lia), if_pos c1, if_pos c1]
  · by_cases c2 : j ≤ r
    · rw [if_pos (by lia), if_neg c1, if_neg c1, if_pos c2, Nat.add_sub_cancel_left]
    · rw [if_neg (by lia), if_neg c1, if_neg c2]
      congr 2; lia
theorem scrolled_ok {q : Addr} {rl : Nat → Addr} {t l b r k : Nat} {p : Int} {up : Bool} (x : LL S q rl m n rows) (hW : ∀ i, i < m → WF n (rows i)) (hm2 : m ≤ 10) (hn2 : n ≤ 10) (htb : t ≤ b) (hb : b < m) (hl : l ≤ r) (hr : r < n) (hk : 1 ≤ k)
    (h : ∀ q1 rl1 q2 S', Kp none_ S S' → LL S' q1 rl1 m n (if up = true then scU n t l b r (min k (b + 1 - t)) p rows else scD n t l b r (min k (b + 1 - t)) p rows) → S q1 = none → (∀ i, i < m → rl1 i = rl i ∨ S (rl1 i) = none) → S q2 = none →
      LL S' q2 (fun i => rl (t + i)) (if (l = 0 ∧ r + 1 = n) ∧ up = true then min k (b + 1 - t) else 0) n (fun i => rows (t + i)) → Q (.vT [.vR q1, .vR q2]) S') :
    WC (KK P) (d + 5) (.ref 645) [.vR q, .vT [.vI t, .vI l, .vI b, .vI r], .vI k, penV p, .vB up] S Q := by
  have hLB : ∀ {i : Nat}, i ≤ 100 → i ≤ LB := fun h => Nat.le_trans h (by decide)
  obtain ⟨K, hK⟩ : ∃ K, K = min k (b + 1 - t) := ⟨_, rfl⟩
  rw [← hK] at h
  have eK : min (k : Int) ((b + 1 - t : Nat) : Int) = (K : Int) := by lia
  have hKb : K ≤ b + 1 - t := by lia
  have hK10 : K ≤ 10 := by lia
  have hm0 : 0 < m := by lia
  have hln : l < n := Nat.lt_of_le_of_lt hl hr
  have hbt : b + 1 - t ≤ 10 := by lia
  have hw1 : (r : Int) + 1 = n ↔ r + 1 = n := by lia
  clear hK hk
  refine RC_go (cf645 P) ?_
  unfold code645
  refine r_join (fun s e S' => s = [.vB (decide (l = 0 ∧ r + 1 = n))] ∧ e = [some (.vR q), some (.vT [.vI t, .vI l, .vI b, .vI r]), some (.vI k), some (penV p), some (.vB up), some (.vI t), some (.vI l), some (.vI b), some (.vI r), none, none, none, none, none, none, none, none] ∧ S' = S) (fun N' hN => r_if (fun c1 => ?_) fun c1 => ?_) ?_
  · have c1 : l = 0 := by lia
    refine fun Q1 hQ1 => LL.item (i := 0) x hm0 (hQ1 _ ?_)
    try clear hQ1 Q1
    refine r_lenC (x.hr 0 hm0) ?_
    rw [tab_len]
    exact hN _ _ _ ⟨vB_eq ⟨fun z => ⟨c1, hw1.mp z⟩, fun z => hw1.mpr z.2⟩, rfl, rfl⟩
  · skip
    rw [decide_eq_false c1]
    exact hN _ _ _ ⟨vB_F fun z => c1 (by rw [z.1]; rfl), rfl, rfl⟩
  clear hw1
  rintro _ _ S ⟨rfl, rfl, rfl⟩
  refine fun q1 hq1 => ?_
  have b0 := put_fr (o' := .lst []) hq1 x.hq
  have hS1 : put S q1 (.lst []) q1 = some (.lst []) := put_at
  have kp1 : Kp none_ S (put S q1 (.lst [])) := Kp.new hq1.self
  generalize put S q1 (.lst []) = S1 at *
  refine r_forE (lst_of b0) (rList (fun i e S' => (∃ w1 w2, e = [some (.vR q), some (.vT [.vI t, .vI l, .vI b, .vI r]), some (.vI k), some (penV p), some (.vB up), some (.vI t), some (.vI l), some (.vI b), some (.vI r), some (.vB (decide (l = 0 ∧ r + 1 = n))), some (.vR q1), w1, w2, none, none, none, none]) ∧ Kp none_ S S' ∧ i ≤ m ∧ ∃ rlf : Nat → Addr, LL S' q1 rlf i n (cutR n t l b r rows) ∧ ∀ k, k < i → (rlf k = rl k ∨ S (rlf k) = none) ∧ rlf k ≠ q1) ?_ ?_ _ _
    ⟨⟨_, _, rfl⟩, kp1, Nat.zero_le _, fun _ => 0, ⟨hS1, fun i hi => absurd hi (Nat.not_lt_zero _)⟩, fun i hi => absurd hi (Nat.not_lt_zero _)⟩)
  · clear b0 hS1 kp1 h eK
    intro i v u2_ S2 hv hI_
    refine hide fun G_ hG_ => ?_
    obtain ⟨⟨w1, w2, he0_⟩, kp2, him, rlf, y2, hf⟩ := hI_
    subst he0_
    refine hG_ ?_
    clear hG_ G_
    obtain ⟨u, hu, rfl⟩ := enum_get hv
    rw [tab_get] at hu
    by_cases hi : i < m
    · rw [if_pos hi] at hu
      cases hu
      refine ⟨lst_of (kp2.at x.hq id), fun Q' qq => ?_⟩
      have hrl := kp2.at (x.hr i hi) id
      refine r_append y2.hq fun Q1 hQ1 => ?_
      refine r_join (fun s e S' => s = [.vB (decide (t ≤ i ∧ i ≤ b))] ∧ e = [some (.vR q), some (.vT [.vI t, .vI l, .vI b, .vI r]), some (.vI k), some (penV p), some (.vB up), some (.vI t), some (.vI l), some (.vI b), some (.vI r), some (.vB (decide (l = 0 ∧ r + 1 = n))), some (.vR q1), some (.vI i), some (.vR (rl i)), none, none, none, none] ∧ S' = S2) (fun N' hN => r_if (fun c1 => ?_) fun c1 => ?_) ?_
      · skip
        exact hN _ _ _ ⟨vB_eq ⟨fun z => ⟨Int.ofNat_le.mp c1, Int.ofNat_le.mp z⟩, fun z => Int.ofNat_le.mpr z.2⟩, rfl, rfl⟩
      · skip
        exact hN _ _ _ ⟨vB_F fun z => c1 (Int.ofNat_le.mpr z.1), rfl, rfl⟩
      rintro _ _ S2 ⟨rfl, rfl, rfl⟩
      refine r_join (fun s e S' => ∃ a, s = [.vR a] ∧ e = [some (.vR q), some (.vT [.vI t, .vI l, .vI b, .vI r]), some (.vI k), some (penV p), some (.vB up), some (.vI t), some (.vI l), some (.vI b), some (.vI r), some (.vB (decide (l = 0 ∧ r + 1 = n))), some (.vR q1), some (.vI i), some (.vR (rl i)), none, none, none, none] ∧ Kp none_ S2 S' ∧ (a = rl i ∨ S2 a = none) ∧ S' a = some (.lst (cellsV (tab n (cutR n t l b r rows i))))) (fun N' hN => r_if (fun c => ?_) fun c => ?_) ?_
      · skip
        refine fun Q2 hQ2 => cut_ok hrl hn2 (hW i hi) fun a S3 k3 ha ha3 => hQ2 _ _ ?_
        try clear hQ2 Q2
        (try dsimp only [R_load, R_getS, R_get0, R_const, R_onV, R_add])
        rw [show ((r : Int) + 1) = ((r + 1 : Nat) : Int) from rfl]
        refine fun Q2 hQ2 => cut_ok ha3 hn2 ((hW i hi).part hln) fun a2 S4 k4 ha2 ha4 => hQ2 _ _ ?_
        try clear hQ2 Q2
        rw [cutR_part hl hln c] at ha4
        refine hN _ _ _ ⟨a2, rfl, rfl, k3.trans k4, ?_, ha4⟩
        rcases ha2 with rfl | z
        · exact ha
        · exact Or.inr (k3.back z)
      · skip
        exact hN _ _ _ ⟨rl i, rfl, rfl, Kp.refl, Or.inl rfl, by rw [← cutR_out c]; exact hrl⟩
      intro u0_ u1_ S3 hI_
      refine hide fun G_ hG_ => ?_
      obtain ⟨a, he0_, he1_, k3, ha, ha3⟩ := hI_
      subst he0_
      subst he1_
      refine hG_ ?_
      clear hG_ G_
      have hq3 := k3.at y2.hq id
      have naq : a ≠ q1 := by
        rcases ha with rfl | z
        · intro z; have := x.hr i hi; rw [z, hq1.self] at this; cases this
        · rintro rfl; rw [y2.hq] at z; cases z
      refine r_app hq3 (by rw [tab_len]; exact hLB (by lia)) (hQ1 _ _ ?_)
      try clear hQ1 Q1
      rw [tab_ext]
      refine qq _ _ ⟨⟨_, _, rfl⟩, (kp2.trans k3).later hq1.self, hi, ext rlf i a, ⟨put_at, fun k hk => ?_⟩, fun k hk => ?_⟩
      · by_cases c : k = i
        · subst c; rw [ext_at]; exact put_rr naq ha3
        · have hk' := Nat.lt_of_le_of_ne (Nat.le_of_lt_succ hk) c
          rw [ext_ne c]; exact put_rr (hf k hk').2 (k3.at (y2.hr k hk') id)
      · by_cases c : k = i
        · subst c; rw [ext_at]
          refine ⟨ha.imp id fun z => kp2.back z, naq⟩
        · rw [ext_ne c]; exact hf k (Nat.lt_of_le_of_ne (Nat.le_of_lt_succ hk) c)
    · rw [if_neg hi] at hu; cases hu
  clear b0 hS1 kp1 S1
  intro u0_ S2 hI_
  refine hide fun G_ hG_ => ?_
  obtain ⟨⟨w1, w2, he0_⟩, kp2, him, rlf, y2, hf⟩ := hI_
  subst he0_
  refine hG_ ?_
  clear hG_ G_
  rw [enum_len, tab_len] at y2 hf
  refine ⟨lst_of (kp2.at x.hq id), ?_⟩
  clear him hW
  refine ⟨_, _, rfl, lst_of y2.hq, fun q3 hq3 => ?_⟩
  rw [slice_tab (a := (t : Int)) (b := (b : Int) + 1) (l := t) (k := b + 1) rfl rfl (by lia) (by lia)]
  have y3 := y2.keep (Kp.new (fp := none_) (o := .lst (tab (b + 1 - t) fun j => V.vR (rlf (j + t)))) hq3.self) id fun _ _ => id
  have c3 : put S2 q3 (.lst (tab (b + 1 - t) fun j => V.vR (rlf (j + t)))) q3 = _ := put_at
  have kp23 : Kp none_ S2 (put S2 q3 (.lst (tab (b + 1 - t) fun j => V.vR (rlf (j + t))))) := Kp.new hq3.self
  generalize put S2 q3 (.lst (tab (b + 1 - t) fun j => V.vR (rlf (j + t)))) = S3 at *
  refine r_compL (lst_of c3) fun Q1 hQ1 => comp_list (fun i acc S' => ∃ rli : Nat → Addr, acc = tab i (fun j => .vR (rli j)) ∧ Kp none_ S3 S' ∧ ∀ j, j < i → S3 (rli j) = none ∧ S' (rli j) = some (.lst (cellsV (tab (r + 1 - l) (fun jj => cutR n t l b r rows (t + j) (jj + l)))))) (by rw [tab_len]; exact Nat.le_trans hbt (by decide)) (fun i acc S ⟨_, e, _⟩ => by rw [e, tab_len]; exact Nat.le_refl _) ?_ ?_ S3 ⟨fun _ => 0, rfl, Kp.refl, fun j hj => absurd hj (Nat.not_lt_zero _)⟩
  · clear hQ1 Q1 h
    intro i v u2_ S4 hv hI_
    refine hide fun G_ hG_ => ?_
    obtain ⟨rli, he0_, k4, h4⟩ := hI_
    subst he0_
    refine hG_ ?_
    clear hG_ G_
    rw [tab_get] at hv
    by_cases hi : i < b + 1 - t
    · rw [if_pos hi] at hv
      cases hv
      refine ⟨lst_of (k4.at c3 id), fun Q' qq => ?_⟩
      have hrow := k4.at (y3.hr (i + t) (by lia)) id
      rw [cellsV_tab] at hrow
      refine ⟨_, _, rfl, lst_of hrow, fun r5 hr5 => ?_⟩
      rw [slice_tab (a := (l : Int)) (b := (r : Int) + 1) (l := l) (k := r + 1) rfl rfl (Nat.le_of_lt hln) hr]
      refine qq _ _ ⟨ext rli i r5, tab_ext, k4.newL hr5, fun j hj => ?_⟩
      by_cases c : j = i
      · subst c; rw [ext_at, put_at, cellsV_tab]
        exact ⟨k4.back hr5.self, by rw [Nat.add_comm t j]⟩
      · have hj' := Nat.lt_of_le_of_ne (Nat.le_of_lt_succ hj) c
        rw [ext_ne c]; exact ⟨(h4 j hj').1, put_fr hr5 (h4 j hj').2⟩
    · rw [if_neg hi] at hv; cases hv
  intro u0_ S4 hI_
  refine hide fun G_ hG_ => ?_
  obtain ⟨rli, he0_, k4, h4⟩ := hI_
  subst he0_
  refine hG_ ?_
  clear hG_ G_
  rw [tab_len] at h4 ⊢
  refine ⟨lst_of (k4.at c3 id), fun q4 hq4 hq44 => hQ1 _ _ ?_⟩
  try clear hQ1 Q1
  have k34 := k4.newL' (o := .lst (tab (b + 1 - t) fun j => V.vR (rli j))) hq44
  have y4 : LL (put S4 q4 (.lst (tab (b + 1 - t) fun j => V.vR (rli j)))) q4 rli (b + 1 - t) (r + 1 - l) (fun i j => cutR n t l b r rows (t + i) (j + l)) := ⟨put_at, fun j hj => put_fn hq44 (h4 j hj).2⟩
  have n4 : NewL S2 q4 rli (b + 1 - t) := ⟨kp23.back hq4.self, fun j hj => kp23.back (h4 j hj).1⟩
  generalize put S4 q4 (.lst (tab (b + 1 - t) fun j => V.vR (rli j))) = S5 at *
  have kp25 := kp23.trans k34
  clear kp23 k34 k4 h4 hq4 hq44 c3 y3 hq3
  refine r_len (lst_of y4.hq) ?_
  rw [tab_len]
  refine r_min ?_
  rw [eK]
  obtain ⟨B1, B2⟩ := big (i := K) rfl (Nat.le_trans hK10 (by decide))
  refine r_comp1 B1 B2 fun Q1 hQ1 => comp_up (b := K) (fun i acc S' => ∃ rlb : Nat → Addr, acc = tab i (fun j => .vR (rlb j)) ∧ Kp none_ S5 S' ∧ ∀ j, j < i → S5 (rlb j) = none ∧ S' (rlb j) = some (.lst (cellsV (tab (r + 1 - l) (fun _ => blank p))))) rfl (Nat.le_trans hK10 (by decide)) (fun i acc S ⟨_, e, _⟩ => by rw [e, tab_len]; exact Nat.le_refl _) ?_ ?_ S5 ⟨fun _ => 0, rfl, Kp.refl, fun j hj => absurd hj (Nat.not_lt_zero _)⟩
  · clear hQ1 Q1 h eK y4 n4 kp25 y2 hf kp2
    intro i u1_ S6 hi hI_
    refine hide fun G_ hG_ => ?_
    obtain ⟨rlb, he0_, k6, h6⟩ := hI_
    subst he0_
    refine hG_ ?_
    clear hG_ G_
    refine ⟨trivial, fun Q' qq => ?_⟩
    have eN : (((r : Int) + 1 - (l : Int)).toNat) = r + 1 - l := by lia
    have B3 : -1000 ≤ (r : Int) + 1 - l := by lia
    have B4 : (r : Int) + 1 - l ≤ 1000 := by lia
    refine fun Q2 hQ2 => blank_cell_ok (hQ2 _ _ ?_)
    try clear hQ2 Q2
    refine fun r7 hr7 => ?_
    have hl7 : lstOf (put S6 r7 (.lst [cellV (blank p)])) r7 = some [cellV (blank p)] := lst_of put_at
    refine fun Q2 hQ2 => bin_rep hl7 ?_ B3 B4 fun r8 hr8 => hQ2 _ _ ?_
    try clear hQ2 Q2
    · rw [repL_one, eN, List.length_replicate]; exact hLB (by lia)
    · rw [repL_one, eN]
      have k8 := (k6.newL (o := .lst [cellV (blank p)]) hr7).newL (o := .lst (List.replicate (r + 1 - l) (cellV (blank p)))) hr8
      refine qq _ _ ⟨ext rlb i r8, tab_ext, k8, fun j hj => ?_⟩
      by_cases c : j = i
      · subst c; rw [ext_at, put_at, cellsV_tab, tab_rep]
        exact ⟨(k6.newL hr7).back hr8.self, rfl⟩
      · have hj' := Nat.lt_of_le_of_ne (Nat.le_of_lt_succ hj) c
        rw [ext_ne c]; exact ⟨(h6 j hj').1, put_fr hr8 (put_fr hr7 (h6 j hj').2)⟩
  intro u0_ S6 hI_
  refine hide fun G_ hG_ => ?_
  obtain ⟨rlb, he0_, k6, h6⟩ := hI_
  subst he0_
  refine hG_ ?_
  clear hG_ G_
  refine ⟨trivial, fun q5 hq5 hq55 => hQ1 _ _ ?_⟩
  try clear hQ1 Q1
  clear B1 B2 eK
  have k56 := k6.newL' (o := .lst (tab K fun j => V.vR (rlb j))) hq55
  have y6 : LL (put S6 q5 (.lst (tab K fun j => V.vR (rlb j)))) q5 rlb K (r + 1 - l) (fun _ _ => blank p) := ⟨put_at, fun j hj => put_fn hq55 (h6 j hj).2⟩
  have n6 : NewL S2 q5 rlb K := ⟨kp25.back hq5.self, fun j hj => kp25.back (h6 j hj).1⟩
  generalize put S6 q5 (.lst (tab K fun j => V.vR (rlb j))) = S7 at *
  have y47 := y4.keep k56 id fun _ _ => id
  have kp27 := kp25.trans k56
  clear kp25 k56 k6 h6 hq5 hq55 y4
  (try dsimp only [R_setS, R_set0, R_store, R_load, R_getS, R_get0, R_onV, R_tst])
  refine r_join (fun s e S' => ∃ (q6 : Addr) (rl6 : Nat → Addr), s = [.vR q6] ∧ e = [some (.vR q), some (.vT [.vI t, .vI l, .vI b, .vI r]), some (.vI K), some (penV p), some (.vB up), some (.vI t), some (.vI l), some (.vI b), some (.vI r), some (.vB (decide (l = 0 ∧ r + 1 = n))), some (.vR q1), w1, w2, some (.vR q4), none, some (.vR q5), none] ∧ Kp none_ S7 S' ∧ NewL S2 q6 rl6 (b + 1 - t) ∧ LL S' q6 rl6 (b + 1 - t) (r + 1 - l) (srcR n t l b r K p up rows)) (fun N' hN => ?_) ?_
  · clear h y2 hf kp2
    have lle : ∀ {a c : Nat} {f g : Nat → V}, a + c ≤ 100 → (tab a f ++ tab c g).length ≤ LB := fun h => by rw [List.length_append, tab_len, tab_len]; exact hLB h
    induction up using Bool.casesOn with
    | true =>
      refine ⟨_, _, rfl, lst_of y47.hq, fun r8 hr8 => ?_⟩
      rw [slice_tab_hi (a := (K : Int)) (l := K) rfl hKb]
      have c8 : put S7 r8 (.lst (tab (b + 1 - t - K) fun j => V.vR (rli (j + K)))) r8 = _ := put_at
      have y8 : LL (put S7 r8 (.lst (tab (b + 1 - t - K) fun j => V.vR (rli (j + K))))) r8 (fun j => rli (j + K)) (b + 1 - t - K) (r + 1 - l) (fun i j => cutR n t l b r rows (t + (i + K)) (j + l)) := ⟨c8, fun j hj => put_fr hr8 (y47.hr (j + K) (by lia))⟩
      have y68 := y6.keep (Kp.new (fp := none_) (o := .lst (tab (b + 1 - t - K) fun j => V.vR (rli (j + K)))) hr8.self) id fun _ _ => id
      have k8 : Kp none_ S7 (put S7 r8 (.lst (tab (b + 1 - t - K) fun j => V.vR (rli (j + K))))) := Kp.new hr8.self
      generalize put S7 r8 (.lst (tab (b + 1 - t - K) fun j => V.vR (rli (j + K)))) = S8 at *
      have eL : b + 1 - t - K + K = b + 1 - t := Nat.sub_add_cancel hKb
      refine fun Q1 hQ1 => bin_cat (lst_of y8.hq) (lst_of y68.hq) (lle (by lia)) fun r9 hr9 => hQ1 _ _ ?_
      try clear hQ1 Q1
      have kN := Kp.new (fp := none_) (o := .lst (tab (b + 1 - t - K) (fun j => V.vR (rli (j + K))) ++ tab K fun j => V.vR (rlb j))) hr9.self
      have y9 := (y8.keep kN id fun _ _ => id).cat (y68.keep kN id fun _ _ => id) put_at
      rw [eL] at y9
      refine hN _ _ _ ⟨r9, _, rfl, rfl, k8.trans kN, ⟨kp27.back (k8.back hr9.self), fun i hi => ?_⟩, y9.congr fun i j hi hj => srcR_up⟩
      by_cases c : i < b + 1 - t - K
      · rw [if_pos c]; exact n4.2 _ (by lia)
      · rw [if_neg c]; exact n6.2 _ (by lia)
    | false =>
      refine r_len (lst_of y47.hq) ?_
      rw [tab_len]
      (try dsimp only [R_done, R_load, R_getS, R_get0, R_onV, R_sub, R_chk])
      rw [show (((b + 1 - t : Nat) : Int) - (K : Int)) = ((b + 1 - t - K : Nat) : Int) from (Int.ofNat_sub hKb).symm]
      refine ⟨_, _, rfl, lst_of y47.hq, fun r8 hr8 => ?_⟩
      rw [slice_tab_lo (k := b + 1 - t - K) rfl (Nat.sub_le _ _)]
      have c8 : put S7 r8 (.lst (tab (b + 1 - t - K) fun j => V.vR (rli j))) r8 = _ := put_at
      have y8 : LL (put S7 r8 (.lst (tab (b + 1 - t - K) fun j => V.vR (rli j)))) r8 rli (b + 1 - t - K) (r + 1 - l) (fun i j => cutR n t l b r rows (t + i) (j + l)) := ⟨c8, fun j hj => put_fr hr8 (y47.hr j (Nat.lt_of_lt_of_le hj (Nat.sub_le _ _)))⟩
      have y68 := y6.keep (Kp.new (fp := none_) (o := .lst (tab (b + 1 - t - K) fun j => V.vR (rli j))) hr8.self) id fun _ _ => id
      have k8 : Kp none_ S7 (put S7 r8 (.lst (tab (b + 1 - t - K) fun j => V.vR (rli j)))) := Kp.new hr8.self
      generalize put S7 r8 (.lst (tab (b + 1 - t - K) fun j => V.vR (rli j))) = S8 at *
      have eL : K + (b + 1 - t - K) = b + 1 - t := Nat.add_sub_of_le hKb
      refine fun Q1 hQ1 => bin_cat (lst_of y68.hq) (lst_of y8.hq) (lle (by lia)) fun r9 hr9 => hQ1 _ _ ?_
      try clear hQ1 Q1
      have kN := Kp.new (fp := none_) (o := .lst (tab K (fun j => V.vR (rlb j)) ++ tab (b + 1 - t - K) fun j => V.vR (rli j))) hr9.self
      have y9 := (y68.keep kN id fun _ _ => id).cat (y8.keep kN id fun _ _ => id) put_at
      rw [eL] at y9
      refine hN _ _ _ ⟨r9, _, rfl, rfl, k8.trans kN, ⟨kp27.back (k8.back hr9.self), fun i hi => ?_⟩, y9.congr fun i j hi hj => srcR_dn⟩
      by_cases c : i < K
      · rw [if_pos c]; exact n6.2 _ c
      · rw [if_neg c]; exact n4.2 _ (by lia)
  clear y6 n6 n4 y47
  intro u0_ u1_ S8 hI_
  refine hide fun G_ hG_ => ?_
  obtain ⟨q6, rl6, he0_, he1_, k8, n8, y8⟩ := hI_
  subst he0_
  subst he1_
  refine hG_ ?_
  clear hG_ G_
  have kp28 := kp27.trans k8
  have y28 := y2.keep kp28 id fun _ _ => id
  have nq6 : q6 ≠ q1 := by rintro rfl; have := n8.1; rw [y2.hq] at this; cases this
  have nr6 : ∀ i, i < b + 1 - t → rl6 i ≠ q1 := fun i hi z => by have := n8.2 i hi; rw [z, y2.hq] at this; cases this
  have kp8 := kp2.trans kp28
  clear kp27 k8 n8 y2 kp28 kp2
  refine r_forE (lst_of y8.hq) (rList (fun i e S' => (∃ w3 w4, e = [some (.vR q), some (.vT [.vI t, .vI l, .vI b, .vI r]), some (.vI K), some (penV p), some (.vB up), some (.vI t), some (.vI l), some (.vI b), some (.vI r), some (.vB (decide (l = 0 ∧ r + 1 = n))), some (.vR q1), w1, w2, some (.vR q6), w3, some (.vR q5), w4]) ∧ Kp none_ S S' ∧ LL S' q6 rl6 (b + 1 - t) (r + 1 - l) (srcR n t l b r K p up rows) ∧ ∃ rl7 : Nat → Addr, LL S' q1 rl7 m n (finR n t l b r K p up rows i) ∧ ∀ k, k < m → (rl7 k = rl k ∨ S (rl7 k) = none) ∧ rl7 k ≠ q1) ?_ ?_ _ _
    ⟨⟨_, _, rfl⟩, kp8, y8, rlf, y28.congr fun i j _ _ => congrFun finR_zero j, hf⟩)
  · clear h y8 y28 hf kp8
    intro i v u2_ S9 hv hI_
    refine hide fun G_ hG_ => ?_
    obtain ⟨⟨w3, w4, he0_⟩, kp9, y9, rl7, z9, hf9⟩ := hI_
    subst he0_
    refine hG_ ?_
    clear hG_ G_
    obtain ⟨u, hu, rfl⟩ := enum_get hv
    rw [tab_get] at hu
    by_cases hi : i < b + 1 - t
    · rw [if_pos hi] at hu
      cases hu
      refine ⟨lst_of y9.hq, fun Q' qq => ?_⟩
      have hti : t + i < m := by lia
      have hrow := z9.hr (t + i) hti
      rw [finR_at, cellsV_tab] at hrow
      have hpart := y9.hr i hi
      rw [cellsV_tab] at hpart
      (try dsimp only [R_turn2, R_setS, R_set0, R_load, R_getS, R_get0, R_onV, R_add])
      rw [show ((t : Int) + (i : Int)) = ((t + i : Nat) : Int) from rfl]
      refine fun Q1 hQ1 => z9.item hti (hQ1 _ ?_)
      try clear hQ1 Q1
      refine ⟨_, _, rfl, lst_of hrow, fun r1 hr1 => ?_⟩
      rw [slice_tab_lo (k := l) rfl (Nat.le_of_lt hln)]
      have eABC := finR_row (rows := rows) (t := t) (b := b) (K := K) (p := p) (up := up) (i := i) hl hr
      have lA : ((tab l fun j => cellV (cutR n t l b r rows (t + i) j)) ++ (tab (r + 1 - l) fun j => cellV (srcR n t l b r K p up rows i j))).length ≤ 50 := by
        rw [List.length_append, tab_len, tab_len]; lia
      refine fun Q1 hQ1 => bin_cat (lst_of put_at) (lst_of (put_fr hr1 hpart)) (hLB (Nat.le_trans lA (by decide))) fun r2 hr2 => hQ1 _ _ ?_
      try clear hQ1 Q1
      generalize (tab l fun j => cellV (cutR n t l b r rows (t + i) j)) = A at *
      generalize (tab (r + 1 - l) fun j => cellV (srcR n t l b r K p up rows i j)) = BB at *
      have kx : Kp none_ S9 (put (put S9 r1 (.lst A)) r2 (.lst (A ++ BB))) := (Kp.new hr1.self).newL hr2
      have c2 : put (put S9 r1 (.lst A)) r2 (.lst (A ++ BB)) r2 = _ := put_at
      generalize put (put S9 r1 (.lst A)) r2 (.lst (A ++ BB)) = S10 at *
      have z10 := z9.keep kx id fun _ _ => id
      have hrow10 := kx.at hrow id
      (try dsimp only [R_load, R_getS, R_get0, R_onV, R_add])
      rw [show ((t : Int) + (i : Int)) = ((t + i : Nat) : Int) from rfl]
      refine fun Q1 hQ1 => z10.item hti (hQ1 _ ?_)
      try clear hQ1 Q1
      refine ⟨_, _, rfl, lst_of hrow10, fun r3 hr3 => ?_⟩
      rw [slice_tab_hi (a := (r : Int) + 1) (l := r + 1) rfl hr]
      have lC : (A ++ BB ++ (tab (n - (r + 1)) fun j => cellV (cutR n t l b r rows (t + i) (j + (r + 1))))).length ≤ 100 := by
        rw [List.length_append, tab_len]; lia
      generalize (tab (n - (r + 1)) fun j => cellV (cutR n t l b r rows (t + i) (j + (r + 1)))) = C at *
      refine fun Q1 hQ1 => bin_cat (lst_of (put_fr hr3 c2)) (lst_of put_at) (hLB lC) fun r4 hr4 => hQ1 _ _ ?_
      try clear hQ1 Q1
      have kx2 := (kx.newL (o := .lst C) hr3).newL (o := .lst (A ++ BB ++ C)) hr4
      have c4 : put (put S10 r3 (.lst C)) r4 (.lst (A ++ BB ++ C)) r4 = _ := put_at
      have n4' : S9 r4 = none := (kx.newL (o := .lst C) hr3).back hr4.self
      generalize put (put S10 r3 (.lst C)) r4 (.lst (A ++ BB ++ C)) = S11 at *
      have z11 := z9.keep kx2 id fun _ _ => id
      have nr4 : r4 ≠ q1 := by rintro rfl; rw [z9.hq] at n4'; cases n4'
      have y11 := y9.keep kx2 id fun _ _ => id
      have kp11 := kp9.trans kx2
      clear z10 hrow10 lA lC kx kx2 c2 hrow hpart y9 hr1 hr2 hr3 hr4
      rw [eABC] at c4
      (try dsimp only [R_load, R_getS, R_get0, R_onV, R_add])
      rw [show ((t : Int) + (i : Int)) = ((t + i : Nat) : Int) from rfl]
      refine fun Q1 hQ1 => ⟨_, t + i, z11.hq, by unfold setIx; rw [if_pos nat0, tab_len, if_pos (Int.ofNat_lt.mpr hti)]; rfl, hQ1 _ ?_⟩
      try clear hQ1 Q1
      have eset : (tab m fun j => if j = t + i then V.vR r4 else V.vR (rl7 j)) = tab m (fun j => V.vR (ext rl7 (t + i) r4 j)) := tab_eq fun j _ => by
        by_cases c : j = t + i
        · rw [if_pos c, c, ext_at]
        · rw [if_neg c, ext_ne c]
      rw [tab_set, eset]
      refine qq _ _ ⟨⟨_, _, rfl⟩, kp11.later hq1.self, ⟨put_rr nq6 y11.hq, fun j hj => put_rr (nr6 j hj) (y11.hr j hj)⟩, ext rl7 (t + i) r4, ⟨put_at, fun j hj => ?_⟩, fun j hj => ?_⟩
      · by_cases c : j = t + i
        · rw [c, ext_at]; exact put_rr nr4 c4
        · rw [ext_ne c, finR_ne c]
          exact put_rr (hf9 j hj).2 (z11.hr j hj)
      · by_cases c : j = t + i
        · rw [c, ext_at]; exact ⟨Or.inr (kp9.back n4'), nr4⟩
        · rw [ext_ne c]; exact hf9 j hj
    · rw [if_neg hi] at hu; cases hu
  clear y8 y28 hf kp8
  intro u0_ S9 hI_
  refine hide fun G_ hG_ => ?_
  obtain ⟨⟨w3, w4, he0_⟩, kp9, y9, rl7, z9, hf9⟩ := hI_
  subst he0_
  refine hG_ ?_
  clear hG_ G_
  rw [enum_len, tab_len] at z9
  refine ⟨lst_of y9.hq, ?_⟩
  have z10 := z9.congr fun i j _ _ => fin_sc htb hl hKb i j
  have fin : ∀ q2 S10, Kp none_ S9 S10 → S9 q2 = none → LL S10 q2 (fun i => rl (t + i)) (if (l = 0 ∧ r + 1 = n) ∧ up = true then K else 0) n (fun i => rows (t + i)) → Q (.vT [.vR q1, .vR q2]) S10 := fun q2 S10 k10 h2 l2 =>
    h q1 rl7 q2 S10 (kp9.trans k10) (z10.keep k10 id fun _ _ => id) hq1.self (fun i hi => (hf9 i hi).1) (kp9.back h2) l2
  clear z9 z10 hf9 h y9
  refine r_if (fun c1 => ?_) fun c1 => ?_
  · induction up using Bool.casesOn with
    | true =>
      refine ⟨_, _, rfl, lst_of (kp9.at x.hq id), fun r10 hr10 => ?_⟩
      rw [slice_tab (a := (t : Int)) (b := (t : Int) + (K : Int)) (l := t) (k := t + K) rfl rfl (by lia) (by lia), Nat.add_sub_cancel_left]
      refine fin _ _ (Kp.new hr10.self) hr10.self ?_
      rw [if_pos ⟨c1, rfl⟩]
      refine ⟨?_, fun i hi => put_fr hr10 (kp9.at (x.hr (t + i) (by lia)) id)⟩
      rw [put_at]
      congr 2
      exact tab_eq fun j _ => by rw [Nat.add_comm]
    | false =>
      refine fun r10 hr10 => ?_
      refine fin _ _ (Kp.new hr10.self) hr10.self ?_
      rw [if_neg (fun z => nomatch z.2)]
      exact ⟨put_at, fun i hi => absurd hi (Nat.not_lt_zero _)⟩
  · skip
    refine fun r10 hr10 => ?_
    refine fin _ _ (Kp.new hr10.self) hr10.self ?_
    rw [if_neg (fun z => c1 z.1)]
    exact ⟨put_at, fun i hi => absurd hi (Nat.not_lt_zero _)⟩
end Mine
end
section
open PySem PySem.W PyProof.Rows
set_option maxRecDepth 100000
set_option linter.unusedVariables false
set_option linter.unusedSimpArgs false
set_option maxHeartbeats 4000000
namespace Mine
variable {P : Params} {S S' : St} {Q : V → St → Prop} {d : Nat} {F : Addr → Prop} {g : Addr} {m n : Nat} {G : GI} {rows : Nat → Nat → Cell}
noncomputable def lawF (dk dl mg mdx q : Addr) (rl : Nat → Addr) (m : Nat) : Addr → Prop := fun a => a = dk ∨ a = dl ∨ a = mg ∨ a = mdx ∨ a = q ∨ ∃ k, k < m ∧ a = rl k
structure LW (S : St) (dk dl mg mdx q : Addr) (rl : Nat → Addr) (g : Addr) (m n : Nat) (B t b l r : Int) (rows : Nat → Nat → Cell) : Prop where
  gs : ∃ G, GSd S (lawF dk dl mg mdx q rl m) g m n G rows
  ll : LL S q rl m n rows
  wf : ∀ i, i < m → WF n (rows i)
  de : DeckOk S dk dl B
  ma : MgS S mg mdx m n t b l r
  dis : ∀ a, (a = q ∨ ∃ k, k < m ∧ a = rl k) → ¬ dmF dk dl mdx a
theorem LW.move {dk dl mg mdx q : Addr} {rl : Nat → Addr} {B t b l r B' t' b' l' r' : Int} (x : LW S dk dl mg mdx q rl g m n B t b l r rows) (k : Kp (dmF dk dl mdx) S S') (y : DeckOk S' dk dl B') (z : MgS S' mg mdx m n t' b' l' r') : LW S' dk dl mg mdx q rl g m n B' t' b' l' r' rows := by
  obtain ⟨G, xg⟩ := x.gs
  refine ⟨⟨G, xg.mono (k.weak fun a h => ?_) (fun a h => Or.inl h) fun a h => ?_⟩, x.ll.keep k (x.dis _ (Or.inl rfl)) fun i hi => x.dis _ (Or.inr ⟨i, hi, rfl⟩), x.wf, y, z, x.dis⟩
  · rcases h with h | h | h
    · exact Or.inl h
    · exact Or.inr (Or.inl h)
    · exact Or.inr (Or.inr (Or.inr (Or.inl h)))
  · by_cases c : dmF dk dl mdx a
    · rcases c with c | c | c
      · exact y.al a (Or.inl c)
      · exact y.al a (Or.inr c)
      · rw [c, z.gd]; exact fun z => nomatch z
    · rw [k a (xg.fa a h) c]; exact xg.fa a h
theorem LW.keep {dk dl mg mdx q : Addr} {rl : Nat → Addr} {B t b l r : Int} (x : LW S dk dl mg mdx q rl g m n B t b l r rows) (k : Kp none_ S S') : LW S' dk dl mg mdx q rl g m n B t b l r rows :=
  x.move (k.weak fun _ z => z.elim) (x.de.keep k id id) (x.ma.keep k id id)
theorem WF_scU {t l b r k : Nat} {p : Int} (hW : ∀ i, i < m → WF n (rows i)) (hb : b < m) (hl : l ≤ r) (hr : r < n) : ∀ i, i < m → WF n (scU n t l b r k p rows i) := fun i hi => by
  unfold scU
  split
  · split
    · exact (hW i hi).mixCut (hW _ (by lia)) hl hr
    · exact (hW i hi).mixBlank hl hr
  · exact hW i hi
theorem WF_scD {t l b r k : Nat} {p : Int} (hW : ∀ i, i < m → WF n (rows i)) (hb : b < m) (hl : l ≤ r) (hr : r < n) : ∀ i, i < m → WF n (scD n t l b r k p rows i) := fun i hi => by
  unfold scD
  split
  · split
    · exact (hW i hi).mixCut (hW _ (by lia)) hl hr
    · exact (hW i hi).mixBlank hl hr
  · exact hW i hi
theorem LL.kf {q : Addr} {rl : Nat → Addr} (x : LL S q rl m n rows) (k : KF F S S') (h1 : F q) (h2 : ∀ i, i < m → F (rl i)) : LL S' q rl m n rows :=
  ⟨(k _ h1).trans x.hq, fun i hi => (k _ (h2 i hi)).trans (x.hr i hi)⟩
theorem law_wX {l0 : Addr} {ns : List Int} {fd : FuncData} {body : List Stmt} {oc : Value} {od : Option Addr} {osl : Array (Option Value)} (h : (KK P).lookup 669 = some ⟨oc, od, .func fd, osl⟩) (hb : fd.body = .stmts body)
    (hS : S l0 = some (.ro (ns.map .vI))) : wXs (KK P) (WC (KK P) (d + 9)) FUEL fd.scope.names (fun x => [(Str.ofString "script", V.vR l0)].reverse.lookup x) body S (fun f _ _ => retV f = .vB true) := by
  refine RC_w (Q := fun v _ => v = .vB true) (xs := [Str.ofString "script"]) (vs := [.vR l0]) (nr := 13) (code := code669) (by kernel_rfl) (by decide +kernel) rfl h hb ?_
  clear h hb
  unfold code669
  refine fun Q1 hQ1 => deck_ok hS fun dk dl S1 k1 n1 n2 y1 => hQ1 _ _ ?_
  try clear hQ1 Q1
  refine fun Q1 hQ1 => draw_ok y1 (by decide) (by decide) (by decide) fun a S2 k2 y2 ha0 ha1 => hQ1 _ _ ?_
  try clear hQ1 Q1
  obtain ⟨m, hm⟩ : ∃ m : Nat, 3 + a = m := ⟨(3 + a).toNat, by lia⟩
  (try dsimp only [R_noES, R_noE0, R_initS, R_init0, R_setS, R_set0, R_add, R_const, R_load, R_getS, R_get0, R_onV])
  rw [hm]
  refine fun Q1 hQ1 => draw_ok y2 (by decide) (by decide) (by decide) fun a2 S3 k3 y3 ha20 ha21 => hQ1 _ _ ?_
  try clear hQ1 Q1
  obtain ⟨n, hn⟩ : ∃ n : Nat, 4 + a2 = n := ⟨(4 + a2).toNat, by lia⟩
  (try dsimp only [R_add, R_tup, R_unpack, R_load, R_popNS, R_popN0, R_setsS, R_setS, R_set0, R_sets0, R_getS, R_get0, R_onV])
  rw [hn]
  have hm1 : 1 ≤ m := by lia
  have hn1 : 1 ≤ n := by lia
  have hm2 : m ≤ 10 := by lia
  have hn2 : n ≤ 10 := by lia
  clear hm hn ha0 ha1 ha20 ha21 k1 k2 k3 y1 y2 n1 n2
  refine fun Q1 hQ1 => written_ok y3 (by decide) hm1 hm2 hn1 hn2 fun g q rl S4 G rws x4 l4 w4 y4 nq4 nr4 => hQ1 _ _ ?_
  try clear hQ1 Q1
  clear y3
  refine fun Q1 hQ1 => margins_new fun mg mdx S5 k5 nm1 nm2 g5 => hQ1 _ _ ?_
  try clear hQ1 Q1
  have hB0 : (100000 : Int) ≤ 1000000 - 1 - 1 - 100 * m := by lia
  have x5 : GSd S5 (lawF dk dl mg mdx q rl m) g m n G rws := by
    have x' := x4.keep k5
    refine x4.mono (k5.weak fun _ z => z.elim) (fun a z => ?_) fun a z => ?_
    · rcases z with z | z | z | z | z | z
      · exact Or.inl (Or.inl z)
      · exact Or.inl (Or.inr (Or.inl z))
      · exact Or.inr (z ▸ nm1)
      · exact Or.inr (z ▸ nm2)
      · exact Or.inl (Or.inr (Or.inr (Or.inl z)))
      · exact Or.inl (Or.inr (Or.inr (Or.inr z)))
    · rcases z with z | z | z | z | z | z
      · exact x'.fa a (Or.inl z)
      · exact x'.fa a (Or.inr (Or.inl z))
      · rw [z, g5.gi]; exact fun z => nomatch z
      · rw [z, g5.gd]; exact fun z => nomatch z
      · exact x'.fa a (Or.inr (Or.inr (Or.inl z)))
      · exact x'.fa a (Or.inr (Or.inr (Or.inr z)))
  have W5 : LW S5 dk dl mg mdx q rl g m n (100000 : Int) 0 (m - 1) 0 (n - 1) rws := by
    refine ⟨⟨G, x5⟩, l4.keep k5 id fun _ _ => id, w4, (y4.keep k5 id id).weak hB0, g5, fun a z c => ?_⟩
    rcases c with c | c | c
    · rcases z with z | ⟨k, hk, z⟩
      · exact nq4 (z ▸ Or.inl c)
      · exact nr4 k hk (z ▸ Or.inl c)
    · rcases z with z | ⟨k, hk, z⟩
      · exact nq4 (z ▸ Or.inr c)
      · exact nr4 k hk (z ▸ Or.inr c)
    · rcases z with z | ⟨k, hk, z⟩
      · have := l4.hq; rw [← z, c, nm2] at this; cases this
      · have := l4.hr k hk; rw [← z, c, nm2] at this; cases this
  clear x4 l4 w4 y4 nq4 nr4 k5 nm1 nm2 g5 hB0
  refine fun Q1 hQ1 => told_ok x5 fun q6 rl6 S6 k6 _ _ l6 => hQ1 _ _ ?_
  try clear hQ1 Q1
  refine fun Q1 hQ1 => l6.same (W5.keep k6).ll (hQ1 _ ?_)
  try clear hQ1 Q1
  have W6 := W5.keep k6
  clear l6 k6 x5 W5
  refine fun Q1 hQ1 => draw_ok W6.de (by decide) (by decide) (by decide) fun a7 S7 k7 y7 ha70 ha71 => hQ1 _ _ ?_
  try clear hQ1 Q1
  have W7 := W6.move (k7.weak dk_dm) y7 (W6.ma.keep k7 (deck_mg W6.ma W6.de).1 (deck_mg W6.ma W6.de).2)
  obtain ⟨N, hN⟩ : ∃ N : Nat, 1 + a7 = N := ⟨(1 + a7).toNat, by lia⟩
  have hN3 : N ≤ 3 := by lia
  clear W6 k7 y7 ha70 ha71
  (try dsimp only [R_setS, R_set0, R_add, R_tup, R_popNS, R_popN0])
  rw [hN]
  obtain ⟨B1, B2⟩ := big (i := N) rfl (Nat.le_trans hN3 (by decide))
  have q1 : (0 : Int) ≤ (m : Int) - 1 := by lia
  have q2 : (0 : Int) ≤ (n : Int) - 1 := by lia
  have q3 : (m : Int) - 1 < m := by lia
  have q4 : (n : Int) - 1 < n := by lia
  refine r_for1 B1 B2 (rUp (a := 0) (b := N) (fun i e S' => ∃ (q : Addr) (rl : Nat → Addr) (t b l r : Int) (rws : Nat → Nat → Cell), (∃ w8 w9 w10 w11 w12 w13, e = [some (.vR l0), some (.vR dk), some (.vI m), some (.vI n), some (.vR g), some (.vR q), some (.vR mg), some (.vT [.vI t, .vI l, .vI b, .vI r]), w8, w9, w10, w11, w12, w13]) ∧ 0 ≤ t ∧ t ≤ b ∧ b < m ∧ 0 ≤ l ∧ l ≤ r ∧ r < n ∧ LW S' dk dl mg mdx q rl g m n (10000 - 100 * (i : Int)) t b l r rws) rfl rfl (Nat.zero_le _) ?_ ?_ _ _
    ⟨q, rl, 0, m - 1, 0, n - 1, rws, ⟨_, _, _, _, _, _, rfl⟩, Int.le_refl 0, q1, q3, Int.le_refl 0, q2, q4, { W7 with de := W7.de.weak (by decide) }⟩)
  · clear W7 q1 q2 q3 q4 B1 B2 hN
    intro i _ S1 _ hi x00
    refine hide fun G0 g0 => ?_
    obtain ⟨q, rl, t, b, l, r, rws, ⟨w8, w9, w10, w11, w12, w13, rfl⟩, ht, htb, hb, hl, hlr, hr, W⟩ := x00
    refine g0 ?_
    clear g0 G0
    refine ⟨trivial, fun Q' qq => ?_⟩
    have hB1 : 3 ≤ 10000 - 100 * (i : Int) := by lia
    have hB2 : 4 ≤ 10000 - 100 * (i : Int) - 3 := by lia
    have hB3 : 1 ≤ 10000 - 100 * (i : Int) - 3 - 4 := by lia
    have hB4 : 1 ≤ 10000 - 100 * (i : Int) - 3 - 4 - 1 := by lia
    have hB5 : 1 ≤ 10000 - 100 * (i : Int) - 3 - 4 - 1 - 1 := by lia
    have hB8 : 10000 - 100 * ((i + 1 : Nat) : Int) ≤ 10000 - 100 * (i : Int) - 3 - 4 - 1 - 1 - 1 := by lia
    clear hi hN3
    refine fun Q1 hQ1 => set_ok W.ma W.de hB1 hm1 hm2 hn1 hn2 ht htb hb hl hlr hr fun t l b r S2 k2 g2 y2 ht htb hb hl hlr hr => hQ1 _ _ ?_
    try clear hQ1 Q1
    have W2 := W.move k2 y2 g2
    clear W k2 y2 g2
    refine r_istn ?_
    refine r_meth W2.ma.gi W2.ma.gd (m_589_area P) rfl fun Q1 hQ1 => ?_
    refine area_m W2.ma (hQ1 _ _ ?_)
    try clear hQ1 Q1
    refine r_tuple ?_
    refine fun Q1 hQ1 => ne_four (hQ1 _ ?_)
    try clear hQ1 Q1
    refine fun Q1 hQ1 => steps_ok W2.ma W2.de hB2 hm1 hm2 hn1 hn2 ht htb hb hl hlr hr fun S3 k3 y3 => hQ1 _ _ ?_
    try clear hQ1 Q1
    have W3 := W2.move (k3.weak dk_dm) y3 (W2.ma.keep k3 (deck_mg W2.ma W2.de).1 (deck_mg W2.ma W2.de).2)
    clear W2 k3 y3
    refine fun Q1 hQ1 => draw_ok W3.de hB3 (by decide) (by decide) fun v S4 k4 y4 hv0 hv1 => hQ1 _ _ ?_
    try clear hQ1 Q1
    have W4 := W3.move (k4.weak dk_dm) y4 (W3.ma.keep k4 (deck_mg W3.ma W3.de).1 (deck_mg W3.ma W3.de).2)
    clear W3 k4
    obtain ⟨k, hk⟩ : ∃ k : Nat, 1 + v = k := ⟨(1 + v).toNat, by lia⟩
    have hk1 : 1 ≤ k := by lia
    clear hv0 hv1
    (try dsimp only [R_setS, R_set0, R_add, R_load, R_getS, R_get0, R_onV])
    rw [hk]
    clear hk
    refine fun Q1 hQ1 => pen_ok y4 hB4 fun p S5 k5 y5 => hQ1 _ _ ?_
    try clear hQ1 Q1
    have W5 := W4.move (k5.weak dk_dm) y5 (W4.ma.keep k5 (deck_mg W4.ma W4.de).1 (deck_mg W4.ma W4.de).2)
    clear W4 k5 y4 y5
    refine fun Q1 hQ1 => draw_ok W5.de hB5 (by decide) (by decide) fun u S6 k6 y6 hu0 hu1 => hQ1 _ _ ?_
    try clear hQ1 Q1
    have W6 := W5.move (k6.weak dk_dm) y6 (W5.ma.keep k6 (deck_mg W5.ma W5.de).1 (deck_mg W5.ma W5.de).2)
    clear W5 k6 y6 hu0 hu1
    (try dsimp only [R_const, R_eq, R_tup, R_unpack, R_load, R_popNS, R_popN0, R_setsS, R_setS, R_set0, R_sets0, R_getS, R_get0, R_onV])
    generalize decide (u = 0) = up
    obtain ⟨T, hT⟩ : ∃ T : Nat, t = T := ⟨t.toNat, by lia⟩
    obtain ⟨Bo, hBo⟩ : ∃ T : Nat, b = T := ⟨b.toNat, by lia⟩
    obtain ⟨Le, hLe⟩ : ∃ T : Nat, l = T := ⟨l.toNat, by lia⟩
    obtain ⟨Ri, hRi⟩ : ∃ T : Nat, r = T := ⟨r.toNat, by lia⟩
    subst hT hBo hLe hRi
    have hTB : T ≤ Bo := Int.ofNat_le.mp htb
    have hBm : Bo < m := Int.ofNat_lt.mp hb
    have hLR : Le ≤ Ri := Int.ofNat_le.mp hlr
    have hRn : Ri < n := Int.ofNat_lt.mp hr
    clear hB1 hB2 hB3 hB4 hB5
    refine fun Q1 hQ1 => scrolled_ok W6.ll W6.wf hm2 hn2 hTB hBm hLR hRn hk1 fun q1 rl1 q2 S7 k7 l7 n7 r7 n72 l72 => hQ1 _ _ ?_
    try clear hQ1 Q1
    obtain ⟨G6, x6⟩ := W6.gs
    have W7 := W6.keep k7
    obtain ⟨G7, x7⟩ := W7.gs
    let F1 : Addr → Prop := fun a => lawF dk dl mg mdx q1 rl1 m a ∨ a = q2 ∨ ∃ k, k < m ∧ a = rl k
    have x71 : GSd S7 F1 g m n G6 rws := by
      have al7 : ∀ a, lawF dk dl mg mdx q rl m a → S7 a ≠ none := x7.fa
      refine x6.mono (k7.weak fun _ z => z.elim) (fun a z => ?_) (fun a z => ?_)
      · rcases z with (z | z | z | z | z | ⟨k, hk, z⟩) | z | ⟨k, hk, z⟩
        · exact Or.inl (Or.inl z)
        · exact Or.inl (Or.inr (Or.inl z))
        · exact Or.inl (Or.inr (Or.inr (Or.inl z)))
        · exact Or.inl (Or.inr (Or.inr (Or.inr (Or.inl z))))
        · exact Or.inr (z ▸ n7)
        · rcases r7 k hk with c | c
          · exact Or.inl (Or.inr (Or.inr (Or.inr (Or.inr (Or.inr ⟨k, hk, z.trans c⟩)))))
          · exact Or.inr (z ▸ c)
        · exact Or.inr (z ▸ n72)
        · exact Or.inl (Or.inr (Or.inr (Or.inr (Or.inr (Or.inr ⟨k, hk, z⟩)))))
      · rcases z with (z | z | z | z | z | ⟨k, hk, z⟩) | z | ⟨k, hk, z⟩
        · exact al7 a (Or.inl z)
        · exact al7 a (Or.inr (Or.inl z))
        · exact al7 a (Or.inr (Or.inr (Or.inl z)))
        · exact al7 a (Or.inr (Or.inr (Or.inr (Or.inl z))))
        · rw [z, l7.hq]; exact fun z => nomatch z
        · rw [z, l7.hr k hk]; exact fun z => nomatch z
        · rw [z, l72.hq]; exact fun z => nomatch z
        · exact al7 a (Or.inr (Or.inr (Or.inr (Or.inr (Or.inr ⟨k, hk, z⟩)))))
    clear x7
    (try dsimp only [R_unpack, R_load, R_setsS, R_setS, R_set0, R_sets0, R_getS, R_get0, R_onV, R_tst])
    refine r_join (fun s e S8 => ∃ tv, s = [tv] ∧ e = [some (.vR l0), some (.vR dk), some (.vI m), some (.vI n), some (.vR g), some (.vR q1), some (.vR mg), some (.vT [.vI T, .vI Le, .vI Bo, .vI Ri]), some (.vI i), some (.vI k), some (penV p), some (.vB up), some (.vR q2), w13] ∧ KF F1 S7 S8 ∧ (∃ G8, GSd S8 F1 g m n G8 (if up = true then scU n T Le Bo Ri (min k (Bo + 1 - T)) p rws else scD n T Le Bo Ri (min k (Bo + 1 - T)) p rws)) ∧
      (up = true → ∃ qg, tv = .vR qg ∧ LinesAt S8 qg n (if Le = 0 ∧ Ri + 1 = n then min k (Bo + 1 - T) else 0) (fun i => rws (T + i)))) (fun N' hN => ?_) ?_
    · clear l7 r7 l72 W7 qq
      induction up using Bool.casesOn with
      | true =>
        refine r_meth x71.gi x71.gd (m_393_scroll_up P) rfl fun Q1 hQ1 => ?_
        refine scroll_up_m x71 W6.wf hTB hBm hLR hRn hk1 fun qg S8 G8 x8 k8 la => hQ1 _ _ ?_
        try clear hQ1 Q1
        exact hN _ _ _ ⟨_, rfl, rfl, k8, ⟨G8, x8⟩, fun _ => ⟨qg, rfl, la⟩⟩
      | false =>
        refine r_meth x71.gi x71.gd (m_393_scroll_down P) rfl fun Q1 hQ1 => ?_
        refine scroll_down_m x71 W6.wf hTB hBm hLR hRn hk1 fun S8 G8 x8 k8 => hQ1 _ _ ?_
        try clear hQ1 Q1
        exact hN _ _ _ ⟨_, rfl, rfl, k8, ⟨G8, x8⟩, fun z => nomatch z⟩
    clear x71
    intro _ _ S8 x00
    refine hide fun G0 g0 => ?_
    obtain ⟨tv, rfl, rfl, k8, ⟨G8, x8⟩, hla⟩ := x00
    refine g0 ?_
    clear g0 G0
    have fdk : ∀ a, dkF dk dl a → F1 a := fun a z => z.elim (fun z => Or.inl (Or.inl z)) fun z => Or.inl (Or.inr (Or.inl z))
    have fq1 : F1 q1 := Or.inl (Or.inr (Or.inr (Or.inr (Or.inr (Or.inl rfl)))))
    have fr1 : ∀ i, i < m → F1 (rl1 i) := fun i hi => Or.inl (Or.inr (Or.inr (Or.inr (Or.inr (Or.inr ⟨i, hi, rfl⟩)))))
    have l8 := l7.kf k8 fq1 fr1
    have W8 : LW S8 dk dl mg mdx q1 rl1 g m n (10000 - 100 * ((i + 1 : Nat) : Int)) T Bo Le Ri (if up = true then scU n T Le Bo Ri (min k (Bo + 1 - T)) p rws else scD n T Le Bo Ri (min k (Bo + 1 - T)) p rws) := by
      refine ⟨⟨G8, x8.mono Kp.refl (fun a z => Or.inl (Or.inl z)) fun a z => x8.fa a (Or.inl z)⟩, l8, ?_, (W7.de.kf k8 fdk).weak hB8, ⟨(k8 _ (Or.inl (Or.inr (Or.inr (Or.inl rfl))))).trans W7.ma.gi, (k8 _ (Or.inl (Or.inr (Or.inr (Or.inr (Or.inl rfl)))))).trans W7.ma.gd⟩, fun a z c => ?_⟩
      · split
        · exact WF_scU W6.wf hBm hLR hRn
        · exact WF_scD W6.wf hBm hLR hRn
      · have none6 : ∀ a, S6 a = none → ¬ dmF dk dl mdx a := fun a z c => by
          rcases c with c | c | c
          · exact W6.de.al a (Or.inl c) z
          · exact W6.de.al a (Or.inr c) z
          · rw [c, W6.ma.gd] at z; cases z
        rcases z with z | ⟨k, hk, z⟩
        · exact none6 _ n7 (z ▸ c)
        · rcases r7 k hk with q | q
          · exact W6.dis _ (Or.inr ⟨k, hk, z.trans q⟩) c
          · exact none6 _ q (z ▸ c)
    clear W6 W7 l7 r7 fdk fq1 fr1 n7 n72 l8 hB8
    have fin : ∀ S9 w, Kp none_ S8 S9 → Q' [some (.vR l0), some (.vR dk), some (.vI m), some (.vI n), some (.vR g), some (.vR q1), some (.vR mg), some (.vT [.vI (T : Int), .vI Le, .vI Bo, .vI Ri]), some (.vI i), some (.vI k), some (penV p), some (.vB up), some (.vR q2), w] S9 := fun S9 w k9 =>
      qq _ _ ⟨q1, rl1, T, Bo, Le, Ri, _, ⟨_, _, _, _, _, _, rfl⟩, ht, htb, hb, hl, hlr, hr, W8.keep k9⟩
    clear qq ht htb hb hl hlr hr
    induction up using Bool.casesOn with
    | true =>
      refine hide fun G0 g0 => ?_
      obtain ⟨qg, rfl, as, dxs, lcs, wrs, hqg, hlq⟩ := hla rfl
      refine g0 ?_
      clear g0 G0
      have eqK : (if (Le = 0 ∧ Ri + 1 = n) ∧ true = true then min k (Bo + 1 - T) else 0) = (if Le = 0 ∧ Ri + 1 = n then min k (Bo + 1 - T) else 0) := by
        by_cases c : Le = 0 ∧ Ri + 1 = n
        · rw [if_pos c, if_pos ⟨c, rfl⟩]
        · rw [if_neg c, if_neg (fun z => c z.1)]
      rw [eqK] at l72
      have hKle : (if Le = 0 ∧ Ri + 1 = n then min k (Bo + 1 - T) else 0) ≤ Bo + 1 - T := by
        split
        · exact Nat.min_le_right _ _
        · exact Nat.zero_le _
      generalize (if Le = 0 ∧ Ri + 1 = n then min k (Bo + 1 - T) else 0) = Kw at *
      have hK10 : Kw ≤ 10 := by lia
      have l82 : LL S8 q2 (fun i => rl (T + i)) Kw n (fun i => rws (T + i)) := l72.kf k8 (Or.inr (Or.inl rfl)) fun i hi => Or.inr (Or.inr ⟨T + i, by lia, rfl⟩)
      clear eqK hla l72 hKle k8
      refine ⟨!(tab Kw fun i => V.vR (as i)).isEmpty, by show Option.map (fun vs => !vs.isEmpty) (lstOf S8 qg) = _; rw [lst_of hqg]; rfl, ?_⟩
      refine r_join (fun s e S9 => ∃ qx, s = [.vR qx] ∧ e = [some (.vR l0), some (.vR dk), some (.vI m), some (.vI n), some (.vR g), some (.vR q1), some (.vR mg), some (.vT [.vI (T : Int), .vI Le, .vI Bo, .vI Ri]), some (.vI i), some (.vI k), some (penV p), some (.vB true), some (.vR q2), some (.vR qg)] ∧ Kp none_ S8 S9 ∧ LinesAt S9 qx n Kw (fun i => rws (T + i))) (fun N' hN => r_b (fun c => ?_) fun c => ?_) ?_
      · skip
        exact hN _ _ _ ⟨qg, rfl, rfl, Kp.refl, as, dxs, lcs, wrs, hqg, hlq⟩
      · have c0 : Kw = 0 := by
          induction Kw using Nat.casesOn with
          | zero => rfl
          | succ z => rw [tab_succ] at c; simp at c
        subst c0
        refine fun r10 hr10 => ?_
        exact hN _ _ _ ⟨r10, rfl, rfl, Kp.new hr10.self, as, dxs, lcs, wrs, put_at, fun i hi => absurd hi (Nat.not_lt_zero _)⟩
      clear hqg hlq
      intro _ _ S9 x00
      refine hide fun G0 g0 => ?_
      obtain ⟨qx, rfl, rfl, k9, as, dxs, lcs, wrs, hq9, hl9⟩ := x00
      refine g0 ?_
      clear g0 G0
      refine r_compL (lst_of hq9) fun Q1 hQ1 => copies (n := n) (rws := fun i => rws (T + i)) hq9 (fun i S1 Q' hi k1 q => ?_) hK10 fun rlc S10 k10 hn10 hr10 r10 hr10' hr100 => hQ1 _ _ ?_
      try clear hQ1 Q1
      · obtain ⟨a1, a2, a3⟩ := hl9 i hi
        refine r_attr (k1.at a1 id) (k1.at a2 id) (d_244_cells P) rfl rfl ?_
        refine r_list (lst_of (k1.at a3 id)) fun r hr => ?_
        exact q r hr
      have lc : LL (put S10 r10 (.lst (tab Kw fun i => V.vR (rlc i)))) r10 rlc Kw n (fun i => rws (T + i)) := ⟨put_at, fun i hi => put_fn hr100 (hr10 i hi)⟩
      have k11 : Kp none_ S8 (put S10 r10 (.lst (tab Kw fun i => V.vR (rlc i)))) := (k9.trans k10).newL' hr100
      generalize put S10 r10 (.lst (tab Kw fun i => V.vR (rlc i))) = S11 at *
      refine fun Q1 hQ1 => lc.same (l82.keep k11 id fun _ _ => id) (hQ1 _ ?_)
      try clear hQ1 Q1
      refine fun Q1 hQ1 => told_ok (x8.keep k11) fun qt rlt S12 k12 _ _ lt => hQ1 _ _ ?_
      try clear hQ1 Q1
      refine fun Q1 hQ1 => lt.same (W8.keep (k11.trans k12)).ll (hQ1 _ ?_)
      try clear hQ1 Q1
      exact fin _ _ (k11.trans k12)
    | false =>
      refine fun Q1 hQ1 => told_ok x8 fun qt rlt S12 k12 _ _ lt => hQ1 _ _ ?_
      try clear hQ1 Q1
      refine fun Q1 hQ1 => lt.same (W8.keep k12).ll (hQ1 _ ?_)
      try clear hQ1 Q1
      exact fin _ _ k12
  · rintro _ S8 _
    refine ⟨trivial, ?_⟩
    (try dsimp only [R_endK, R_const, R_ret])
end Mine
end
section
open PySem PySem.W PyProof.Rows
set_option maxRecDepth 100000
set_option linter.unusedVariables false
namespace Mine
theorem well_ints {P : Params} {h : Heap} : ∀ (ns : List Int) (vs : List Value), WellAll P h vs (ofPys (ns.map .int)) → RVs h (ns.map .vI) vs
  | [], vs, w => by
    simp only [List.map_nil, ofPys] at w
    cases w
    simp only [List.map_nil, RVs]
  | n :: ns, vs, w => by
    simp only [List.map_cons, ofPys, ofPy] at w
    cases w with
    | cons a b =>
      cases a
      exact ⟨_, _, rfl, ⟨_, rfl⟩, well_ints ns _ b⟩
theorem well_list {P : Params} {h : Heap} {l : Addr} {ns : List Int} (w : Well P h (.ref l) (ofPy (.list (ns.map .int)))) : ∃ ws n, h.get? l = some (lstObj ws n) ∧ RVs h (ns.map .vI) ws := by
  simp only [ofPy] at w
  cases w with
  | list a b => exact ⟨_, _, a, well_ints _ _ b⟩
theorem law_join {prog : Program} {w : World} {s₁ : Shared} {h₁ : Heap} {fa l : Addr} {cd : Value} {p : Program} {loose : List Str} {mg mb : Str → Option Value} {ns : List Int} {P' : Params} (KX : (KK w.params).In s₁.heap) (T : TopRead p loose mg mb s₁.heap)
    (W : Well P' s₁.heap (.ref l) (ofPy (.list (ns.map .int)))) (hlen : ns.length ≤ 63) {name : Str} {scope : Scope} {body : List Stmt} {fd : FuncData} {oc : Value} {od : Option Addr} {osl : Array (Option Value)}
    (hfd : (KK w.params).lookup 669 = some ⟨oc, od, .func fd, osl⟩) (hb : fd.body = .stmts body) (hsc : fd.scope.names = scope.names) (hkind : scope.kind = .function) (hnc : scope.names.all (fun x => x.2 != .cell) = true)
    (F : Fr s₁.heap s₁.heap.objs.size h₁ (fun x => List.lookup x [(Str.ofString "script", Value.ref l)].reverse)) {R : Flow → Shared → Prop} {E : Value → Shared → Prop} {s : Shared} (hs : s.heap = h₁)
    (hR : ∀ h' tk', (∀ b o, s₁.heap.get? b = some o → h'.get? b = some o) → R (.ret (.bool true)) { s with heap := h', toks := tk' }) :
    wpAny (model prog w) (callerA.deeper (envOf name scope s₁.heap.objs.size fa cd)) (execs body (envOf name scope s₁.heap.objs.size fa cd)) R E s := by
  subst hs
  obtain ⟨ws, nn, hl, hrv⟩ := well_list W
  have hlk := F.keep _ _ hl
  have tk : TupK s₁.heap s.heap := TupK.of F.keep
  have I : HInv prog w s₁.heap s.heap (put (fun _ => none) l (.ro (ns.map .vI))) := by
    refine ⟨F.keep, fun a o e => ?_, fun a e => ?_⟩
    · by_cases c : a = l
      · subst c
        rw [put_at] at e
        cases e
        exact ⟨by have hLB : LB = 4096 := rfl; rw [List.length_map]; lia, ws, nn, hlk, hrv.mono tk⟩
      · rw [put_off c] at e; cases e
    · obtain ⟨o, e1, e2⟩ := e
      by_cases c : a = l
      · subst c; rw [put_at] at e1; cases e1; exact absurd rfl (e2 _)
      · rw [put_off c] at e1; cases e1
  have nl : s₁.heap.objs.size ≠ l := fun e => by rw [← e, get_new] at hl; cases hl
  have nocell : ∀ x, fd.scope.names.lookup x ≠ some .cell := fun x e => by
    rw [hsc] at e
    have := List.all_eq_true.mp hnc _ (mem_of_lookup e)
    simp at this
  have Fm : Frame (envOf name scope s₁.heap.objs.size fa cd) fd.scope.names (fun x => [(Str.ofString "script", V.vR l)].reverse.lookup x) s.heap (put (fun _ => none) l (.ro (ns.map .vI))) := by
    refine ⟨hkind, fun x => by rw [hsc]; rfl, rfl, rfl, ⟨_, F.ns, fun y v hy hv => ?_⟩, put_off nl, fun x e => absurd e (nocell x), fun x y c e _ => by cases e⟩
    simp only [List.reverse_cons, List.reverse_nil, List.nil_append, lk_cons, List.lookup_nil] at hv ⊢
    by_cases c : (y == Str.ofString "script") = true
    · rw [if_pos c] at hv ⊢
      cases hv
      exact ⟨_, rfl, rfl⟩
    · rw [if_neg c] at hv; cases hv
  have out : Out s₁.heap (envOf name scope s₁.heap.objs.size fa cd) fd.scope.names := fun a z => by
    rcases z with z | ⟨x, hx, _⟩
    · rw [z]; exact get_new _
    · exact absurd hx (nocell x)
  have rm : Room (callerA.deeper (envOf name scope s₁.heap.objs.size fa cd)) 9 := Room.deeper (d := 9) ⟨rfl, by decide, by decide⟩ _
  have hw := law_wX (d := 0) (S := put (fun _ => none) l (.ro (ns.map .vI))) (l0 := l) (ns := ns) hfd hb put_at
  refine wpAny_mono ((stmts KX T (calls KX T 9).1 FUEL).2 _ _ _ _ body _ s _ E rm out Fm I hw) (fun f s' x => ?_) fun _ _ x => x
  obtain ⟨fl, m', S', h', tk', rfl, fr, I', ev, F', q⟩ := x
  induction fl using Fl.casesOn with
  | ret v =>
    obtain ⟨y, rfl, rv⟩ := fr
    have : v = .vB true := q
    subst this
    have : y = .bool true := rv
    subst this
    exact hR h' tk' I'.keep
  | next => cases q
  | brk => cases q
  | cont => cases q
end Mine
end
open PySem PySem.W PyProof.Rows
set_option maxRecDepth 1000000
set_option maxHeartbeats 0
theorem PySem.Challenge.cw_np0279_01_holds : PySem.Challenge.rw_np0279_01.Holds := by
  w_on
  refine holds_law Mine.said fun said => ?_
  refine holds_open (q := Mine.qv) (loose := Mine.looseT) (Xt := fun s => xlAt Mine.qv Mine.lvT s && recOk PySem.Challenge.rw_np0279_01.row.records s) (XP := XL Mine.qv Mine.lvT) (Yf := Hook.obs (kHook Mine.KFr Mine.asK Mine.asK_eq)) (Ya := Hook.val (kHook Mine.KFr Mine.asK Mine.asK_eq)) (YP := Hook.says (kHook Mine.KFr Mine.asK Mine.asK_eq)) (N := 8180) Mine.leftK (Hook.of _) (Hook.keeps _) (fun s e => xl_of s (Bool.and_eq_true_iff.mp e).1) XL.keeps (by rfl) (by rfl) (by rfl) (fun s e => recFacts_of (Bool.and_eq_true_iff.mp e).2) (by rfl) (by assumption) (by decide +kernel) ⟨rfl, rfl, rfl, rfl, rfl, Mine.sdT⟩ ?hw ?hc
  case hw => w_witness2
  w_strict (k_fill
            intro w s0 s1 mg mb G Y fa o pm cd doc dV kV ho hd hcd hD hmg hg args vals as hpre hlay hrd hwl hlo
            have KX := kIn_of Y
            have X := (Ground.X G).1
            have V := (Ground.X G).2
            try w_nolog (first | (have GL := glob_more (Ground.glob G (by decide +kernel) (by decide +kernel)) V) | (have GL := glob_more (Ground.glob G (by decide +kernel)) V))
            refine Ground.open G ?_
            intro T B D TE TW
            try (refine guard_noD D (by decide +kernel) ?_; clear D)
            obtain ⟨_, _, M⟩ := bmod_of_top T
            have TA := at_of_top T
            try (obtain ⟨_, _, he, B0⟩ := based_of_top T rfl hmg ho hd; have he' : cd = _ := he; subst he'; clear he)
            clear hmg
            wrow_args hpre hlay hrd hwl hlo
            all_goals (
              first | refine callC_kw (enter_call ?_) | refine enter_call ?_ | refine callC_kw (enter_callW ?_) | refine enter_callW ?_ | w_how
              w_top on
              try refine codeAny_mono ?_ (fun _ _ g => GoodW.toG g)
              have K0 := below_caller (Top.heap T)
              w_call any ho hd hcd hD T F
              clear hd TA
              k_drop
              skip)
            refine Mine.law_join (by assumption) (topRead_of (by assumption)) (by assumption) (by omega) (by with_unfolding_all rfl) (by rfl) (by rfl) (by rfl) (by rfl) (by assumption) rfl ?_
            intro h' tk' keep
            refine ⟨.inl ⟨.bool true, .bool true, [], rfl, fun cls => ?_, .bool true, ?_, fun _ => ⟨List.nodup_nil, fun a h => nomatch h⟩⟩, keep, rfl, ?_⟩
            · rfl
            · first | wrow_post | kc_post
            · assumption)
